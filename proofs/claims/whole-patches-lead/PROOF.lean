import PyProof.Rows.All
import Wide.All
import OpenK.AllK
import Wide.FinOn
import HandS.ForMost
import HandS.Rev
import HandS.RevRange
import HandS.SortInts
import HandS.TupAny
import HandS.Wide
import HandS.Deep
import KE.SortData
import HandS.Conv
import PySem.Challenge.RW_viewloom_k33_whole_patches_lead
set_option Elab.async false
set_option linter.all false
set_option maxRecDepth 100000
set_option maxHeartbeats 4000000
/-! The mathematics, part 1: nodes, the mirrors of the program's defs, contexts. Plain Lean. -/
namespace VL
open PySem

abbrev Attrs := List (Str × Str)

inductive Node where
  | text (i : Int) (s : Str)
  | elem (i : Int) (t : Str) (a : Attrs) (k : List Node)

namespace Node
def id : Node → Int
  | .text i _ => i
  | .elem i _ _ _ => i
def kids : Node → List Node
  | .text _ _ => []
  | .elem _ _ _ k => k
end Node

/-- induction over forests -/
theorem forest {Q : List Node → Prop} (nil : Q []) (cons : ∀ n r, Q n.kids → Q r → Q (n :: r)) : ∀ l, Q l := fun l =>
  Node.rec_1 (motive_1 := fun n => Q n.kids) (motive_2 := Q) (fun _ _ => nil) (fun _ _ _ _ h => h) nil (fun n r h1 h2 => cons n r h1 h2) l

mutual
def idsN : Node → List Int
  | .text i _ => [i]
  | .elem i _ _ k => i :: ids k
def ids : List Node → List Int
  | [] => []
  | n :: r => idsN n ++ ids r
end
theorem idsN_eq (n : Node) : idsN n = n.id :: ids n.kids := by
  cases n <;> simp [idsN, Node.id, Node.kids, ids]
theorem ids_nil : ids [] = [] := by simp [ids]
theorem ids_cons (n : Node) (r : List Node) : ids (n :: r) = idsN n ++ ids r := by simp [ids]
theorem ids_append (l r : List Node) : ids (l ++ r) = ids l ++ ids r := by
  induction l with
  | nil => simp [ids]
  | cons n l ih => simp [ids, ih, List.append_assoc]
theorem id_mem_idsN (n : Node) : n.id ∈ idsN n := by rw [idsN_eq]; simp
theorem mem_ids {l : List Node} {i : Int} : i ∈ ids l ↔ ∃ n ∈ l, i ∈ idsN n := by
  induction l with
  | nil => simp [ids]
  | cons n l ih => simp [ids, ih]
theorem id_mem_ids {l : List Node} {n : Node} (h : n ∈ l) : n.id ∈ ids l := mem_ids.mpr ⟨n, h, id_mem_idsN n⟩
theorem ids_perm {l r : List Node} (h : l.Perm r) : (ids l).Perm (ids r) := by
  induction h with
  | nil => exact .refl _
  | cons x _ ih => rw [ids_cons, ids_cons]; exact ih.append_left _
  | swap x y l =>
    rw [ids_cons, ids_cons, ids_cons, ids_cons, ← List.append_assoc, ← List.append_assoc]
    exact List.perm_append_comm.append_right _
  | trans _ _ a b => exact a.trans b
theorem ids_sub {l r : List Node} (h : l.Sublist r) : (ids l).Sublist (ids r) := by
  induction h with
  | slnil => exact .refl _
  | cons a _ ih => rw [ids_cons]; exact ih.trans (List.sublist_append_right _ _)
  | cons_cons a _ ih => rw [ids_cons, ids_cons]; exact ih.append_left _
theorem map_id_sub : ∀ l : List Node, (l.map Node.id).Sublist (ids l)
  | [] => by simp [ids]
  | n :: r => by
    rw [ids_cons, idsN_eq, List.map_cons, List.cons_append]
    exact ((map_id_sub r).trans (List.sublist_append_right _ _)).cons_cons _
theorem map_id_nodup {l : List Node} (h : (ids l).Nodup) : (l.map Node.id).Nodup := (map_id_sub l).nodup h
/-- a node is found by any id in it -/
theorem same_of_mem {l : List Node} (h : (ids l).Nodup) {a b : Node} (ha : a ∈ l) (hb : b ∈ l) {i : Int} (ia : i ∈ idsN a) (ib : i ∈ idsN b) : a = b := by
  induction l with
  | nil => cases ha
  | cons n r ih =>
    rw [ids_cons, List.nodup_append] at h
    obtain ⟨_, h2, h3⟩ := h
    rcases List.mem_cons.mp ha with e1 | ha1
    · rcases List.mem_cons.mp hb with e2 | hb1
      · rw [e1, e2]
      · exact absurd rfl (h3 i (e1 ▸ ia) i (mem_ids.mpr ⟨b, hb1, ib⟩))
    · rcases List.mem_cons.mp hb with e2 | hb1
      · exact absurd rfl (h3 i (e2 ▸ ib) i (mem_ids.mpr ⟨a, ha1, ia⟩))
      · exact ih h2 ha1 hb1
theorem kids_nodup {l : List Node} (h : (ids l).Nodup) {n : Node} (hn : n ∈ l) : (idsN n).Nodup := by
  induction l with
  | nil => cases hn
  | cons m r ih =>
    rw [ids_cons, List.nodup_append] at h
    rcases List.mem_cons.mp hn with rfl | hn
    · exact h.1
    · exact ih h.2.1 hn
theorem ids_kids_nodup {n : Node} (h : (idsN n).Nodup) : (ids n.kids).Nodup ∧ n.id ∉ ids n.kids := by
  rw [idsN_eq, List.nodup_cons] at h
  exact ⟨h.2, h.1⟩

/-! ### levels, attributes -/
/-- at most n levels -/
def Lv : Nat → List Node → Prop
  | 0, l => l = []
  | n + 1, l => ∀ x ∈ l, Lv n x.kids
theorem Lv.nil : ∀ n, Lv n []
  | 0 => rfl
  | n + 1 => fun _ h => nomatch h
theorem Lv.mem {n : Nat} {l : List Node} (h : Lv n l) {x : Node} (hx : x ∈ l) : ∃ m, n = m + 1 ∧ Lv m x.kids := by
  cases n with
  | zero => rw [show l = [] from h] at hx; cases hx
  | succ m => exact ⟨m, rfl, h x hx⟩
theorem Lv.sub {n : Nat} {l r : List Node} (h : Lv n r) (hs : ∀ x ∈ l, x ∈ r) : Lv n l := by
  cases n with
  | zero =>
    have e : r = [] := h
    subst e
    cases l with
    | nil => rfl
    | cons x _ => exact absurd (hs x (by simp)) (by simp)
  | succ m => exact fun x hx => h x (hs x hx)
theorem Lv.mono : ∀ {n m : Nat} {l : List Node}, Lv n l → n ≤ m → Lv m l
  | 0, m, l, h, _ => by
    have e : l = [] := h
    subst e
    exact Lv.nil m
  | n + 1, m, l, h, hm => by
    obtain ⟨k, rfl⟩ : ∃ k, m = k + 1 := ⟨m - 1, by omega⟩
    exact fun x hx => (h x hx).mono (by omega)

mutual
-- every element's attributes are as P says
def AtN (P : Attrs → Prop) : Node → Prop
  | .text _ _ => True
  | .elem _ _ a k => P a ∧ At P k
def At (P : Attrs → Prop) : List Node → Prop
  | [] => True
  | n :: r => AtN P n ∧ At P r
end
theorem at_nil {P : Attrs → Prop} : At P [] := by simp [At]
theorem at_cons {P : Attrs → Prop} {n : Node} {r : List Node} : At P (n :: r) ↔ AtN P n ∧ At P r := by simp [At]
theorem at_append {P : Attrs → Prop} {l r : List Node} : At P (l ++ r) ↔ At P l ∧ At P r := by
  induction l with
  | nil => simp [At]
  | cons n l ih => simp [At, ih, and_assoc]
theorem at_mem {P : Attrs → Prop} {l : List Node} : At P l ↔ ∀ x ∈ l, AtN P x := by
  induction l with
  | nil => simp [At]
  | cons n l ih => simp [At, ih]
theorem atN_kids {P : Attrs → Prop} {n : Node} (h : AtN P n) : At P n.kids := by
  cases n with
  | text i s => exact at_nil
  | elem i t a k =>
    simp only [AtN] at h
    exact h.2
theorem At.imp {P Q : Attrs → Prop} (h : ∀ a, P a → Q a) : ∀ l : List Node, At P l → At Q l := by
  intro l
  induction l using forest with
  | nil => intro _; exact at_nil
  | cons n r h1 h2 =>
    intro hl
    obtain ⟨ha, hr⟩ := at_cons.mp hl
    refine at_cons.mpr ⟨?_, h2 hr⟩
    cases n with
    | text i s => simp [AtN]
    | elem i t a k =>
      simp only [AtN] at ha ⊢
      exact ⟨h _ ha.1, h1 ha.2⟩

/-! ### the program's defs, mirrored -/
inductive Op where
  | remove (p i : Int)
  | insert (p : Int) (x : Node) (ah : Option Int)
  | move (p i : Int) (ah : Option Int)
  | text (i : Int) (s : Str)
  | set (i : Int) (n t : Str)
  | unset (i : Int) (n : Str)

def sameN : Node → Node → Bool
  | .text i _, .text j _ => i == j
  | .elem i t _ _, .elem j u _ _ => i == j && t == u
  | _, _ => false
theorem sameN_id {a b : Node} (h : sameN a b = true) : a.id = b.id := by
  cases a <;> cases b <;> simp_all [sameN, Node.id]
theorem sameN_comm (a b : Node) : sameN a b = sameN b a := by
  cases a <;> cases b <;> simp [sameN, Bool.beq_comm]
theorem sameN_refl (a : Node) : sameN a a = true := by cases a <;> simp [sameN]

/-- the partner of n among ks -/
def partner (ks : List Node) (n : Node) : Option Node := ks.find? fun k => sameN k n
theorem partner_mem {ks : List Node} {n m : Node} (h : partner ks n = some m) : m ∈ ks ∧ sameN m n = true := by
  unfold partner at h
  exact ⟨List.mem_of_find?_eq_some h, by simpa using List.find?_some h⟩
theorem partner_some {ks : List Node} (hk : (ks.map Node.id).Nodup) {n m : Node} (hm : m ∈ ks) (hs : sameN m n = true) : partner ks n = some m := by
  unfold partner
  induction ks with
  | nil => cases hm
  | cons k r ih =>
    rw [List.map_cons, List.nodup_cons] at hk
    rw [List.find?_cons]
    rcases List.mem_cons.mp hm with rfl | hm
    · rw [hs]
    · have hne : sameN k n = false := by
        cases e : sameN k n with
        | false => rfl
        | true =>
          have e1 := sameN_id e
          have e2 := sameN_id hs
          exact absurd (List.mem_map.mpr ⟨m, hm, by rw [e2, e1]⟩) hk.1
      rw [hne]
      exact ih hk.2 hm
theorem partner_none {ks : List Node} {n : Node} (h : partner ks n = none) {m : Node} (hm : m ∈ ks) : sameN m n = false := by
  unfold partner at h
  have := List.find?_eq_none.mp h m hm
  simpa using this

mutual
def remN (p : Int) (new : List Node) : Node → List Op
  | .text i s => match partner new (.text i s) with
    | none => [.remove p i]
    | some _ => []
  | .elem i t a k => match partner new (.elem i t a k) with
    | none => [.remove p i]
    | some m => remL i m.kids k
def remL (p : Int) (new : List Node) : List Node → List Op
  | [] => []
  | n :: r => remN p new n ++ remL p new r
end
theorem remN_eq (p : Int) (new : List Node) (n : Node) : remN p new n = match partner new n with | none => [.remove p n.id] | some m => remL n.id m.kids n.kids := by
  cases n with
  | text i s =>
    rw [remN]
    split <;> simp [Node.id, Node.kids, remL]
  | elem i t a k =>
    rw [remN]
    split <;> simp [Node.id, Node.kids]
theorem remL_nil (p : Int) (new : List Node) : remL p new [] = [] := by simp [remL]
theorem remL_cons (p : Int) (new : List Node) (n : Node) (r : List Node) : remL p new (n :: r) = remN p new n ++ remL p new r := by simp [remL]

/-- what is left of the old nodes when the removes are made -/
def setKids : Node → List Node → Node
  | .text i s, _ => .text i s
  | .elem i t a _, k => .elem i t a k
mutual
def restN (new : List Node) : Node → List Node
  | .text i s => match partner new (.text i s) with
    | none => []
    | some _ => [.text i s]
  | .elem i t a k => match partner new (.elem i t a k) with
    | none => []
    | some m => [.elem i t a (restL m.kids k)]
def restL (new : List Node) : List Node → List Node
  | [] => []
  | n :: r => restN new n ++ restL new r
end
theorem restN_eq (new : List Node) (n : Node) : restN new n = match partner new n with | none => [] | some m => [setKids n (restL m.kids n.kids)] := by
  cases n with
  | text i s =>
    rw [restN]
    split <;> simp [setKids]
  | elem i t a k =>
    rw [restN]
    split <;> simp [setKids, Node.kids]
theorem restL_nil (new : List Node) : restL new [] = [] := by simp [restL]
theorem restL_cons (new : List Node) (n : Node) (r : List Node) : restL new (n :: r) = restN new n ++ restL new r := by simp [restL]

/-! kept_ids -/
mutual
def keptN (old : List Node) : Node → List Int
  | .text i s => match partner old (.text i s) with
    | none => []
    | some _ => [i]
  | .elem i t a k => match partner old (.elem i t a k) with
    | none => []
    | some m => i :: keptL m.kids k
def keptL (old : List Node) : List Node → List Int
  | [] => []
  | n :: r => keptN old n ++ keptL old r
end
theorem keptN_eq (old : List Node) (n : Node) : keptN old n = match partner old n with | none => [] | some m => n.id :: keptL m.kids n.kids := by
  cases n with
  | text i s =>
    rw [keptN]
    split <;> simp [Node.id, Node.kids, keptL]
  | elem i t a k =>
    rw [keptN]
    split <;> simp [Node.id, Node.kids]
theorem keptL_nil (old : List Node) : keptL old [] = [] := by simp [keptL]
theorem keptL_cons (old : List Node) (n : Node) (r : List Node) : keptL old (n :: r) = keptN old n ++ keptL old r := by simp [keptL]

/-- own_changes -/
def own : Node → Node → List Op
  | .text i s, .text _ s' => if s = s' then [] else [.text i s']
  | .elem i _ a _, .elem _ _ a' _ =>
    (a.filter fun p => !(a'.map (·.1)).contains p.1).map (fun p => Op.unset i p.1) ++ (a'.filter fun p => !a.contains p).map fun p => Op.set i p.1 p.2
  | _, _ => []

/-- best_row: how long a rising row that begins at each place can be -/
def lenAt (x : Int) : List Int → List Int → Int → Int
  | y :: r, l :: t, acc => lenAt x r t (if y > x then (if l + 1 > acc then l + 1 else acc) else acc)
  | _, _, acc => acc
def lens : List Int → List Int
  | [] => []
  | x :: r => lenAt x r (lens r) 1 :: lens r
def above (row : List Int) (x : Int) : Bool := match row.getLast? with
  | none => true
  | some z => decide (z < x)
def pick : List Int → List Int → Int → List Int → List Int
  | x :: r, l :: t, w, row => if (decide (l = w) && above row x) = true then pick r t (w - 1) (row ++ [x]) else pick r t w row
  | _, _, _, row => row
def best (xs : List Int) : List Int := pick xs (lens xs) ((lens xs).foldl (fun a b => if b > a then b else a) 0) []

/-- placings -/
def keptHere (old new : List Node) : List Int := (old.filter fun n => (partner new n).isSome).map Node.id
def places (kept : List Int) (new : List Node) : List Int := (new.filter fun n => kept.contains n.id).map fun n => ((kept.idxOf n.id : Nat) : Int)
def staying (kept : List Int) (new : List Node) : List Int := (best (places kept new)).map fun k => kept.getD k.toNat 0
def placeGo (p : Int) (kept stay : List Int) : List Node → Option Int → List Op
  | [], _ => []
  | n :: r, ah => (if !kept.contains n.id then [.insert p n ah] else if !stay.contains n.id then [.move p n.id ah] else []) ++ placeGo p kept stay r (some n.id)
def placings (p : Int) (old new : List Node) : List Op := placeGo p (keptHere old new) (staying (keptHere old new) new) new.reverse none

/-! changes -/
mutual
def chgN (new : List Node) : Node → List Op
  | .text i s => match partner new (.text i s) with
    | none => []
    | some m => own (.text i s) m
  | .elem i t a k => match partner new (.elem i t a k) with
    | none => []
    | some m => own (.elem i t a k) m ++ (chgL m.kids k ++ placings i k m.kids)
def chgL (new : List Node) : List Node → List Op
  | [] => []
  | n :: r => chgN new n ++ chgL new r
end
theorem chgL_nil (new : List Node) : chgL new [] = [] := by simp [chgL]
theorem chgL_cons (new : List Node) (n : Node) (r : List Node) : chgL new (n :: r) = chgN new n ++ chgL new r := by simp [chgL]
def changes (p : Int) (old new : List Node) : List Op := chgL new old ++ placings p old new
def patch (old new : List Node) : List Op := remL 0 new old ++ changes 0 old new

/-! ### operations -/
mutual
def findN : Node → Int → Option Node
  | .text i s, p => if i = p then some (.text i s) else none
  | .elem i t a k, p => if i = p then some (.elem i t a k) else find k p
def find : List Node → Int → Option Node
  | [], _ => none
  | n :: r, p => match findN n p with
    | some x => some x
    | none => find r p
end
theorem findN_eq (n : Node) (p : Int) : findN n p = if n.id = p then some n else find n.kids p := by
  cases n with
  | text i s => simp [findN, Node.id, Node.kids, find]
  | elem i t a k => rw [findN]; rfl
theorem find_nil (p : Int) : find [] p = none := by simp [find]
theorem find_cons (n : Node) (r : List Node) (p : Int) : find (n :: r) p = match findN n p with | some x => some x | none => find r p := by simp [find]
def kidsOf (d : List Node) (p : Int) : Option (List Node) :=
  if p = 0 then some d else match find d p with
    | some (.elem _ _ _ k) => some k
    | _ => none
mutual
def levN : Node → Int → Nat
  | .text i _, p => if i = p then 1 else 0
  | .elem i _ _ k, p => if i = p then 1 else if lev k p > 0 then lev k p + 1 else 0
def lev : List Node → Int → Nat
  | [], _ => 0
  | n :: r, p => if levN n p > 0 then levN n p else lev r p
end
theorem levN_eq (n : Node) (p : Int) : levN n p = if n.id = p then 1 else if lev n.kids p > 0 then lev n.kids p + 1 else 0 := by
  cases n with
  | text i s => simp [levN, Node.id, Node.kids, lev]
  | elem i t a k => rw [levN]; rfl
theorem lev_nil (p : Int) : lev [] p = 0 := by simp [lev]
theorem lev_cons (n : Node) (r : List Node) (p : Int) : lev (n :: r) p = if levN n p > 0 then levN n p else lev r p := by simp [lev]
mutual
def wkN (p : Int) (ks : List Node) : Node → Node
  | .text i s => .text i s
  | .elem i t a k => if i = p then .elem i t a ks else .elem i t a (wk p ks k)
def wk (p : Int) (ks : List Node) : List Node → List Node
  | [] => []
  | n :: r => wkN p ks n :: wk p ks r
end
def withKids (d : List Node) (p : Int) (ks : List Node) : List Node := if p = 0 then ks else wk p ks d
mutual
def wnN (p : Int) (x : Node) : Node → Node
  | .text i s => if i = p then x else .text i s
  | .elem i t a k => if i = p then x else .elem i t a (wn p x k)
def wn (p : Int) (x : Node) : List Node → List Node
  | [] => []
  | n :: r => wnN p x n :: wn p x r
end
def put (ks : List Node) (x : Node) : Option Int → List Node
  | none => ks ++ [x]
  | some a => ks.flatMap fun k => if k.id = a then [x, k] else [k]
def leA (p q : Str × Str) : Bool := decide (p.1.cps.toList < q.1.cps.toList ∨ (p.1.cps.toList = q.1.cps.toList ∧ p.2.cps.toList ≤ q.2.cps.toList))
def chAttrs (a : Attrs) (n : Str) (t : Option Str) : Attrs :=
  ((a.filter fun p => p.1 != n) ++ (match t with | none => [] | some t => [(n, t)])).mergeSort leA
def others (ks : List Node) (i : Int) : List Node := ks.filter fun k => k.id != i
def made (d : List Node) : Op → List Node
  | .text i s => wn i (.text i s) d
  | .set i n t => match find d i with
    | some (.elem j g a k) => wn i (.elem j g (chAttrs a n (some t)) k) d
    | _ => d
  | .unset i n => match find d i with
    | some (.elem j g a k) => wn i (.elem j g (chAttrs a n none) k) d
    | _ => d
  | .insert p x ah => withKids d p (put ((kidsOf d p).getD []) x ah)
  | .remove p i => withKids d p (others ((kidsOf d p).getD []) i)
  | .move p i ah => match find ((kidsOf d p).getD []) i with
    | some x => withKids d p (put (others ((kidsOf d p).getD []) i) x ah)
    | none => d
/-- fault_of is None -/
def OpOk (d : List Node) : Op → Prop
  | .text i _ => ∃ s, find d i = some (.text i s)
  | .set i _ _ => ∃ g a k, find d i = some (.elem i g a k)
  | .unset i n => ∃ g a k, find d i = some (.elem i g a k) ∧ n ∈ a.map (·.1)
  | .insert p x ah => ∃ ks, kidsOf d p = some ks ∧ (∀ j ∈ idsN x, j ∉ ids d) ∧ (∀ a, ah = some a → a ∈ ks.map Node.id) ∧ ∃ n, n + (if p = 0 then 0 else lev d p) ≤ 40 ∧ Lv n [x]
  | .remove p i => ∃ ks, kidsOf d p = some ks ∧ i ∈ ks.map Node.id
  | .move p i ah => ∃ ks, kidsOf d p = some ks ∧ i ∈ ks.map Node.id ∧ (∀ a, ah = some a → a ≠ i ∧ a ∈ ks.map Node.id)

def Steps (G : List Node → Prop) : List Node → List Op → List Node → Prop
  | d, [], d' => d = d'
  | d, op :: r, d' => OpOk d op ∧ G (made d op) ∧ Steps G (made d op) r d'
theorem Steps.trans {G : List Node → Prop} : ∀ {a : List Op} {d d1 d2 : List Node} {b : List Op}, Steps G d a d1 → Steps G d1 b d2 → Steps G d (a ++ b) d2
  | [], d, d1, d2, b, h1, h2 => by
    have e : d = d1 := h1
    subst e
    exact h2
  | op :: r, d, d1, d2, b, h1, h2 => ⟨h1.1, h1.2.1, Steps.trans h1.2.2 h2⟩
theorem Steps.one {G : List Node → Prop} {d d' : List Node} {op : Op} (h : OpOk d op) (e : made d op = d') (g : G d') : Steps G d [op] d' := by
  subst e
  exact ⟨h, g, rfl⟩
theorem Steps.refl {G : List Node → Prop} (d : List Node) : Steps G d [] d := rfl
theorem Steps.imp {G G' : List Node → Prop} (hg : ∀ d, G d → G' d) : ∀ {a : List Op} {d d' : List Node}, Steps G d a d' → Steps G' d a d'
  | [], _, _, h => h
  | _ :: _, _, _, h => ⟨h.1, hg _ h.2.1, Steps.imp hg h.2.2⟩
end VL

/-! The mathematics, part 2: contexts, removes, own changes. Plain Lean. -/
namespace VL
open PySem

/-! ### contexts: a hole in a document -/
structure Fr where
  l : List Node
  i : Int
  t : Str
  a : Attrs
  r : List Node
abbrev Ctx := List Fr
def plug : Ctx → List Node → List Node
  | [], ks => ks
  | f :: c, ks => plug c (f.l ++ .elem f.i f.t f.a ks :: f.r)
def hp : Ctx → Int
  | [] => 0
  | f :: _ => f.i
def cids : Ctx → List Int
  | [] => []
  | f :: c => cids c ++ (ids f.l ++ f.i :: ids f.r)
def CLv (L : Nat) : Nat → Ctx → Prop
  | n, [] => n = L
  | n, f :: c => Lv (n + 1) f.l ∧ Lv (n + 1) f.r ∧ CLv L (n + 1) c
def CAt (P : Attrs → Prop) : Ctx → Prop
  | [] => True
  | f :: c => At P f.l ∧ P f.a ∧ At P f.r ∧ CAt P c

theorem ids_elem (l r k : List Node) (i : Int) (t : Str) (a : Attrs) : ids (l ++ .elem i t a k :: r) = ids l ++ (i :: (ids k ++ ids r)) := by
  rw [ids_append, ids_cons, idsN]; simp
theorem plug_ids : ∀ (c : Ctx) (ks : List Node), (ids (plug c ks)).Perm (cids c ++ ids ks)
  | [], ks => by simp [plug, cids]
  | f :: c, ks => by
    refine (plug_ids c _).trans ?_
    rw [ids_elem, cids, List.append_assoc, List.append_assoc]
    refine List.Perm.append_left _ (List.Perm.append_left _ ?_)
    rw [List.cons_append]
    exact (List.perm_append_comm).cons _
theorem plug_lv {L : Nat} : ∀ {c : Ctx} {n : Nat} {ks : List Node}, CLv L n c → Lv n ks → Lv L (plug c ks)
  | [], n, ks, h, hk => by
    have e : n = L := h
    subst e
    exact hk
  | f :: c, n, ks, h, hk => by
    obtain ⟨h1, h2, h3⟩ := h
    refine plug_lv (c := c) h3 ?_
    intro x hx
    rcases List.mem_append.mp hx with hx | hx
    · exact h1 x hx
    · rcases List.mem_cons.mp hx with rfl | hx
      · exact hk
      · exact h2 x hx
theorem plug_at {P : Attrs → Prop} : ∀ {c : Ctx} {ks : List Node}, CAt P c → At P ks → At P (plug c ks)
  | [], ks, _, hk => hk
  | f :: c, ks, h, hk => by
    obtain ⟨h1, h2, h3, h4⟩ := h
    refine plug_at (c := c) h4 ?_
    rw [at_append, at_cons]
    exact ⟨h1, by simp only [AtN]; exact ⟨h2, hk⟩, h3⟩
theorem clv_len {L : Nat} : ∀ {c : Ctx} {n : Nat}, CLv L n c → n + c.length = L
  | [], n, h => by simpa using (show n = L from h)
  | f :: c, n, h => by
    have := clv_len (c := c) h.2.2
    simp only [List.length_cons]
    omega

/-! find, level, with_kids, with_node in a context -/
theorem find_none : ∀ (l : List Node) (p : Int), p ∉ ids l → find l p = none := by
  intro l
  induction l using forest with
  | nil => intro p _; exact find_nil p
  | cons n r h1 h2 =>
    intro p hp
    rw [ids_cons, idsN_eq] at hp
    simp only [List.cons_append, List.mem_cons, List.mem_append, not_or] at hp
    rw [find_cons, findN_eq, if_neg (Ne.symm hp.1), h1 p hp.2.1]
    exact h2 p hp.2.2
theorem lev_none : ∀ (l : List Node) (p : Int), p ∉ ids l → lev l p = 0 := by
  intro l
  induction l using forest with
  | nil => intro p _; exact lev_nil p
  | cons n r h1 h2 =>
    intro p hp
    rw [ids_cons, idsN_eq] at hp
    simp only [List.cons_append, List.mem_cons, List.mem_append, not_or] at hp
    rw [lev_cons, levN_eq, if_neg (Ne.symm hp.1), h1 p hp.2.1]
    simp only [Nat.lt_irrefl, if_false, gt_iff_lt]
    exact h2 p hp.2.2
theorem wkN_eq (p : Int) (ks : List Node) (n : Node) (h : n.id ≠ p) : wkN p ks n = setKids n (wk p ks n.kids) := by
  cases n with
  | text i s => simp [wkN, setKids]
  | elem i t a k =>
    simp only [Node.id] at h
    rw [wkN, if_neg h]; simp [setKids, Node.kids]
theorem setKids_kids (n : Node) : setKids n n.kids = n := by cases n <;> simp [setKids, Node.kids]
theorem wk_none : ∀ (l : List Node) (p : Int) (ks : List Node), p ∉ ids l → wk p ks l = l := by
  intro l
  induction l using forest with
  | nil => intro p ks _; simp [wk]
  | cons n r h1 h2 =>
    intro p ks hp
    rw [ids_cons, idsN_eq] at hp
    simp only [List.cons_append, List.mem_cons, List.mem_append, not_or] at hp
    rw [wk, wkN_eq p ks n (Ne.symm hp.1), h1 p ks hp.2.1, setKids_kids, h2 p ks hp.2.2]
theorem wnN_eq (p : Int) (x : Node) (n : Node) (h : n.id ≠ p) : wnN p x n = setKids n (wn p x n.kids) := by
  cases n with
  | text i s =>
    simp only [Node.id] at h
    rw [wnN, if_neg h]; simp [setKids]
  | elem i t a k =>
    simp only [Node.id] at h
    rw [wnN, if_neg h]; simp [setKids, Node.kids]
theorem wn_none : ∀ (l : List Node) (p : Int) (x : Node), p ∉ ids l → wn p x l = l := by
  intro l
  induction l using forest with
  | nil => intro p x _; simp [wn]
  | cons n r h1 h2 =>
    intro p x hp
    rw [ids_cons, idsN_eq] at hp
    simp only [List.cons_append, List.mem_cons, List.mem_append, not_or] at hp
    rw [wn, wnN_eq p x n (Ne.symm hp.1), h1 p x hp.2.1, setKids_kids, h2 p x hp.2.2]
theorem find_append (l r : List Node) (p : Int) (h : p ∉ ids l) : find (l ++ r) p = find r p := by
  induction l with
  | nil => rfl
  | cons n l ih =>
    rw [ids_cons, List.mem_append, not_or] at h
    rw [List.cons_append, find_cons]
    have e : findN n p = none := by
      have q := find_none [n] p (by rw [ids_cons, ids_nil, List.append_nil]; exact h.1)
      rw [find_cons, find_nil] at q
      cases e : findN n p with
      | none => rfl
      | some x => rw [e] at q; cases q
    rw [e]
    exact ih h.2
theorem lev_append (l r : List Node) (p : Int) (h : p ∉ ids l) : lev (l ++ r) p = lev r p := by
  induction l with
  | nil => rfl
  | cons n l ih =>
    rw [ids_cons, List.mem_append, not_or] at h
    rw [List.cons_append, lev_cons]
    have e : levN n p = 0 := by
      have q := lev_none [n] p (by rw [ids_cons, ids_nil, List.append_nil]; exact h.1)
      rw [lev_cons, lev_nil] at q
      split at q <;> omega
    rw [e]
    simp only [Nat.lt_irrefl, if_false, gt_iff_lt]
    exact ih h.2
theorem wk_append (l r : List Node) (p : Int) (ks : List Node) : wk p ks (l ++ r) = wk p ks l ++ wk p ks r := by
  induction l with
  | nil => simp [wk]
  | cons n l ih => simp [wk, ih]
theorem wn_append (l r : List Node) (p : Int) (x : Node) : wn p x (l ++ r) = wn p x l ++ wn p x r := by
  induction l with
  | nil => simp [wn]
  | cons n l ih => simp [wn, ih]

theorem plug_find : ∀ (c : Ctx) (ds : List Node) (p : Int), p ∉ cids c → find (plug c ds) p = find ds p
  | [], ds, p, _ => rfl
  | f :: c, ds, p, h => by
    simp only [cids, List.mem_append, List.mem_cons, not_or] at h
    obtain ⟨h1, h2, h3, h4⟩ := h
    rw [plug, plug_find c _ p h1, find_append _ _ _ h2, find_cons, findN, if_neg (Ne.symm h3)]
    cases e : find ds p with
    | some x => rfl
    | none => exact find_none _ _ h4
theorem plug_lev : ∀ (c : Ctx) (ds : List Node) (p : Int), p ∉ cids c → 0 < lev ds p → lev (plug c ds) p = lev ds p + c.length
  | [], ds, p, _, _ => rfl
  | f :: c, ds, p, h, hd => by
    simp only [cids, List.mem_append, List.mem_cons, not_or] at h
    obtain ⟨h1, h2, h3, h4⟩ := h
    have e : lev (f.l ++ .elem f.i f.t f.a ds :: f.r) p = lev ds p + 1 := by
      rw [lev_append _ _ _ h2, lev_cons, levN, if_neg (Ne.symm h3), if_pos hd, if_pos (Nat.succ_pos _)]
    rw [plug, plug_lev c _ p h1 (by rw [e]; omega), e, List.length_cons]
    omega
theorem plug_wk : ∀ (c : Ctx) (ds : List Node) (p : Int) (ks : List Node), p ∉ cids c → wk p ks (plug c ds) = plug c (wk p ks ds)
  | [], ds, p, ks, _ => rfl
  | f :: c, ds, p, ks, h => by
    simp only [cids, List.mem_append, List.mem_cons, not_or] at h
    obtain ⟨h1, h2, h3, h4⟩ := h
    rw [plug, plug_wk c _ p ks h1, wk_append, wk_none _ _ _ h2, wk, wkN, if_neg (Ne.symm h3), wk_none _ _ _ h4]
    rfl
theorem plug_wn : ∀ (c : Ctx) (ds : List Node) (p : Int) (x : Node), p ∉ cids c → wn p x (plug c ds) = plug c (wn p x ds)
  | [], ds, p, x, _ => rfl
  | f :: c, ds, p, x, h => by
    simp only [cids, List.mem_append, List.mem_cons, not_or] at h
    obtain ⟨h1, h2, h3, h4⟩ := h
    rw [plug, plug_wn c _ p x h1, wn_append, wn_none _ _ _ h2, wn, wnN, if_neg (Ne.symm h3), wn_none _ _ _ h4]
    rfl

/-! ### good documents, good holes -/
structure Good (L : Nat) (U : List Int) (P : Attrs → Prop) (d : List Node) : Prop where
  nd : (ids d).Nodup
  inU : ∀ i ∈ ids d, i ∈ U
  lv : Lv L d
  att : At P d
structure GC (L : Nat) (U : List Int) (P : Attrs → Prop) (n : Nat) (c : Ctx) (ks : List Node) : Prop where
  nd : (cids c ++ ids ks).Nodup
  inU : ∀ i ∈ cids c ++ ids ks, i ∈ U
  clv : CLv L n c
  lv : Lv n ks
  cat : CAt P c
  att : At P ks
section
variable {L n : Nat} {U : List Int} {P : Attrs → Prop} {c : Ctx} {ks ks' : List Node}
theorem GC.good (h : GC L U P n c ks) : Good L U P (plug c ks) :=
  ⟨(plug_ids c ks).nodup_iff.mpr h.nd, fun i hi => h.inU i ((plug_ids c ks).mem_iff.mp hi), plug_lv h.clv h.lv, plug_at h.cat h.att⟩
theorem GC.sub (h : GC L U P n c ks) (hs : (ids ks').Sublist (ids ks)) (hl : Lv n ks') (ha : At P ks') : GC L U P n c ks' :=
  ⟨(hs.append_left _).nodup h.nd, fun i hi => h.inU i ((hs.append_left _).subset hi), h.clv, hl, h.cat, ha⟩
theorem GC.kids (h : GC L U P n c ks) : (ids ks).Nodup := (List.nodup_append.mp h.nd).2.1
theorem GC.off (h : GC L U P n c ks) {i : Int} (hi : i ∈ ids ks) : i ∉ cids c := fun hc => (List.nodup_append.mp h.nd).2.2 i hc i hi rfl
/-- into an element -/
theorem GC.push {l r k : List Node} {i : Int} {t : Str} {a : Attrs} (h : GC L U P n c (l ++ .elem i t a k :: r)) : ∃ m, n = m + 1 ∧ GC L U P m (⟨l, i, t, a, r⟩ :: c) k := by
  obtain ⟨m, rfl, hk⟩ := h.lv.mem (x := .elem i t a k) (by simp)
  have ep : (cids (⟨l, i, t, a, r⟩ :: c) ++ ids k).Perm (cids c ++ ids (l ++ .elem i t a k :: r)) := by
    rw [ids_elem, cids, List.append_assoc, List.append_assoc, List.cons_append]
    exact List.Perm.append_left _ (List.Perm.append_left _ (List.perm_append_comm.cons _))
  have ha := h.att
  rw [at_append, at_cons] at ha
  obtain ⟨a1, a2, a3⟩ := ha
  simp only [AtN] at a2
  exact ⟨m, rfl, ep.nodup_iff.mpr h.nd, fun j hj => h.inU j (ep.mem_iff.mp hj), ⟨h.lv.sub fun x hx => by simp [hx], h.lv.sub fun x hx => by simp [hx], h.clv⟩, hk, ⟨a1, a2.1, a3, h.cat⟩, a2.2⟩
/-- and out of it -/
theorem GC.pop {l r k : List Node} {i : Int} {t : Str} {a : Attrs} {m : Nat} (h : GC L U P m (⟨l, i, t, a, r⟩ :: c) k) : GC L U P (m + 1) c (l ++ .elem i t a k :: r) := by
  have ep : (cids (⟨l, i, t, a, r⟩ :: c) ++ ids k).Perm (cids c ++ ids (l ++ .elem i t a k :: r)) := by
    rw [ids_elem, cids, List.append_assoc, List.append_assoc, List.cons_append]
    exact List.Perm.append_left _ (List.Perm.append_left _ (List.perm_append_comm.cons _))
  obtain ⟨h1, h2, h3⟩ := h.clv
  obtain ⟨a1, a2, a3, a4⟩ := h.cat
  refine ⟨ep.nodup_iff.mp h.nd, fun j hj => h.inU j (ep.mem_iff.mpr hj), h3, fun x hx => ?_, a4, ?_⟩
  · rcases List.mem_append.mp hx with hx | hx
    · exact h1 x hx
    · rcases List.mem_cons.mp hx with rfl | hx
      · exact h.lv
      · exact h2 x hx
  · rw [at_append, at_cons]
    exact ⟨a1, by simp only [AtN]; exact ⟨a2, h.att⟩, a3⟩

variable (pos : ∀ i ∈ U, 1 ≤ i)
include pos
/-- the hole's parent -/
theorem GC.hp_kids (h : GC L U P n c ks) : kidsOf (plug c ks) (hp c) = some ks := by
  cases c with
  | nil => rfl
  | cons f c =>
    have h' := h.pop
    have hi : f.i ∈ ids (f.l ++ .elem f.i f.t f.a ks :: f.r) := by rw [ids_elem]; simp
    have h0 : 1 ≤ f.i := pos _ (h'.inU _ (List.mem_append_right _ hi))
    have hl : f.i ∉ ids f.l := by
      have := h'.kids
      rw [ids_elem, List.nodup_append] at this
      exact fun z => this.2.2 _ z _ (by simp) rfl
    rw [show hp (f :: c) = f.i from rfl]
    unfold kidsOf
    rw [if_neg (by omega)]
    rw [show plug (f :: c) ks = plug c (f.l ++ .elem f.i f.t f.a ks :: f.r) from rfl, plug_find c _ _ (h'.off hi), find_append _ _ _ hl, find_cons, findN, if_pos rfl]
theorem GC.hp_with (h : GC L U P n c ks) (ks' : List Node) : withKids (plug c ks) (hp c) ks' = plug c ks' := by
  cases c with
  | nil => rfl
  | cons f c =>
    have h' := h.pop
    have hi : f.i ∈ ids (f.l ++ .elem f.i f.t f.a ks :: f.r) := by rw [ids_elem]; simp
    have h0 : 1 ≤ f.i := pos _ (h'.inU _ (List.mem_append_right _ hi))
    have hnd := h'.kids
    rw [ids_elem, List.nodup_append, List.nodup_cons] at hnd
    have hl : f.i ∉ ids f.l := fun z => hnd.2.2 _ z _ (by simp) rfl
    have hr : f.i ∉ ids f.r := fun z => hnd.2.1.1 (List.mem_append_right _ z)
    rw [show hp (f :: c) = f.i from rfl]
    unfold withKids
    rw [if_neg (by omega)]
    rw [show plug (f :: c) ks = plug c (f.l ++ .elem f.i f.t f.a ks :: f.r) from rfl, plug_wk c _ _ _ (h'.off hi), wk_append, wk_none _ _ _ hl, wk, wkN, if_pos rfl, wk_none _ _ _ hr]
    rfl
theorem GC.hp_lev (h : GC L U P n c ks) : (if hp c = 0 then 0 else lev (plug c ks) (hp c)) = c.length := by
  cases c with
  | nil => rfl
  | cons f c =>
    have h' := h.pop
    have hi : f.i ∈ ids (f.l ++ .elem f.i f.t f.a ks :: f.r) := by rw [ids_elem]; simp
    have h0 : 1 ≤ f.i := pos _ (h'.inU _ (List.mem_append_right _ hi))
    have hl : f.i ∉ ids f.l := by
      have := h'.kids
      rw [ids_elem, List.nodup_append] at this
      exact fun z => this.2.2 _ z _ (by simp) rfl
    have e : lev (f.l ++ .elem f.i f.t f.a ks :: f.r) f.i = 1 := by
      rw [lev_append _ _ _ hl, lev_cons, levN, if_pos rfl, if_pos (by omega)]
    show (if f.i = 0 then 0 else _) = _
    rw [if_neg (by omega), show plug (f :: c) ks = plug c (f.l ++ .elem f.i f.t f.a ks :: f.r) from rfl]
    show lev _ f.i = _
    rw [plug_lev c _ _ (h'.off hi) (by omega), e, List.length_cons]
    omega
omit pos in
/-- a node in the hole -/
theorem GC.find_in {l r : List Node} {x : Node} (h : GC L U P n c (l ++ x :: r)) : find (plug c (l ++ x :: r)) x.id = some x := by
  have hi : x.id ∈ ids (l ++ x :: r) := id_mem_ids (by simp)
  have hl : x.id ∉ ids l := by
    have := h.kids
    rw [ids_append, List.nodup_append] at this
    exact fun z => this.2.2 _ z _ (by rw [ids_cons]; exact List.mem_append_left _ (id_mem_idsN x)) rfl
  rw [plug_find c _ _ (h.off hi), find_append _ _ _ hl, find_cons, findN_eq, if_pos rfl]
omit pos in
theorem GC.node_in {l r : List Node} {x y : Node} (h : GC L U P n c (l ++ x :: r)) : wn x.id y (plug c (l ++ x :: r)) = plug c (l ++ y :: r) := by
  have hi : x.id ∈ ids (l ++ x :: r) := id_mem_ids (by simp)
  have hnd := h.kids
  rw [ids_append, ids_cons, List.nodup_append] at hnd
  obtain ⟨_, h2, h3⟩ := hnd
  rw [List.nodup_append] at h2
  have hl : x.id ∉ ids l := fun z => h3 _ z _ (List.mem_append_left _ (id_mem_idsN x)) rfl
  have hr : x.id ∉ ids r := fun z => h2.2.2 _ (id_mem_idsN x) _ z rfl
  have e : wnN x.id y x = y := by
    cases x <;> simp [wnN, Node.id]
  rw [plug_wn c _ _ _ (h.off hi), wn_append, wn_none _ _ _ hl, wn, wn_none _ _ _ hr, e]

/-! ### the removes -/
omit pos in
theorem restN_ids (new : List Node) : ∀ l : List Node, (ids (restL new l)).Sublist (ids l) := by
  intro l
  induction l using forest generalizing new with
  | nil => rw [restL_nil]; exact .refl _
  | cons n r h1 h2 =>
    rw [restL_cons, restN_eq, ids_append, ids_cons]
    refine List.Sublist.append ?_ (h2 new)
    cases e : partner new n with
    | none => simp [ids]
    | some m =>
      cases n with
      | text i s => simp [ids, setKids]
      | elem i t a k =>
        simp only [setKids, ids_cons, ids_nil, List.append_nil, idsN]
        exact (h1 m.kids).cons_cons _
omit pos in
theorem rest_lv : ∀ (l : List Node) (new : List Node) (n : Nat), Lv n l → Lv n (restL new l) := by
  intro l
  induction l using forest with
  | nil => intro new n _; rw [restL_nil]; exact Lv.nil n
  | cons x r h1 h2 =>
    intro new n h
    obtain ⟨m, rfl, hx⟩ := h.mem (x := x) (by simp)
    rw [restL_cons]
    intro y hy
    rcases List.mem_append.mp hy with hy | hy
    · rw [restN_eq] at hy
      cases e : partner new x with
      | none => rw [e] at hy; cases hy
      | some p =>
        rw [e] at hy
        have ey : y = setKids x (restL p.kids x.kids) := by simpa using hy
        rw [ey]
        cases x with
        | text i s => exact Lv.nil m
        | elem i t a k => exact h1 p.kids m hx
    · exact h2 new (m + 1) (h.sub fun z hz => by simp [hz]) y hy
omit pos in
theorem rest_at {P : Attrs → Prop} : ∀ (l : List Node) (new : List Node), At P l → At P (restL new l) := by
  intro l
  induction l using forest with
  | nil => intro new _; rw [restL_nil]; exact at_nil
  | cons x r h1 h2 =>
    intro new h
    obtain ⟨hx, hr⟩ := at_cons.mp h
    rw [restL_cons, at_append]
    refine ⟨?_, h2 new hr⟩
    rw [restN_eq]
    cases e : partner new x with
    | none => exact at_nil
    | some p =>
      cases x with
      | text i s => simp [At, AtN, setKids]
      | elem i t a k =>
        simp only [AtN] at hx
        simp only [setKids, At, AtN]
        exact ⟨⟨hx.1, h1 p.kids hx.2⟩, trivial⟩
omit pos in
theorem others_out {l r : List Node} {x : Node} (h : (ids (l ++ x :: r)).Nodup) : others (l ++ x :: r) x.id = l ++ r := by
  have hm := map_id_nodup h
  rw [List.map_append, List.map_cons, List.nodup_append, List.nodup_cons] at hm
  obtain ⟨_, ⟨h2, _⟩, h3⟩ := hm
  unfold others
  rw [List.filter_append, List.filter_cons_of_neg (by simp)]
  congr 1
  · rw [List.filter_eq_self]
    intro k hk
    have : k.id ≠ x.id := h3 _ (List.mem_map.mpr ⟨k, hk, rfl⟩) _ (by simp)
    simpa using this
  · rw [List.filter_eq_self]
    intro k hk
    have : k.id ≠ x.id := fun e => h2 (e ▸ List.mem_map.mpr ⟨k, hk, rfl⟩)
    simpa using this
theorem rem_steps : ∀ (todo new : List Node) (c : Ctx) (n : Nat) (done : List Node), GC L U P n c (done ++ todo) → Steps (Good L U P) (plug c (done ++ todo)) (remL (hp c) new todo) (plug c (done ++ restL new todo)) := by
  intro todo
  induction todo using forest with
  | nil => intro new c n done _; rw [remL_nil, restL_nil]; exact Steps.refl _
  | cons x r h1 h2 =>
    intro new c n done h
    rw [remL_cons, restL_cons, remN_eq, restN_eq]
    cases e : partner new x with
    | none =>
      have hk := h.hp_kids pos
      have ho : others (done ++ x :: r) x.id = done ++ r := others_out h.kids
      have hs : (done ++ r).Sublist (done ++ x :: r) := List.Sublist.append_left (List.sublist_cons_self _ _) _
      have h' : GC L U P n c (done ++ r) := h.sub (ids_sub hs) (h.lv.sub fun y hy => hs.subset hy) (at_mem.mpr fun y hy => at_mem.mp h.att y (hs.subset hy))
      refine Steps.trans (d1 := plug c (done ++ r)) (Steps.one ⟨_, hk, List.mem_map.mpr ⟨x, by simp, rfl⟩⟩ ?_ h'.good) ?_
      · show withKids _ _ (others ((kidsOf _ _).getD []) x.id) = _
        rw [hk, Option.getD_some, ho, h.hp_with pos]
      · exact h2 new c n done h'
    | some m =>
      cases x with
      | text i s =>
        show Steps _ _ (remL _ _ [] ++ _) _
        rw [remL_nil, List.nil_append]
        have := h2 new c n (done ++ [.text i s]) (by simpa using h)
        simpa [setKids] using this
      | elem i t a k =>
        obtain ⟨n', rfl, hg⟩ := h.push
        have s1 := h1 m.kids (⟨done, i, t, a, r⟩ :: c) n' [] hg
        have hg2 : GC L U P n' (⟨done, i, t, a, r⟩ :: c) (restL m.kids k) := hg.sub (restN_ids _ _) (rest_lv _ _ _ hg.lv) (rest_at _ _ hg.att)
        have hg3 := hg2.pop
        have s2 := h2 new c (n' + 1) (done ++ [.elem i t a (restL m.kids k)]) (by simpa using hg3)
        refine Steps.trans (d1 := plug c (done ++ .elem i t a (restL m.kids k) :: r)) s1 ?_
        simpa [setKids, Node.kids] using s2
end
end VL

/-! The mathematics, part 3: attributes, placings, the whole patch. Plain Lean. -/
namespace VL
open PySem

/-! ### attributes -/
def asc (a : Attrs) : Prop := a.Pairwise fun p q => p.1.cps.toList < q.1.cps.toList
theorem str_ext {a b : Str} (h : a.cps.toList = b.cps.toList) : a = b := by
  cases a; cases b
  simp only at h
  congr
  exact Array.toList_inj.mp h
theorem asc.names {a : Attrs} (h : asc a) : (a.map (·.1)).Nodup := by
  unfold List.Nodup
  rw [List.pairwise_map]
  refine List.Pairwise.imp ?_ h
  intro p q hlt e
  rw [e] at hlt
  exact List.lt_irrefl _ hlt
theorem asc.nodup {a : Attrs} (h : asc a) : a.Nodup := by
  refine List.Pairwise.imp ?_ h
  intro p q hlt e
  rw [e] at hlt
  exact List.lt_irrefl _ hlt
theorem asc.one {a : Attrs} (h : asc a) {p q : Str × Str} (hp : p ∈ a) (hq : q ∈ a) (e : p.1 = q.1) : p = q := by
  induction a with
  | nil => cases hp
  | cons x r ih =>
    obtain ⟨h1, h2⟩ := List.pairwise_cons.mp h
    rcases List.mem_cons.mp hp with e1 | hp1
    · rcases List.mem_cons.mp hq with e2 | hq1
      · rw [e1, e2]
      · exact absurd (h1 q hq1) (by rw [← e1, e]; exact List.lt_irrefl _)
    · rcases List.mem_cons.mp hq with e2 | hq1
      · exact absurd (h1 p hp1) (by rw [← e2, e]; exact List.lt_irrefl _)
      · exact ih h2 hp1 hq1
theorem asc_ext {a b : Attrs} (ha : asc a) (hb : asc b) (h : ∀ p, p ∈ a ↔ p ∈ b) : a = b :=
  List.Perm.eq_of_pairwise (fun p q _ _ h1 h2 => absurd h2 (List.lt_asymm h1)) ha hb ((List.perm_ext_iff_of_nodup ha.nodup hb.nodup).mpr h)
theorem leA_trans (p q r : Str × Str) (h1 : leA p q = true) (h2 : leA q r = true) : leA p r = true := by
  unfold leA at *
  simp only [decide_eq_true_eq] at *
  rcases h1 with h1 | ⟨e1, h1⟩
  · rcases h2 with h2 | ⟨e2, h2⟩
    · exact .inl (List.lt_trans h1 h2)
    · exact .inl (e2 ▸ h1)
  · rcases h2 with h2 | ⟨e2, h2⟩
    · exact .inl (e1 ▸ h2)
    · exact .inr ⟨e1.trans e2, List.le_trans h1 h2⟩
theorem leA_total (p q : Str × Str) : (leA p q || leA q p) = true := by
  unfold leA
  simp only [Bool.or_eq_true, decide_eq_true_eq]
  by_cases h : p.1.cps.toList < q.1.cps.toList
  · exact .inl (.inl h)
  · by_cases h' : q.1.cps.toList < p.1.cps.toList
    · exact .inr (.inl h')
    · have e : p.1.cps.toList = q.1.cps.toList := List.le_antisymm (List.not_lt.mp h') (List.not_lt.mp h)
      rcases List.le_total p.2.cps.toList q.2.cps.toList with z | z
      · exact .inl (.inr ⟨e, z⟩)
      · exact .inr (.inr ⟨e.symm, z⟩)
theorem asc_of {l : Attrs} (hn : (l.map (·.1)).Nodup) (h : l.Pairwise fun p q => leA p q = true) : asc l := by
  unfold List.Nodup at hn
  rw [List.pairwise_map] at hn
  refine (h.and hn).imp fun {p q} ⟨h1, h2⟩ => ?_
  unfold leA at h1
  simp only [decide_eq_true_eq] at h1
  rcases h1 with h1 | ⟨e, _⟩
  · exact h1
  · exact absurd (str_ext e) h2
theorem asc_le {l : Attrs} (h : asc l) : l.Pairwise fun p q => leA p q = true := h.imp fun {p q} h => by
  unfold leA
  simp only [decide_eq_true_eq]
  exact .inl h
theorem asc.sub {l r : Attrs} (h : asc r) (hs : l.Sublist r) : asc l := List.Pairwise.sublist hs h
theorem ch_none {a : Attrs} (h : asc a) (n : Str) : chAttrs a n none = a.filter fun p => p.1 != n := by
  unfold chAttrs
  rw [List.append_nil]
  exact List.mergeSort_of_pairwise (asc_le (h.sub List.filter_sublist))
theorem ch_some {a : Attrs} (h : asc a) (n t : Str) : asc (chAttrs a n (some t)) ∧ (chAttrs a n (some t)).length ≤ a.length + 1 ∧ ∀ p, p ∈ chAttrs a n (some t) ↔ p = (n, t) ∨ (p ∈ a ∧ p.1 ≠ n) := by
  have hp : (chAttrs a n (some t)).Perm ((a.filter fun p => p.1 != n) ++ [(n, t)]) := List.mergeSort_perm _ _
  have hn : (((a.filter fun p => p.1 != n) ++ [(n, t)]).map (·.1)).Nodup := by
    rw [List.map_append, List.nodup_append]
    refine ⟨(h.sub List.filter_sublist).names, by simp, fun x hx y hy e => ?_⟩
    obtain ⟨p, hp, rfl⟩ := List.mem_map.mp hx
    have := (List.mem_filter.mp hp).2
    simp at this hy
    exact this (e.trans hy)
  refine ⟨asc_of ((hp.map _).nodup_iff.mpr hn) (List.pairwise_mergeSort leA_trans leA_total _), ?_, fun p => ?_⟩
  · rw [hp.length_eq, List.length_append]
    have := List.length_filter_le (fun p : Str × Str => p.1 != n) a
    simp only [List.length_cons, List.length_nil]
    omega
  · rw [hp.mem_iff, List.mem_append, List.mem_filter]
    simp only [List.mem_cons, List.not_mem_nil, or_false, bne_iff_ne, ne_eq]
    constructor
    · rintro (h | h)
      · exact .inr h
      · exact .inl h
    · rintro (h | h)
      · exact .inr h
      · exact .inl h

/-- what an element's attributes may be -/
def AE (m : Nat) (a : Attrs) : Prop := asc a ∧ a.length ≤ m

section
variable {L n m : Nat} {U : List Int} {c : Ctx}
theorem GC.attr {P : Attrs → Prop} {l r k : List Node} {i : Int} {t t' : Str} {a a' : Attrs} (h : GC L U P n c (l ++ .elem i t a k :: r)) (ha : P a') : GC L U P n c (l ++ .elem i t' a' k :: r) := by
  obtain ⟨m, rfl, g⟩ := h.push
  refine GC.pop (a := a') (t := t') ⟨g.nd, g.inU, g.clv, g.lv, ?_, g.att⟩
  obtain ⟨a1, _, a3, a4⟩ := g.cat
  exact ⟨a1, ha, a3, a4⟩
theorem unset_steps (l r k : List Node) (i : Int) (t : Str) : ∀ (us : List Str) (X : Attrs), us.Nodup → (∀ u ∈ us, u ∈ X.map (·.1)) → AE m X → GC L U (AE m) n c (l ++ .elem i t X k :: r) →
    Steps (Good L U (AE m)) (plug c (l ++ .elem i t X k :: r)) (us.map fun u => Op.unset i u) (plug c (l ++ .elem i t (X.filter fun p => !us.contains p.1) k :: r)) := by
  intro us
  induction us with
  | nil =>
    intro X _ _ _ _
    rw [List.filter_eq_self.mpr (by simp)]
    exact Steps.refl _
  | cons u us ih =>
    intro X hd hm hX h
    obtain ⟨hu, hd'⟩ := List.nodup_cons.mp hd
    have hX1 : AE m (X.filter fun p => p.1 != u) := ⟨hX.1.sub List.filter_sublist, Nat.le_trans (List.length_filter_le _ _) hX.2⟩
    have h1 : GC L U (AE m) n c (l ++ .elem i t (X.filter fun p => p.1 != u) k :: r) := h.attr hX1
    have hf : find (plug c (l ++ .elem i t X k :: r)) i = some (.elem i t X k) := h.find_in
    refine Steps.trans (a := [Op.unset i u]) (Steps.one ⟨t, X, k, hf, hm u (by simp)⟩ ?_ h1.good) ?_
    · show (match find (plug c (l ++ Node.elem i t X k :: r)) i with | some (Node.elem j g a k') => wn i (Node.elem j g (chAttrs a u none) k') (plug c (l ++ Node.elem i t X k :: r)) | _ => _) = _
      rw [hf]
      show wn i (Node.elem i t (chAttrs X u none) k) (plug c (l ++ Node.elem i t X k :: r)) = _
      rw [ch_none hX.1]
      exact h.node_in
    · have := ih (X.filter fun p => p.1 != u) hd' (fun v hv => by
        obtain ⟨p, hp, rfl⟩ := List.mem_map.mp (hm v (by simp [hv]))
        exact List.mem_map.mpr ⟨p, List.mem_filter.mpr ⟨hp, by simpa using fun (e : p.1 = u) => hu (by rw [← e]; exact hv)⟩, rfl⟩) hX1 h1
      rw [List.filter_filter] at this
      have e : (fun p : Str × Str => !(u :: us).contains p.1) = fun p => (!us.contains p.1) && (p.1 != u) := by
        funext p
        rw [List.contains_cons, Bool.not_or, Bool.and_comm]
        rfl
      rw [e]
      exact this
theorem set_steps (l r k : List Node) (i : Int) (t : Str) : ∀ (ss : Attrs) (X : Attrs), (ss.map (·.1)).Nodup → asc X → X.length + ss.length ≤ m → GC L U (AE m) n c (l ++ .elem i t X k :: r) →
    ∃ Y, asc Y ∧ Y.length ≤ X.length + ss.length ∧ (∀ p, p ∈ Y ↔ p ∈ ss ∨ (p ∈ X ∧ p.1 ∉ ss.map (·.1))) ∧
      Steps (Good L U (AE m)) (plug c (l ++ .elem i t X k :: r)) (ss.map fun p => Op.set i p.1 p.2) (plug c (l ++ .elem i t Y k :: r)) := by
  intro ss
  induction ss with
  | nil =>
    intro X _ hX _ _
    exact ⟨X, hX, by simp, fun p => by simp, Steps.refl _⟩
  | cons s ss ih =>
    intro X hd hX hl h
    rw [List.map_cons, List.nodup_cons] at hd
    obtain ⟨c1, c2, c3⟩ := ch_some hX s.1 s.2
    simp only [List.length_cons] at hl
    have hX1 : AE m (chAttrs X s.1 (some s.2)) := ⟨c1, by omega⟩
    have h1 : GC L U (AE m) n c (l ++ .elem i t (chAttrs X s.1 (some s.2)) k :: r) := h.attr hX1
    have hf : find (plug c (l ++ .elem i t X k :: r)) i = some (.elem i t X k) := h.find_in
    obtain ⟨Y, y1, y2, y3, y4⟩ := ih (chAttrs X s.1 (some s.2)) hd.2 c1 (by omega) h1
    refine ⟨Y, y1, by simp only [List.length_cons]; omega, fun p => ?_, Steps.trans (a := [Op.set i s.1 s.2]) (Steps.one ⟨t, X, k, hf⟩ ?_ h1.good) y4⟩
    · rw [y3, c3]
      simp only [List.map_cons, List.mem_cons, not_or]
      constructor
      · rintro (h | ⟨h | ⟨h, h'⟩, h2⟩)
        · exact .inl (.inr h)
        · exact .inl (.inl h)
        · exact .inr ⟨h, h', h2⟩
      · rintro ((h | h) | ⟨h, h', h2⟩)
        · subst h
          exact .inr ⟨.inl rfl, hd.1⟩
        · exact .inl h
        · exact .inr ⟨.inr ⟨h, h'⟩, h2⟩
    · show (match find (plug c (l ++ Node.elem i t X k :: r)) i with | some (Node.elem j g a k') => wn i (Node.elem j g (chAttrs a s.1 (some s.2)) k') (plug c (l ++ Node.elem i t X k :: r)) | _ => _) = _
      rw [hf]
      exact h.node_in
/-- the own changes of a kept node -/
theorem own_steps {A : Nat} (hA : 2 * A ≤ m) (l r : List Node) (x y : Node) (k : List Node) (hs : sameN x y = true) (hx : AtN (AE A) x) (hy : AtN (AE A) y) (h : GC L U (AE m) n c (l ++ setKids x k :: r)) :
    Steps (Good L U (AE m)) (plug c (l ++ setKids x k :: r)) (own x y) (plug c (l ++ setKids y k :: r)) := by
  cases x with
  | text i s =>
    cases y with
    | elem => simp [sameN] at hs
    | text j s' =>
      have e : i = j := by simpa [sameN] using hs
      subst e
      simp only [setKids, own] at h ⊢
      by_cases e : s = s'
      · subst e
        rw [if_pos rfl]
        exact Steps.refl _
      · rw [if_neg e]
        have h1 : GC L U (AE m) n c (l ++ .text i s' :: r) := by
          refine ⟨?_, ?_, h.clv, ?_, h.cat, ?_⟩
          · have := h.nd
            simpa only [ids_append, ids_cons, idsN] using this
          · have := h.inU
            simpa only [ids_append, ids_cons, idsN] using this
          · obtain ⟨m', rfl, _⟩ := h.lv.mem (x := .text i s) (by simp)
            intro z hz
            rcases List.mem_append.mp hz with hz | hz
            · exact h.lv z (by simp [hz])
            · rcases List.mem_cons.mp hz with rfl | hz
              · exact Lv.nil _
              · exact h.lv z (by simp [hz])
          · have := h.att
            rw [at_append, at_cons] at this ⊢
            exact ⟨this.1, by simp [AtN], this.2.2⟩
        exact Steps.one ⟨s, h.find_in (x := .text i s)⟩ (h.node_in (x := .text i s)) h1.good
  | elem i t a k0 =>
    cases y with
    | text => simp [sameN] at hs
    | elem j t' a' k1 =>
      obtain ⟨e1, e2⟩ : i = j ∧ t = t' := by simpa [sameN] using hs
      subst e1
      subst e2
      simp only [AtN] at hx hy
      obtain ⟨⟨x1, x2⟩, _⟩ := hx
      obtain ⟨⟨y1, y2⟩, _⟩ := hy
      simp only [setKids, own] at h ⊢
      have eu : (a.filter fun p => !(a'.map (·.1)).contains p.1).map (fun p => Op.unset i p.1) = ((a.filter fun p => !(a'.map (·.1)).contains p.1).map (·.1)).map fun u => Op.unset i u := by rw [List.map_map]; rfl
      rw [eu]
      have s1 := unset_steps (m := m) l r k i t ((a.filter fun p => !(a'.map (·.1)).contains p.1).map (·.1)) a (x1.sub List.filter_sublist).names
        (fun u hu => by
          obtain ⟨p, hp, rfl⟩ := List.mem_map.mp hu
          exact List.mem_map.mpr ⟨p, (List.mem_filter.mp hp).1, rfl⟩) ⟨x1, by omega⟩ h
      generalize hX : (a.filter fun p => !(((a.filter fun p => !(a'.map (·.1)).contains p.1).map (·.1)).contains p.1)) = X at s1
      have memX : ∀ p, p ∈ X ↔ p ∈ a ∧ p.1 ∈ a'.map (·.1) := by
        intro p
        rw [← hX, List.mem_filter]
        refine and_congr_right fun hp => ?_
        rw [Bool.not_eq_true', ← Bool.not_eq_true, List.contains_iff_mem]
        constructor
        · intro hn
          apply Classical.byContradiction
          intro hq
          refine hn (List.mem_map.mpr ⟨p, List.mem_filter.mpr ⟨hp, ?_⟩, rfl⟩)
          rw [Bool.not_eq_true', ← Bool.not_eq_true, List.contains_iff_mem]
          exact hq
        · intro hq hn
          obtain ⟨q, hq', e⟩ := List.mem_map.mp hn
          have := (List.mem_filter.mp hq').2
          rw [Bool.not_eq_true', ← Bool.not_eq_true, List.contains_iff_mem] at this
          exact this (e ▸ hq)
      have aX : asc X := by rw [← hX]; exact x1.sub List.filter_sublist
      have lX : X.length ≤ a.length := by rw [← hX]; exact List.length_filter_le _ _
      have hX' : GC L U (AE m) n c (l ++ .elem i t X k :: r) := h.attr ⟨aX, by omega⟩
      have hls : (a'.filter fun p => !a.contains p).length ≤ a'.length := List.length_filter_le _ _
      obtain ⟨Y, z1, z2, z3, z4⟩ := set_steps (m := m) l r k i t (a'.filter fun p => !a.contains p) X (y1.sub List.filter_sublist).names aX (by omega) hX'
      have memS : ∀ p, p ∈ (a'.filter fun p => !a.contains p) ↔ p ∈ a' ∧ p ∉ a := by
        intro p
        rw [List.mem_filter, Bool.not_eq_true', ← Bool.not_eq_true, List.contains_iff_mem]
      have eY : Y = a' := by
        refine asc_ext z1 y1 fun p => ?_
        rw [z3, memS, memX]
        constructor
        · rintro (⟨h, _⟩ | ⟨⟨h1, h2⟩, h3⟩)
          · exact h
          · obtain ⟨q, hq, e⟩ := List.mem_map.mp h2
            have hqa : q ∈ a := Classical.byContradiction fun hn => h3 (List.mem_map.mpr ⟨q, (memS q).mpr ⟨hq, hn⟩, e⟩)
            rw [x1.one h1 hqa e.symm]
            exact hq
        · intro hp
          by_cases hpa : p ∈ a
          · refine .inr ⟨⟨hpa, List.mem_map.mpr ⟨p, hp, rfl⟩⟩, fun hn => ?_⟩
            obtain ⟨q, hq, e⟩ := List.mem_map.mp hn
            obtain ⟨q1, q2⟩ := (memS q).mp hq
            have : q = p := y1.one q1 hp e
            exact q2 (this ▸ hpa)
          · exact .inl ⟨hp, hpa⟩
      rw [eY] at z4
      exact s1.trans z4
end

/-! ### placings -/
theorem pick_rises : ∀ (xs ls : List Int) (w : Int) (row : List Int), row.Pairwise (· < ·) → (pick xs ls w row).Pairwise (· < ·)
  | [], ls, w, row, h => by cases ls <;> exact h
  | x :: r, [], w, row, h => by exact h
  | x :: r, l :: t, w, row, h => by
    rw [pick]
    split
    · rename_i hc
      rw [Bool.and_eq_true] at hc
      refine pick_rises r t _ _ ?_
      rw [List.pairwise_append]
      refine ⟨h, by simp, fun a ha b hb => ?_⟩
      have eb : b = x := by simpa using hb
      subst eb
      have hab := hc.2
      unfold above at hab
      cases e : row.getLast? with
      | none => rw [List.getLast?_eq_none_iff] at e; rw [e] at ha; cases ha
      | some z =>
        rw [e] at hab
        simp only [decide_eq_true_eq] at hab
        obtain ⟨ys, rfl⟩ := List.getLast?_eq_some_iff.mp e
        rcases List.mem_append.mp ha with ha | ha
        · exact Int.lt_trans ((List.pairwise_append.mp h).2.2 a ha z (by simp)) hab
        · have : a = z := by simpa using ha
          rw [this]; exact hab
    · exact pick_rises r t _ _ h
theorem pick_sub : ∀ (xs ls : List Int) (w : Int) (row : List Int), ∃ s, pick xs ls w row = row ++ s ∧ s.Sublist xs
  | [], ls, w, row => by cases ls <;> exact ⟨[], by simp [pick], .refl _⟩
  | x :: r, [], w, row => ⟨[], by simp [pick], List.nil_sublist _⟩
  | x :: r, l :: t, w, row => by
    rw [pick]
    split
    · obtain ⟨s, e, hs⟩ := pick_sub r t (w - 1) (row ++ [x])
      exact ⟨x :: s, by rw [e]; simp, hs.cons_cons _⟩
    · obtain ⟨s, e, hs⟩ := pick_sub r t w row
      exact ⟨s, e, hs.cons _⟩
theorem best_rises (xs : List Int) : (best xs).Pairwise (· < ·) := pick_rises _ _ _ _ List.Pairwise.nil
theorem best_sub (xs : List Int) : (best xs).Sublist xs := by
  obtain ⟨s, e, hs⟩ := pick_sub xs (lens xs) ((lens xs).foldl (fun a b => if b > a then b else a) 0) []
  unfold best
  rw [e]
  simpa using hs

/-- a sublist of a list without repeats is what a filter gives -/
theorem filter_of_sub {α : Type} [BEq α] [LawfulBEq α] : ∀ {s xs : List α}, s.Sublist xs → xs.Nodup → (xs.filter fun x => s.contains x) = s := by
  intro s xs h
  induction h with
  | slnil => intro _; rfl
  | cons a hs ih =>
    intro hn
    obtain ⟨h1, h2⟩ := List.nodup_cons.mp hn
    rw [List.filter_cons_of_neg (by rw [List.contains_iff_mem]; exact fun z => h1 (hs.subset z))]
    exact ih h2
  | cons_cons a hs ih =>
    intro hn
    obtain ⟨h1, h2⟩ := List.nodup_cons.mp hn
    rw [List.filter_cons_of_pos (by simp)]
    refine congrArg _ (Eq.trans (List.filter_congr fun x hx => ?_) (ih h2))
    have hne : (x == a) = false := beq_eq_false_iff_ne.mpr fun e => h1 (by rw [← e]; exact hx)
    rw [List.contains_cons, hne, Bool.false_or]
/-- strictly rising lists are told by their members -/
theorem rising_ext {a b : List Int} (ha : a.Pairwise (· < ·)) (hb : b.Pairwise (· < ·)) (h : ∀ x, x ∈ a ↔ x ∈ b) : a = b :=
  List.Perm.eq_of_pairwise (fun p q _ _ h1 h2 => by omega) ha hb ((List.perm_ext_iff_of_nodup (ha.imp fun h e => by omega) (hb.imp fun h e => by omega)).mpr h)
theorem idxOf_get {l : List Int} (h : l.Nodup) {k : Nat} (hk : k < l.length) : l.idxOf l[k] = k := by
  induction l generalizing k with
  | nil => simp at hk
  | cons x r ih =>
    obtain ⟨h1, h2⟩ := List.nodup_cons.mp h
    cases k with
    | zero => simp
    | succ k =>
      have hk' : k < r.length := by simpa using hk
      rw [List.getElem_cons_succ, List.idxOf_cons]
      have : (x == r[k]) = false := beq_eq_false_iff_ne.mpr fun e => h1 (e ▸ List.getElem_mem hk')
      rw [this, ih h2 hk']
      rfl
theorem get_idxOf {l : List Int} {x : Int} (h : x ∈ l) : l.getD (l.idxOf x) 0 = x := by
  have hlt := List.idxOf_lt_length_of_mem h
  rw [List.getD_eq_getElem?_getD, List.getElem?_eq_getElem hlt, Option.getD_some, List.getElem_idxOf]
/-- the two orders of those that stay are one. K: the kept ids in the old order; N: in the new order -/
theorem stay_same {K N : List Int} (hK : K.Nodup) (hN : N.Nodup) (hp : ∀ x ∈ N, x ∈ K) {row : List Int} (hs : row.Sublist (N.map fun x => ((K.idxOf x : Nat) : Int))) (hr : row.Pairwise (· < ·)) :
    (N.filter fun x => (row.map fun k => K.getD k.toNat 0).contains x) = row.map (fun k => K.getD k.toNat 0) ∧
    (K.filter fun x => (row.map fun k => K.getD k.toNat 0).contains x) = row.map (fun k => K.getD k.toNat 0) := by
  obtain ⟨N', hN', rfl⟩ := List.sublist_map_iff.mp hs
  have e : (N'.map fun x => ((K.idxOf x : Nat) : Int)).map (fun k => K.getD k.toNat 0) = N' := by
    rw [List.map_map]
    have : ∀ x ∈ N', ((fun k : Int => K.getD k.toNat 0) ∘ fun x => ((K.idxOf x : Nat) : Int)) x = x := fun x hx => by
      show K.getD ((K.idxOf x : Nat) : Int).toNat 0 = x
      rw [Int.toNat_natCast]
      exact get_idxOf (hp x (hN'.subset hx))
    conv => rhs; rw [← List.map_id N']
    exact List.map_congr_left this
  rw [e]
  refine ⟨filter_of_sub hN' hN, filter_of_sub ?_ hK⟩
  -- N' in the order of K: the places rise
  have hsub : ∀ x ∈ N', x ∈ K := fun x hx => hp x (hN'.subset hx)
  clear hs hN' e hN hp N
  rw [List.pairwise_map] at hr
  have key : N' = K.filter fun x => N'.contains x := by
    have hK2 : (K.filter fun x => N'.contains x).Pairwise fun a b => ((K.idxOf a : Nat) : Int) < ((K.idxOf b : Nat) : Int) := by
      refine List.Pairwise.sublist List.filter_sublist ?_
      rw [List.pairwise_iff_getElem]
      intro i j hi hj hij
      rw [idxOf_get hK hi, idxOf_get hK hj]
      omega
    have hn1 : N'.Nodup := hr.imp fun h e => by subst e; omega
    refine List.Perm.eq_of_pairwise (le := fun a b => ((K.idxOf a : Nat) : Int) < ((K.idxOf b : Nat) : Int)) (fun p q _ _ h1 h2 => by omega) hr hK2 ((List.perm_ext_iff_of_nodup hn1 (hK.sublist List.filter_sublist)).mpr fun x => ?_)
    rw [List.mem_filter, List.contains_iff_mem]
    exact ⟨fun h => ⟨hsub x h, h⟩, fun h => h.2⟩
  rw [key]
  exact List.filter_sublist

theorem put_nil (ks : List Node) (x : Node) : put ks x none = ks ++ [x] := rfl
theorem put_at {l r : List Node} {s : Node} (h : ((l ++ s :: r).map Node.id).Nodup) (x : Node) : put (l ++ s :: r) x (some s.id) = l ++ x :: s :: r := by
  rw [List.map_append, List.map_cons, List.nodup_append, List.nodup_cons] at h
  obtain ⟨_, ⟨h2, _⟩, h3⟩ := h
  have keep : ∀ zs : List Node, s.id ∉ zs.map Node.id → (zs.flatMap fun k => if k.id = s.id then [x, k] else [k]) = zs := by
    intro zs
    induction zs with
    | nil => intro _; rfl
    | cons z zs ih =>
      intro hz
      rw [List.map_cons, List.mem_cons, not_or] at hz
      rw [List.flatMap_cons, if_neg (Ne.symm hz.1), ih hz.2]
      rfl
  show (l ++ s :: r).flatMap (fun k => if k.id = s.id then [x, k] else [k]) = _
  rw [List.flatMap_append, List.flatMap_cons, if_pos rfl, keep r h2, keep l fun z => h3 _ z _ (by simp) rfl]
  simp

section
variable {L n : Nat} {U : List Int} {P : Attrs → Prop} {c : Ctx} {N : List Node}
/-- a hole filled with some of N's nodes -/
theorem GC.some_of (h : GC L U P n c N) {K : List Node} (hs : ∀ x ∈ K, x ∈ N) (hd : (K.map Node.id).Nodup) : GC L U P n c K := by
  have hN := h.kids
  -- ids K is without repeats
  have hK : ∀ K : List Node, (∀ x ∈ K, x ∈ N) → (K.map Node.id).Nodup → (ids K).Nodup := by
    intro K
    induction K with
    | nil => intro _ _; rw [ids_nil]; exact List.nodup_nil
    | cons x K ih =>
      intro hs hd
      rw [List.map_cons, List.nodup_cons] at hd
      rw [ids_cons, List.nodup_append]
      refine ⟨kids_nodup hN (hs x (by simp)), ih (fun y hy => hs y (by simp [hy])) hd.2, fun a ha b hb e => ?_⟩
      subst e
      obtain ⟨y, hy, hb⟩ := mem_ids.mp hb
      have := same_of_mem hN (hs x (by simp)) (hs y (by simp [hy])) ha hb
      subst this
      exact hd.1 (List.mem_map.mpr ⟨x, hy, rfl⟩)
  have sub : ∀ i ∈ ids K, i ∈ ids N := fun i hi => by
    obtain ⟨x, hx, hi⟩ := mem_ids.mp hi
    exact mem_ids.mpr ⟨x, hs x hx, hi⟩
  refine ⟨?_, fun i hi => ?_, h.clv, h.lv.sub hs, h.cat, at_mem.mpr fun x hx => at_mem.mp h.att x (hs x hx)⟩
  · have := List.nodup_append.mp h.nd
    exact List.nodup_append.mpr ⟨this.1, hK K hs hd, fun a ha b hb => this.2.2 a ha b (sub b hb)⟩
  · rcases List.mem_append.mp hi with hi | hi
    · exact h.inU i (List.mem_append_left _ hi)
    · exact h.inU i (List.mem_append_right _ (sub i hi))
variable (pos : ∀ i ∈ U, 1 ≤ i) (hL : L ≤ 40)
include pos hL
/-- the placings, from the last new node on: rp what is not yet placed (from the last one), S what is -/
theorem place_steps (hN : GC L U P n c N) (kept stay : List Int) (hst : ∀ i ∈ stay, i ∈ kept) : ∀ (rp S M : List Node), rp.reverse ++ S = N → (M.map Node.id).Perm (((rp.reverse.filter fun x => kept.contains x.id) ++ S).map Node.id) → (∀ x ∈ M, x ∈ N) →
    (M.filter fun x => stay.contains x.id || (S.map Node.id).contains x.id) = (rp.reverse.filter fun x => stay.contains x.id) ++ S →
    Steps (Good L U P) (plug c M) (placeGo (hp c) kept stay rp (S.head?.map Node.id)) (plug c N)
  | [], S, M, e, hp', hm, hf => by
    have eS : S = N := by simpa using e
    subst eS
    have : M = S := by
      have q : (M.filter fun x => stay.contains x.id || (S.map Node.id).contains x.id) = M := by
        rw [List.filter_eq_self]
        intro x hx
        rw [Bool.or_eq_true, List.contains_iff_mem, List.contains_iff_mem]
        exact .inr (List.mem_map.mpr ⟨x, hm x hx, rfl⟩)
      rw [q] at hf
      simpa using hf
    subst this
    exact Steps.refl _
  | x :: rp, S, M, e, hp', hm, hf => by
    have e' : rp.reverse ++ (x :: S) = N := by rw [← e]; simp
    have hNd := map_id_nodup hN.kids
    have hMd : (M.map Node.id).Nodup := by
      refine hp'.nodup_iff.mpr (List.Nodup.sublist (List.Sublist.map _ ?_) hNd)
      rw [← e]
      exact List.Sublist.append List.filter_sublist (List.Sublist.refl _)
    have hx : x ∈ N := by rw [← e']; simp
    have hg : GC L U P n c M := hN.some_of hm hMd
    -- x's id in the rest
    have hxd : x.id ∉ rp.reverse.map Node.id ∧ x.id ∉ S.map Node.id := by
      rw [← e', List.map_append, List.map_cons, List.nodup_append, List.nodup_cons] at hNd
      exact ⟨fun z => hNd.2.2 _ z _ (by simp) rfl, hNd.2.1.1⟩
    have inM : ∀ i, i ∈ M.map Node.id ↔ (∃ y ∈ rp.reverse, kept.contains y.id = true ∧ y.id = i) ∨ (kept.contains x.id = true ∧ x.id = i) ∨ i ∈ S.map Node.id := by
      intro i
      rw [hp'.mem_iff]
      simp only [List.reverse_cons, List.filter_append, List.map_append, List.mem_append, List.mem_map, List.mem_filter]
      constructor
      · rintro ((⟨y, ⟨h1, h2⟩, h3⟩ | ⟨y, ⟨h1, h2⟩, h3⟩) | h)
        · exact .inl ⟨y, h1, h2, h3⟩
        · have : y = x := by simpa using h1
          subst this
          exact .inr (.inl ⟨h2, h3⟩)
        · exact .inr (.inr h)
      · rintro (⟨y, h1, h2, h3⟩ | ⟨h2, h3⟩ | h)
        · exact .inl (.inl ⟨y, ⟨h1, h2⟩, h3⟩)
        · exact .inl (.inr ⟨x, ⟨by simp, h2⟩, h3⟩)
        · exact .inr h
    -- putting x ahead of S into M1, which lacks x
    have putting : ∀ M1 : List Node, (∀ y ∈ M1, y ∈ N) → (M1.map Node.id).Nodup → x.id ∉ M1.map Node.id → stay.contains x.id = false →
        (M1.filter fun y => stay.contains y.id || (S.map Node.id).contains y.id) = ((x :: rp).reverse.filter fun y => stay.contains y.id) ++ S →
        ∃ M2, put M1 x (S.head?.map Node.id) = M2 ∧ (∀ y ∈ M2, y ∈ N) ∧ M2.Perm (x :: M1) ∧ (M2.filter fun y => stay.contains y.id || ((x :: S).map Node.id).contains y.id) = (rp.reverse.filter fun y => stay.contains y.id) ++ (x :: S) := by
      intro M1 h1 h2 h3 h4 h5
      have e5 : ((x :: rp).reverse.filter fun y => stay.contains y.id) = rp.reverse.filter fun y => stay.contains y.id := by
        rw [List.reverse_cons, List.filter_append, List.filter_cons_of_neg (by rw [h4]; decide), List.filter_nil, List.append_nil]
      rw [e5] at h5
      have eF : ∀ Z : List Node, x.id ∉ Z.map Node.id → (Z.filter fun y => stay.contains y.id || ((x :: S).map Node.id).contains y.id) = Z.filter fun y => stay.contains y.id || (S.map Node.id).contains y.id := fun Z hz => by
        refine List.filter_congr fun y hy => ?_
        have : (y.id == x.id) = false := beq_eq_false_iff_ne.mpr fun e => hz (e ▸ List.mem_map.mpr ⟨y, hy, rfl⟩)
        rw [List.map_cons, List.contains_cons, this, Bool.false_or]
      have eX : (stay.contains x.id || ((x :: S).map Node.id).contains x.id) = true := by simp
      cases S with
      | nil =>
        refine ⟨M1 ++ [x], rfl, fun y hy => ?_, List.perm_append_comm, ?_⟩
        · rcases List.mem_append.mp hy with hy | hy
          · exact h1 y hy
          · have : y = x := by simpa using hy
            rw [this]; exact hx
        · rw [List.filter_append, eF M1 h3, h5, List.filter_cons, if_pos eX]
          simp
      | cons s S' =>
        have hs : s ∈ M1 := by
          have : s ∈ (M1.filter fun y => stay.contains y.id || ((s :: S').map Node.id).contains y.id) := by rw [h5]; simp
          exact (List.mem_filter.mp this).1
        obtain ⟨l, r, rfl⟩ := List.append_of_mem hs
        have h3' : x.id ∉ l.map Node.id ∧ x.id ∉ (s :: r).map Node.id := by
          rw [List.map_append, List.mem_append, not_or] at h3
          exact h3
        refine ⟨l ++ x :: s :: r, put_at h2 x, fun y hy => ?_, List.perm_middle, ?_⟩
        · rcases List.mem_append.mp hy with hy | hy
          · exact h1 y (by simp [hy])
          · rcases List.mem_cons.mp hy with rfl | hy
            · exact hx
            · exact h1 y (List.mem_append_right _ hy)
        · rw [List.filter_append, List.filter_cons, if_pos eX, eF l h3'.1, eF (s :: r) h3'.2]
          rw [List.filter_append] at h5
          have eS2 : (stay.contains s.id || ((s :: S').map Node.id).contains s.id) = true := by simp
          rw [List.filter_cons, if_pos eS2] at h5 ⊢
          -- the split at s
          have hdl : s ∉ (l.filter fun y => stay.contains y.id || ((s :: S').map Node.id).contains y.id) := fun z => by
            have z := (List.mem_filter.mp z).1
            rw [List.map_append, List.map_cons, List.nodup_append] at h2
            exact h2.2.2 _ (List.mem_map.mpr ⟨s, z, rfl⟩) _ (by simp) rfl
          have hdr : s ∉ (rp.reverse.filter fun y => stay.contains y.id) := fun z => by
            have z := (List.mem_filter.mp z).1
            rw [← e', List.map_append, List.map_cons, List.nodup_append] at hNd
            exact hNd.2.2 _ (List.mem_map.mpr ⟨s, z, rfl⟩) s.id (by simp) rfl
          have split : ∀ (a b a' b' : List Node), s ∉ a → s ∉ a' → a ++ s :: b = a' ++ s :: b' → a = a' ∧ b = b' := by
            intro a
            induction a with
            | nil =>
              intro b a' b' _ ha' h
              cases a' with
              | nil => simpa using h
              | cons y a' =>
                rw [List.nil_append, List.cons_append, List.cons.injEq] at h
                exact absurd (by rw [h.1]; simp) ha'
            | cons z a ih =>
              intro b a' b' ha ha' h
              cases a' with
              | nil =>
                rw [List.nil_append, List.cons_append, List.cons.injEq] at h
                exact absurd (by rw [h.1]; simp) ha
              | cons y a' =>
                rw [List.cons_append, List.cons_append, List.cons.injEq] at h
                obtain ⟨i1, i2⟩ := ih b a' b' (fun z => ha (by simp [z])) (fun z => ha' (by simp [z])) h.2
                exact ⟨by rw [h.1, i1], i2⟩
          obtain ⟨q1, q2⟩ := split _ _ _ _ hdl hdr h5
          rw [q1, q2]
    have ahOk : ∀ M1 : List Node, (M1.filter fun y => stay.contains y.id || (S.map Node.id).contains y.id) = ((x :: rp).reverse.filter fun y => stay.contains y.id) ++ S → ∀ a, S.head?.map Node.id = some a → a ∈ M1.map Node.id := by
      intro M1 h5 a ha
      cases S with
      | nil => simp at ha
      | cons s S' =>
        have ea : s.id = a := by simpa using ha
        subst ea
        have : s ∈ (M1.filter fun y => stay.contains y.id || ((s :: S').map Node.id).contains y.id) := by rw [h5]; simp
        exact List.mem_map.mpr ⟨s, (List.mem_filter.mp this).1, rfl⟩
    have ahNe : ∀ a, S.head?.map Node.id = some a → a ≠ x.id := by
      intro a ha
      cases S with
      | nil => simp at ha
      | cons s S' =>
        have ea : s.id = a := by simpa using ha
        subst ea
        exact fun q => hxd.2 (by rw [← q]; simp)
    rw [placeGo]
    by_cases hk : kept.contains x.id = true
    · by_cases hs : stay.contains x.id = true
      · -- it stays
        rw [hk, hs]
        show Steps _ _ ([] ++ placeGo (hp c) kept stay rp ((x :: S).head?.map Node.id)) _
        rw [List.nil_append]
        refine place_steps hN kept stay hst rp (x :: S) M e' ?_ hm ?_
        · refine hp'.trans ?_
          rw [List.reverse_cons, List.filter_append, List.filter_cons, if_pos hk, List.filter_nil, List.append_assoc]
          exact .refl _
        · have : (M.filter fun y => stay.contains y.id || ((x :: S).map Node.id).contains y.id) = M.filter fun y => stay.contains y.id || (S.map Node.id).contains y.id := by
            refine List.filter_congr fun y hy => ?_
            rw [List.map_cons, List.contains_cons]
            by_cases ey : y.id = x.id
            · rw [ey, hs]; rfl
            · rw [beq_eq_false_iff_ne.mpr ey, Bool.false_or]
          rw [this, hf, List.reverse_cons, List.filter_append, List.filter_cons, if_pos hs, List.filter_nil, List.append_assoc]
          rfl
      · -- it is moved
        have hs' : stay.contains x.id = false := by simpa using hs
        rw [hk, hs']
        show Steps _ _ ([Op.move (hp c) x.id (S.head?.map Node.id)] ++ placeGo (hp c) kept stay rp ((x :: S).head?.map Node.id)) _
        have hxM : x.id ∈ M.map Node.id := (inM x.id).mpr (.inr (.inl ⟨hk, rfl⟩))
        obtain ⟨y, hy, ey⟩ := List.mem_map.mp hxM
        have eyx : y = x := same_of_mem hN.kids (hm y hy) hx (id_mem_idsN y) (by rw [ey]; exact id_mem_idsN x)
        subst eyx
        obtain ⟨l, r, rfl⟩ := List.append_of_mem hy
        have ho : others (l ++ y :: r) y.id = l ++ r := others_out hg.kids
        have hsub : (l ++ r).Sublist (l ++ y :: r) := List.Sublist.append_left (List.sublist_cons_self _ _) _
        have hnot : y.id ∉ (l ++ r).map Node.id := by
          have h2 := hMd
          rw [List.map_append, List.map_cons, List.nodup_append, List.nodup_cons] at h2
          rw [List.map_append, List.mem_append, not_or]
          exact ⟨fun z => h2.2.2 _ z _ (by simp) rfl, h2.2.1.1⟩
        have hf1 : ((l ++ r).filter fun z => stay.contains z.id || (S.map Node.id).contains z.id) = ((y :: rp).reverse.filter fun z => stay.contains z.id) ++ S := by
          rw [← hf, List.filter_append, List.filter_append, List.filter_cons_of_neg]
          rw [hs', Bool.false_or, List.contains_iff_mem]
          exact hxd.2
        obtain ⟨M2, p1, p2, p3, p4⟩ := putting (l ++ r) (fun z hz => hm z (hsub.subset hz)) ((hsub.map _).nodup hMd) hnot hs' hf1
        have p3' := p3.map Node.id
        have hM2d : (M2.map Node.id).Nodup := p3'.nodup_iff.mpr (by rw [List.map_cons, List.nodup_cons]; exact ⟨hnot, (hsub.map _).nodup hMd⟩)
        have hg2 : GC L U P n c M2 := hN.some_of p2 hM2d
        have hk0 := hg.hp_kids pos
        have hfind : find (l ++ y :: r) y.id = some y := by
          have := (show GC L (U) P n [] (l ++ y :: r) → _ from fun g => g.find_in)
          have hl : y.id ∉ ids l := by
            have q := hg.kids
            rw [ids_append, List.nodup_append] at q
            exact fun z => q.2.2 _ z _ (by rw [ids_cons]; exact List.mem_append_left _ (id_mem_idsN y)) rfl
          rw [find_append _ _ _ hl, find_cons, findN_eq, if_pos rfl]
        refine Steps.trans (d1 := plug c M2) (Steps.one ⟨_, hk0, hxM, fun a ha => ⟨ahNe a ha, ahOk _ hf a ha⟩⟩ ?_ hg2.good) ?_
        · show (match find ((kidsOf (plug c (l ++ y :: r)) (hp c)).getD []) y.id with | some x => withKids (plug c (l ++ y :: r)) (hp c) (put (others ((kidsOf (plug c (l ++ y :: r)) (hp c)).getD []) y.id) x (S.head?.map Node.id)) | none => _) = _
          rw [hk0, Option.getD_some, hfind, ho]
          show withKids (plug c (l ++ y :: r)) (hp c) (put (l ++ r) y (S.head?.map Node.id)) = _
          rw [p1]
          exact hg.hp_with pos M2
        · refine place_steps hN kept stay hst rp (y :: S) M2 e' ?_ p2 p4
          refine p3'.trans ?_
          rw [List.map_cons]
          have q : (y.id :: (l ++ r).map Node.id).Perm ((l ++ y :: r).map Node.id) := by
            rw [List.map_append, List.map_append, List.map_cons]
            exact List.perm_middle.symm
          refine q.trans (hp'.trans ?_)
          rw [List.reverse_cons, List.filter_append, List.filter_cons, if_pos hk, List.filter_nil, List.append_assoc]
          exact .refl _
    · -- it is inserted
      have hk' : kept.contains x.id = false := by simpa using hk
      have hs' : stay.contains x.id = false := by
        rw [← Bool.not_eq_true, List.contains_iff_mem]
        exact fun z => hk (List.contains_iff_mem.mpr (hst _ z))
      rw [hk']
      show Steps _ _ ([Op.insert (hp c) x (S.head?.map Node.id)] ++ placeGo (hp c) kept stay rp ((x :: S).head?.map Node.id)) _
      have hnot : x.id ∉ M.map Node.id := by
        rw [inM]
        rintro (⟨y, h1, h2, h3⟩ | ⟨h2, _⟩ | h)
        · exact hxd.1 (List.mem_map.mpr ⟨y, h1, h3⟩)
        · exact hk h2
        · exact hxd.2 h
      obtain ⟨M2, p1, p2, p3, p4⟩ := putting M hm hMd hnot hs' hf
      have p3' := p3.map Node.id
      have hM2d : (M2.map Node.id).Nodup := p3'.nodup_iff.mpr (by rw [List.map_cons, List.nodup_cons]; exact ⟨hnot, hMd⟩)
      have hg2 : GC L U P n c M2 := hN.some_of p2 hM2d
      have hk0 := hg.hp_kids pos
      have hlev := hg.hp_lev pos
      have hlen := clv_len hg.clv
      refine Steps.trans (d1 := plug c M2) (Steps.one ⟨_, hk0, fun j hj hd => ?_, fun a ha => ahOk _ hf a ha, n, by rw [hlev]; omega, hN.lv.sub (by simpa using hx)⟩ ?_ hg2.good) ?_
      · rcases List.mem_append.mp ((plug_ids c M).mem_iff.mp hd) with hd | hd
        · exact hN.off (mem_ids.mpr ⟨x, hx, hj⟩) hd
        · obtain ⟨y, hy, hjy⟩ := mem_ids.mp hd
          have := same_of_mem hN.kids hx (hm y hy) hj hjy
          subst this
          exact hnot (List.mem_map.mpr ⟨x, hy, rfl⟩)
      · show withKids (plug c M) (hp c) (put ((kidsOf (plug c M) (hp c)).getD []) x (S.head?.map Node.id)) = _
        rw [hk0, Option.getD_some, p1]
        exact hg.hp_with pos M2
      · refine place_steps hN kept stay hst rp (x :: S) M2 e' ?_ p2 p4
        refine p3'.trans ?_
        rw [List.map_cons]
        refine (hp'.cons _).trans ?_
        rw [List.reverse_cons, List.filter_append, List.filter_cons, if_neg hk, List.filter_nil, List.append_nil, List.map_append, List.map_append, List.map_cons]
        exact List.perm_middle.symm
end
end VL

/-! The mathematics, part 4: the patch leads, is careful, its removes stand first. Plain Lean. -/
namespace VL
open PySem

theorem chgN_eq (new : List Node) (n : Node) : chgN new n = match partner new n with
    | none => []
    | some m => own n m ++ (match n with | .text _ _ => [] | .elem i _ _ k => chgL m.kids k ++ placings i k m.kids) := by
  cases n with
  | text i s =>
    rw [chgN]
    cases partner new (.text i s) <;> simp
  | elem i t a k =>
    rw [chgN] <;> cases partner new (.elem i t a k) <;> rfl

/-- the partners, in the old order -/
def mates (new old : List Node) : List Node := old.filterMap (partner new)
theorem mates_mem {new old : List Node} {m : Node} (h : m ∈ mates new old) : m ∈ new := by
  obtain ⟨n, _, hn⟩ := List.mem_filterMap.mp h
  exact (partner_mem hn).1
theorem mates_ids {new : List Node} : ∀ old : List Node, (mates new old).map Node.id = keptHere old new
  | [] => rfl
  | n :: r => by
    have ih := mates_ids (new := new) r
    unfold mates keptHere at *
    rw [List.filterMap_cons, List.filter_cons]
    cases e : partner new n with
    | none => simpa using ih
    | some m =>
      have := sameN_id (partner_mem e).2
      simp only [Option.isSome_some, if_true, List.map_cons, this]
      rw [ih]
theorem mates_nodup {new old : List Node} (h : (old.map Node.id).Nodup) : ((mates new old).map Node.id).Nodup := by
  rw [mates_ids]
  exact (List.Sublist.map _ List.filter_sublist).nodup h
theorem keptHere_mem {old new : List Node} (ho : (old.map Node.id).Nodup) (hn : (new.map Node.id).Nodup) {x : Node} (hx : x ∈ new) : x.id ∈ keptHere old new ↔ ∃ n ∈ old, sameN x n = true := by
  unfold keptHere
  rw [List.mem_map]
  constructor
  · rintro ⟨n, hn', e⟩
    obtain ⟨h1, h2⟩ := List.mem_filter.mp hn'
    obtain ⟨m, hm⟩ := Option.isSome_iff_exists.mp h2
    obtain ⟨m1, m2⟩ := partner_mem hm
    refine ⟨n, h1, ?_⟩
    have e2 := sameN_id m2
    have : m = x := by
      have := e2.trans e
      -- unique id in new
      obtain ⟨i, hi, ei⟩ := List.getElem_of_mem m1
      obtain ⟨j, hj, ej⟩ := List.getElem_of_mem hx
      have : i = j := (List.getElem_inj (xs := new.map Node.id) (h₀ := by simpa using hi) (h₁ := by simpa using hj) hn).mp (by rw [List.getElem_map, List.getElem_map, ei, ej, this])
      subst this
      rw [← ei, ← ej]
    rw [← this]
    exact m2
  · rintro ⟨n, h1, h2⟩
    refine ⟨n, List.mem_filter.mpr ⟨h1, ?_⟩, (sameN_id h2).symm⟩
    rw [partner_some hn hx h2]
    rfl

section
variable {L A m : Nat} {U : List Int} {c : Ctx}
/-- what a restricted node holds is in its partner -/
theorem rest_in : ∀ (l new : List Node) (j : Int), j ∈ ids (restL new l) → j ∈ ids (mates new l) := by
  intro l
  induction l using forest with
  | nil => intro new j h; rw [restL_nil, ids_nil] at h; cases h
  | cons x r h1 h2 =>
    intro new j h
    rw [restL_cons, ids_append, List.mem_append] at h
    unfold mates
    rw [List.filterMap_cons]
    rcases h with h | h
    · rw [restN_eq] at h
      cases e : partner new x with
      | none => rw [e] at h; simp [ids] at h
      | some p =>
        rw [e] at h
        simp only [ids_cons, ids_nil, List.append_nil] at h ⊢
        refine List.mem_append_left _ ?_
        have ei := sameN_id (partner_mem e).2
        rw [idsN_eq] at h ⊢
        have hk : (setKids x (restL p.kids x.kids)).id = p.id := by
          rw [ei]; cases x <;> rfl
        rw [hk] at h
        rcases List.mem_cons.mp h with h | h
        · rw [h]; simp
        · refine List.mem_cons_of_mem _ ?_
          have : j ∈ ids (restL p.kids x.kids) := by
            cases x with
            | text i s => simp [setKids, Node.kids, ids] at h
            | elem i t a k => exact h
          have := h1 p.kids j this
          obtain ⟨y, hy, hj⟩ := mem_ids.mp this
          exact mem_ids.mpr ⟨y, mates_mem hy, hj⟩
    · have := h2 new j h
      unfold mates at this
      cases e : partner new x with
      | none => exact this
      | some p =>
        simp only [ids_cons]
        exact List.mem_append_right _ this
/-- a hole filled with new nodes, then with what is left of old ones -/
theorem GC.half {P : Attrs → Prop} {n : Nat} {new K1 K2 ys : List Node} (h : GC L U P n c new) (hs : ∀ x ∈ K1 ++ K2, x ∈ new) (hd : ((K1 ++ K2).map Node.id).Nodup) (hy : ∀ j ∈ ids ys, j ∈ ids K2) (hn : (ids ys).Nodup) (hl : Lv n ys) (ha : At P ys) : GC L U P n c (K1 ++ ys) := by
  have g := h.some_of hs hd
  have gn := g.nd
  rw [ids_append, ← List.append_assoc, List.nodup_append] at gn
  have gu := g.inU
  have gl := g.lv
  have ga := g.att
  rw [at_append] at ga
  refine ⟨?_, fun i hi => ?_, h.clv, ?_, h.cat, at_append.mpr ⟨ga.1, ha⟩⟩
  · rw [ids_append, ← List.append_assoc, List.nodup_append]
    exact ⟨gn.1, hn, fun a ha b hb => gn.2.2 a ha b (hy b hb)⟩
  · rw [ids_append, ← List.append_assoc] at hi
    rcases List.mem_append.mp hi with hi | hi
    · exact gu i (by rw [ids_append, ← List.append_assoc]; exact List.mem_append_left _ hi)
    · exact gu i (by rw [ids_append, ← List.append_assoc]; exact List.mem_append_right _ (hy i hi))
  · cases n with
    | zero =>
      have e1 : K1 ++ K2 = [] := gl
      have e2 : ys = [] := hl
      have := (List.append_eq_nil_iff.mp e1).1
      rw [this, e2]
      rfl
    | succ n =>
      intro x hx
      rcases List.mem_append.mp hx with hx | hx
      · exact gl x (List.mem_append_left _ hx)
      · exact hl x hx
variable (pos : ∀ i ∈ U, 1 ≤ i) (hL : L ≤ 40) (hA : 2 * A ≤ m)
include pos hL
/-- the placings of a parent whose kept kids are as the new ones already -/
theorem placings_steps {P : Attrs → Prop} {n : Nat} {old new : List Node} (h : GC L U P n c new) (ho : (old.map Node.id).Nodup) : Steps (Good L U P) (plug c (mates new old)) (placings (hp c) old new) (plug c new) := by
  have hN := map_id_nodup h.kids
  have hK : (keptHere old new).Nodup := by rw [← mates_ids]; exact mates_nodup ho
  unfold placings
  have hfilt : (new.filter fun x => (keptHere old new).contains x.id).map Node.id = (new.map Node.id).filter fun i => (keptHere old new).contains i := by
    rw [List.filter_map]; rfl
  obtain ⟨s1, s2⟩ := stay_same (K := keptHere old new) (N := (new.map Node.id).filter fun i => (keptHere old new).contains i) hK (hN.sublist List.filter_sublist)
    (fun x hx => by simpa using (List.mem_filter.mp hx).2) (row := best (places (keptHere old new) new))
    (by
      have : ((new.map Node.id).filter fun i => (keptHere old new).contains i).map (fun x => (((keptHere old new).idxOf x : Nat) : Int)) = places (keptHere old new) new := by
        unfold places
        rw [← hfilt, List.map_map]; rfl
      rw [this]
      exact best_sub _) (best_rises _)
  have hst : ∀ i ∈ staying (keptHere old new) new, i ∈ keptHere old new := by
    intro i hi
    have : i ∈ (keptHere old new).filter fun x => (staying (keptHere old new) new).contains x := by
      unfold staying at hi ⊢
      rw [s2]
      exact hi
    exact (List.mem_filter.mp this).1
  refine place_steps pos hL h (keptHere old new) (staying (keptHere old new) new) hst new.reverse [] (mates new old) (by simp) ?_ (fun x hx => mates_mem hx) ?_
  · -- the kept ones, in one order and in the other
    rw [List.reverse_reverse, List.append_nil, mates_ids]
    refine (List.perm_ext_iff_of_nodup hK ((List.Sublist.map _ List.filter_sublist).nodup hN)).mpr fun i => ?_
    rw [List.mem_map]
    constructor
    · intro hi
      rw [← mates_ids] at hi
      obtain ⟨x, hx, e⟩ := List.mem_map.mp hi
      refine ⟨x, List.mem_filter.mpr ⟨mates_mem hx, ?_⟩, e⟩
      rw [List.contains_iff_mem, ← mates_ids]
      exact List.mem_map.mpr ⟨x, hx, rfl⟩
    · rintro ⟨x, hx, e⟩
      have := (List.mem_filter.mp hx).2
      rw [List.contains_iff_mem] at this
      rw [← e]; exact this
  · rw [List.reverse_reverse, List.append_nil]
    -- by ids
    have inj : ∀ (a b : List Node), (∀ x ∈ a, x ∈ new) → (∀ x ∈ b, x ∈ new) → a.map Node.id = b.map Node.id → a = b := by
      intro a
      induction a with
      | nil =>
        intro b _ _ e
        cases b with
        | nil => rfl
        | cons y b => simp at e
      | cons x a ih =>
        intro b ha hb e
        cases b with
        | nil => simp at e
        | cons y b =>
          rw [List.map_cons, List.map_cons, List.cons.injEq] at e
          rw [ih b (fun z hz => ha z (by simp [hz])) (fun z hz => hb z (by simp [hz])) e.2]
          have : x = y := same_of_mem h.kids (ha x (by simp)) (hb y (by simp)) (id_mem_idsN x) (by rw [e.1]; exact id_mem_idsN y)
          rw [this]
    refine inj _ _ (fun x hx => mates_mem (List.mem_filter.mp hx).1) (fun x hx => (List.mem_filter.mp hx).1) ?_
    have e1 : ((mates new old).filter fun x => (staying (keptHere old new) new).contains x.id || (([] : List Node).map Node.id).contains x.id).map Node.id = (keptHere old new).filter fun i => (staying (keptHere old new) new).contains i := by
      rw [← mates_ids, List.filter_map]
      congr 1
      refine List.filter_congr fun x _ => ?_
      simp
    have e2 : (new.filter fun x => (staying (keptHere old new) new).contains x.id).map Node.id = (new.map Node.id).filter fun i => (staying (keptHere old new) new).contains i := by
      rw [List.filter_map]; rfl
    have e3 : ((new.map Node.id).filter fun i => (staying (keptHere old new) new).contains i) = (((new.map Node.id).filter fun i => (keptHere old new).contains i).filter fun i => (staying (keptHere old new) new).contains i) := by
      rw [List.filter_filter]
      refine List.filter_congr fun i _ => ?_
      cases q : (staying (keptHere old new) new).contains i with
      | false => simp
      | true =>
        have := hst i (List.contains_iff_mem.mp q)
        rw [List.contains_iff_mem.mpr this]
        rfl
    rw [e1, e2, e3]
    unfold staying
    rw [s1, s2]
include hA
theorem chg_steps : ∀ (todo new : List Node) (c : Ctx) (n : Nat) (done : List Node), GC L U (AE m) n c new → At (AE A) new → At (AE A) todo → (ids todo).Nodup → Lv n todo → (∀ x ∈ done, x ∈ new) → ((done ++ mates new todo).map Node.id).Nodup →
    Steps (Good L U (AE m)) (plug c (done ++ restL new todo)) (chgL new todo) (plug c (done ++ mates new todo)) := by
  intro todo
  induction todo using forest with
  | nil =>
    intro new c n done _ _ _ _ _ _ _
    rw [restL_nil, chgL_nil]
    exact Steps.refl _
  | cons x r h1 h2 =>
    intro new c n done h ha ht hd hl hdone hmd
    obtain ⟨hax, har⟩ := at_cons.mp ht
    rw [ids_cons, List.nodup_append] at hd
    have hlr : Lv n r := hl.sub fun z hz => by simp [hz]
    have wide : ∀ a, AE A a → AE m a := fun a ⟨p, q⟩ => ⟨p, by omega⟩
    rw [restL_cons, chgL_cons, restN_eq, chgN_eq]
    have em : mates new (x :: r) = match partner new x with | none => mates new r | some p => p :: mates new r := by
      unfold mates
      rw [List.filterMap_cons]
      cases partner new x <;> rfl
    cases e : partner new x with
    | none =>
      rw [e] at em
      simp only at em
      rw [em] at hmd ⊢
      exact h2 new c n done h ha har hd.2.1 hlr hdone hmd
    | some p =>
      rw [e] at em
      simp only at em
      rw [em] at hmd ⊢
      obtain ⟨p1, p2⟩ := partner_mem e
      have hap : AtN (AE A) p := at_mem.mp ha p p1
      have hsub : ∀ z ∈ done ++ (p :: mates new r), z ∈ new := fun z hz => by
        rcases List.mem_append.mp hz with hz | hz
        · exact hdone z hz
        · rcases List.mem_cons.mp hz with rfl | hz
          · exact p1
          · exact mates_mem hz
      -- the state ahead: done, what is left of x, what is left of the rest
      have hrest : GC L U (AE m) n c (done ++ (setKids x (restL p.kids x.kids) :: restL new r)) := by
        have q : restL new (x :: r) = setKids x (restL p.kids x.kids) :: restL new r := by rw [restL_cons, restN_eq, e]; rfl
        rw [← q]
        refine h.half hsub hmd (fun j hj => ?_) ((restN_ids new (x :: r)).nodup ?_) (rest_lv _ _ _ hl) (rest_at _ _ (At.imp wide _ ht))
        · have := rest_in (x :: r) new j hj
          rw [em] at this
          exact this
        · rw [ids_cons, List.nodup_append]; exact hd
      -- behind x's own changes and what is in it
      have hthen : Steps (Good L U (AE m)) (plug c (done ++ (p :: restL new r))) (chgL new r) (plug c (done ++ p :: mates new r)) := by
        have := h2 new c n (done ++ [p]) h ha har hd.2.1 hlr (fun z hz => by
          rcases List.mem_append.mp hz with hz | hz
          · exact hdone z hz
          · rw [show z = p by simpa using hz]; exact p1) (by simpa using hmd)
        simpa using this
      have hown := own_steps (m := m) hA done (restL new r) x p (restL p.kids x.kids) (by rw [sameN_comm]; exact p2) hax hap hrest
      show Steps _ _ ((own x p ++ _) ++ chgL new r) _
      refine Steps.trans (d1 := plug c (done ++ (p :: restL new r))) ?_ hthen
      refine Steps.trans hown ?_
      cases x with
      | text i s =>
        cases p with
        | text j s' => exact Steps.refl _
        | elem j t a k => simp [sameN] at p2
      | elem i t a k =>
        cases p with
        | text j s' => simp [sameN] at p2
        | elem j t' a' k' =>
          obtain ⟨q1, q2⟩ : j = i ∧ t' = t := by simpa [sameN] using p2
          subst q1
          subst q2
          simp only [AtN] at hap hax
          -- into the element, its kids not done
          have hgone : GC L U (AE m) n c (done ++ (.elem j t' a' (restL k' k) :: restL new r)) := by
            have := hrest
            simp only [setKids, Node.kids] at this
            exact this.attr (wide _ hap.1)
          -- .. and done
          have hdonek : GC L U (AE m) n c (done ++ (.elem j t' a' k' :: restL new r)) := by
            have := h.half (K1 := done ++ [.elem j t' a' k']) (K2 := mates new r) (ys := restL new r) (by simpa using hsub) (by simpa using hmd) (fun i hi => rest_in r new i hi) ((restN_ids new r).nodup hd.2.1) (rest_lv _ _ _ hlr) (rest_at _ _ (At.imp wide _ har))
            simpa using this
          obtain ⟨n', rfl, hg⟩ := hdonek.push
          have hlk : Lv n' k := hl (.elem j t' a k) (by simp)
          have hdk : (ids k).Nodup := (ids_kids_nodup hd.1).1
          have s1 := h1 k' (⟨done, j, t', a', restL new r⟩ :: c) n' [] hg hap.2 hax.2 hdk hlk (by simp) (by show ((([] : List Node) ++ mates k' k).map Node.id).Nodup; simpa using mates_nodup (new := k') (map_id_nodup hdk))
          have s2 := placings_steps (P := AE m) pos hL (old := k) hg (map_id_nodup hdk)
          exact Steps.trans s1 s2
end

/-! ### the whole patch -/
/-- a document: ids apart and at least 1, names ascending, at most L levels, N nodes, A attributes an element -/
structure Doc (L N A : Nat) (d : List Node) : Prop where
  nd : (ids d).Nodup
  one : ∀ i ∈ ids d, 1 ≤ i
  len : (ids d).length ≤ N
  lv : Lv L d
  att : At (AE A) d
theorem nodup_length {a b : List Int} (ha : a.Nodup) (h : ∀ x ∈ a, x ∈ b) : a.length ≤ b.length := by
  induction a generalizing b with
  | nil => simp
  | cons x a ih =>
    obtain ⟨h1, h2⟩ := List.nodup_cons.mp ha
    have hx : x ∈ b := h x (by simp)
    have := ih (b := b.erase x) h2 fun y hy => by
      have hne : y ≠ x := fun e => h1 (e ▸ hy)
      exact (List.mem_erase_of_ne hne).mpr (h y (by simp [hy]))
    rw [List.length_erase_of_mem hx] at this
    have := List.length_pos_of_mem hx
    simp only [List.length_cons]
    omega
theorem patch_steps {L N A : Nat} {old new : List Node} (ho : Doc L N A old) (hn : Doc L N A new) (hL : L ≤ 40) : Steps (Doc L (2 * N) (2 * A)) old (patch old new) new := by
  have pos : ∀ i ∈ ids old ++ ids new, 1 ≤ i := fun i hi => (List.mem_append.mp hi).elim (ho.one i) (hn.one i)
  have wide : ∀ a, AE A a → AE (2 * A) a := fun a ⟨p, q⟩ => ⟨p, by omega⟩
  have g1 : GC L (ids old ++ ids new) (AE (2 * A)) L [] old := ⟨by simpa [cids] using ho.nd, fun i hi => by simp [cids] at hi; simp [hi], rfl, ho.lv, trivial, At.imp wide _ ho.att⟩
  have g2 : GC L (ids old ++ ids new) (AE (2 * A)) L [] new := ⟨by simpa [cids] using hn.nd, fun i hi => by simp [cids] at hi; simp [hi], rfl, hn.lv, trivial, At.imp wide _ hn.att⟩
  have s1 := rem_steps (P := AE (2 * A)) pos old new [] L [] g1
  have s2 := chg_steps (L := L) (A := A) (m := 2 * A) pos hL (Nat.le_refl _) old new [] L [] g2 hn.att ho.att ho.nd ho.lv (by simp) (by simpa using mates_nodup (map_id_nodup ho.nd))
  have s3 := placings_steps (c := []) pos hL g2 (map_id_nodup ho.nd)
  have s := s1.trans (s2.trans s3)
  refine Steps.imp (fun d g => ?_) s
  refine ⟨g.nd, fun i hi => pos i (g.inU i hi), ?_, g.lv, g.att⟩
  have := nodup_length g.nd g.inU
  rw [List.length_append] at this
  have := ho.len
  have := hn.len
  omega

/-! ### careful; the removes first -/
def isRem : Op → Bool
  | .remove _ _ => true
  | _ => false
theorem remL_all : ∀ (l new : List Node) (p : Int), ∀ op ∈ remL p new l, ∃ q i, op = .remove q i := by
  intro l
  induction l using forest with
  | nil => intro new p op h; rw [remL_nil] at h; cases h
  | cons x r h1 h2 =>
    intro new p op h
    rw [remL_cons, remN_eq, List.mem_append] at h
    rcases h with h | h
    · cases e : partner new x with
      | none =>
        rw [e] at h
        exact ⟨p, x.id, by simpa using h⟩
      | some m =>
        rw [e] at h
        exact h1 m.kids x.id op h
    · exact h2 new p op h
theorem own_no (x y : Node) : ∀ op ∈ own x y, isRem op = false ∧ ∀ q z a, op ≠ .insert q z a := by
  intro op h
  cases x <;> cases y <;> simp only [own] at h
  · split at h
    · cases h
    · rw [List.mem_singleton] at h
      subst h
      exact ⟨rfl, fun _ _ _ => nofun⟩
  · cases h
  · cases h
  · rcases List.mem_append.mp h with h | h
    · obtain ⟨p, _, rfl⟩ := List.mem_map.mp h
      exact ⟨rfl, fun _ _ _ => nofun⟩
    · obtain ⟨p, _, rfl⟩ := List.mem_map.mp h
      exact ⟨rfl, fun _ _ _ => nofun⟩
theorem placeGo_mem (p : Int) (kept stay : List Int) : ∀ (rp : List Node) (ah : Option Int), ∀ op ∈ placeGo p kept stay rp ah, isRem op = false ∧ ∀ q z a, op = .insert q z a → z ∈ rp ∧ z.id ∉ kept
  | [], ah, op, h => by simp [placeGo] at h
  | x :: rp, ah, op, h => by
    rw [placeGo, List.mem_append] at h
    rcases h with h | h
    · split at h
      · rename_i hk
        rw [List.mem_singleton] at h
        subst h
        refine ⟨rfl, fun q z a e => ?_⟩
        injection e with _ e2 _
        subst e2
        refine ⟨by simp, ?_⟩
        rw [Bool.not_eq_true', ← Bool.not_eq_true, List.contains_iff_mem] at hk
        exact hk
      · split at h
        · rw [List.mem_singleton] at h
          subst h
          exact ⟨rfl, fun _ _ _ => nofun⟩
        · cases h
    · obtain ⟨h1, h2⟩ := placeGo_mem p kept stay rp _ op h
      exact ⟨h1, fun q z a e => ⟨by simp [(h2 q z a e).1], (h2 q z a e).2⟩⟩
theorem chgL_no : ∀ (l new : List Node), ∀ op ∈ chgL new l, isRem op = false := by
  intro l
  induction l using forest with
  | nil => intro new op h; rw [chgL_nil] at h; cases h
  | cons x r h1 h2 =>
    intro new op h
    rw [chgL_cons, chgN_eq, List.mem_append] at h
    rcases h with h | h
    · cases e : partner new x with
      | none => rw [e] at h; cases h
      | some m =>
        rw [e] at h
        rcases List.mem_append.mp h with h | h
        · exact (own_no x m op h).1
        · cases x with
          | text i s => cases h
          | elem i t a k =>
            rcases List.mem_append.mp h with h | h
            · exact h1 m.kids op h
            · exact (placeGo_mem _ _ _ _ _ op h).1
    · exact h2 new op h
theorem changes_no (p : Int) (old new : List Node) : ∀ op ∈ changes p old new, isRem op = false := fun op h => by
  rcases List.mem_append.mp h with h | h
  · exact chgL_no _ _ op h
  · exact (placeGo_mem _ _ _ _ _ op h).1
/-- the ids kept are of what is left of the old nodes -/
theorem kept_rest : ∀ (new old : List Node), (ids old).Nodup → (ids new).Nodup → ∀ i ∈ keptL old new, i ∈ ids (restL new old) := by
  intro new
  -- by the new nodes, a part at a time
  have main : ∀ (part : List Node) (new old : List Node), (∀ y ∈ part, y ∈ new) → (ids old).Nodup → (ids new).Nodup → ∀ i ∈ keptL old part, i ∈ ids (restL new old) := by
    intro part
    induction part using forest with
    | nil => intro new old _ _ _ i h; rw [keptL_nil] at h; cases h
    | cons x r h1 h2 =>
      intro new old hs ho hn i h
      rw [keptL_cons, keptN_eq, List.mem_append] at h
      rcases h with h | h
      · cases e : partner old x with
        | none => rw [e] at h; cases h
        | some m =>
          rw [e] at h
          obtain ⟨m1, m2⟩ := partner_mem e
          have hxn : x ∈ new := hs x (by simp)
          have hp : partner new m = some x := partner_some (map_id_nodup hn) hxn (by rw [sameN_comm]; exact m2)
          -- m's restriction stands in restL
          have hm : setKids m (restL x.kids m.kids) ∈ restL new old := by
            obtain ⟨a, b, rfl⟩ := List.append_of_mem m1
            have q : ∀ (a b : List Node), restL new (a ++ b) = restL new a ++ restL new b := by
              intro a b
              induction a with
              | nil => simp [restL]
              | cons z a ih => rw [List.cons_append, restL_cons, restL_cons, ih, List.append_assoc]
            rw [q, restL_cons, restN_eq, hp]
            simp
          refine mem_ids.mpr ⟨_, hm, ?_⟩
          rw [idsN_eq]
          rcases List.mem_cons.mp h with h | h
          · rw [h, ← sameN_id m2]
            cases m <;> simp [setKids, Node.id]
          · refine List.mem_cons_of_mem _ ?_
            have := h1 x.kids m.kids (fun y hy => hy) (ids_kids_nodup (kids_nodup ho m1)).1 (ids_kids_nodup (kids_nodup hn hxn)).1 i h
            cases m with
            | text => 
              simp only [Node.kids, restL_nil, ids_nil] at this
              cases this
            | elem a b c d => exact this
      · exact h2 new old (fun y hy => hs y (by simp [hy])) ho hn i h
  intro old ho hn i h
  exact main new new old (fun y hy => hy) ho hn i h
/-- what is removed is not left -/
theorem rem_gone : ∀ (old new : List Node) (p : Int), (ids old).Nodup → ∀ q i, Op.remove q i ∈ remL p new old → i ∈ ids old ∧ i ∉ ids (restL new old) := by
  intro old
  induction old using forest with
  | nil => intro new p _ q i h; rw [remL_nil] at h; cases h
  | cons x r h1 h2 =>
    intro new p hd q i h
    have hd0 := hd
    rw [ids_cons, List.nodup_append] at hd
    rw [remL_cons, remN_eq, List.mem_append] at h
    rw [restL_cons, restN_eq, ids_append, List.mem_append, not_or, ids_cons, List.mem_append]
    rcases h with h | h
    · have hx : i ∈ idsN x ∧ i ∉ ids (match partner new x with | none => [] | some m => [setKids x (restL m.kids x.kids)]) := by
        cases e : partner new x with
        | none =>
          rw [e] at h
          have e' : Op.remove q i = Op.remove p x.id := by simpa using h
          injection e' with _ e2
          subst e2
          exact ⟨id_mem_idsN x, by simp [ids]⟩
        | some m =>
          rw [e] at h
          obtain ⟨k1, k2⟩ := ids_kids_nodup hd.1
          obtain ⟨g1, g2⟩ := h1 m.kids x.id k1 q i h
          refine ⟨by rw [idsN_eq]; exact List.mem_cons_of_mem _ g1, ?_⟩
          simp only [ids_cons, ids_nil, List.append_nil]
          cases x with
          | text a s => simp [Node.kids, ids] at g1
          | elem a t b k =>
            simp only [setKids, idsN, List.mem_cons, not_or]
            exact ⟨fun z => k2 (z ▸ g1), g2⟩
      refine ⟨.inl hx.1, hx.2, fun z => ?_⟩
      exact hd.2.2 i hx.1 i ((restN_ids new r).subset z) rfl
    · obtain ⟨g1, g2⟩ := h2 new p hd.2.1 q i h
      refine ⟨.inr g1, fun z => ?_, g2⟩
      have zz : i ∈ idsN x := by
        have := (restN_ids new [x]).subset (show i ∈ ids (restL new [x]) by rw [restL_cons, restL_nil, List.append_nil, restN_eq]; exact z)
        rw [ids_cons, ids_nil, List.append_nil] at this
        exact this
      exact hd.2.2 i zz i g1 rfl
/-- what is kept stands in the new document -/
theorem kept_new : ∀ (new old : List Node), ∀ i ∈ keptL old new, i ∈ ids new := by
  intro new
  induction new using forest with
  | nil => intro old i h; rw [keptL_nil] at h; cases h
  | cons x r h1 h2 =>
    intro old i h
    rw [keptL_cons, keptN_eq, List.mem_append] at h
    rw [ids_cons, List.mem_append]
    rcases h with h | h
    · refine .inl ?_
      cases e : partner old x with
      | none => rw [e] at h; cases h
      | some m =>
        rw [e] at h
        rw [idsN_eq]
        rcases List.mem_cons.mp h with h | h
        · rw [h]; simp
        · exact List.mem_cons_of_mem _ (h1 m.kids i h)
    · exact .inr (h2 old i h)
theorem keptL_mem {old : List Node} : ∀ {new : List Node} {i : Int}, i ∈ keptL old new ↔ ∃ x ∈ new, i ∈ keptN old x
  | [], i => by simp [keptL]
  | x :: r, i => by
    rw [keptL_cons, List.mem_append, keptL_mem (new := r)]
    simp
theorem ins_new : ∀ (part new old : List Node), (∀ y ∈ part, y ∈ old) → (ids old).Nodup → (ids new).Nodup → (∀ q x a, Op.insert q x a ∈ chgL new part → ∀ j ∈ idsN x, j ∉ keptL old new) := by
  intro part
  induction part using forest with
  | nil => intro new old _ _ _ q x a h; rw [chgL_nil] at h; cases h
  | cons n r h1 h2 =>
    intro new old hs ho hn q x a h j hj hk
    rw [chgL_cons, chgN_eq, List.mem_append] at h
    rcases h with h | h
    · cases e : partner new n with
      | none => rw [e] at h; cases h
      | some m =>
        rw [e] at h
        obtain ⟨m1, m2⟩ := partner_mem e
        rcases List.mem_append.mp h with h | h
        · exact (own_no n m _ h).2 q x a rfl
        · cases n with
          | text => cases h
          | elem i t b k =>
            have hno : (Node.elem i t b k) ∈ old := hs _ (by simp)
            have hk1 := (ids_kids_nodup (kids_nodup ho hno))
            have hk2 := (ids_kids_nodup (kids_nodup hn m1))
            -- j stands in m's kids, so among the kept it is kept in m
            have hjm : j ∈ ids m.kids → j ∈ keptL k m.kids := by
              intro hjm
              obtain ⟨y, hy, hjy⟩ := keptL_mem.mp hk
              have hjy' : j ∈ idsN y := by
                have := kept_new [y] old j (by rw [keptL_cons, keptL_nil, List.append_nil]; exact hjy)
                rw [ids_cons, ids_nil, List.append_nil] at this
                exact this
              have : y = m := same_of_mem hn hy m1 hjy' (by rw [idsN_eq]; exact List.mem_cons_of_mem _ hjm)
              subst this
              rw [keptN_eq, partner_some (map_id_nodup ho) hno (by rw [sameN_comm]; exact m2)] at hjy
              rcases List.mem_cons.mp hjy with z | z
              · exact absurd (z ▸ hjm) hk2.2
              · exact z
            rcases List.mem_append.mp h with h | h
            · -- within: the inserted node stands in m's kids
              have hin : ∀ (part new : List Node) (q : Int) (x : Node) (a : Option Int), Op.insert q x a ∈ chgL new part → ∀ j ∈ idsN x, j ∈ ids new := by
                intro part
                induction part using forest with
                | nil => intro new q x a h; rw [chgL_nil] at h; cases h
                | cons n' r' g1 g2 =>
                  intro new q x a h j hj
                  rw [chgL_cons, chgN_eq, List.mem_append] at h
                  rcases h with h | h
                  · cases e' : partner new n' with
                    | none => rw [e'] at h; cases h
                    | some m' =>
                      rw [e'] at h
                      rcases List.mem_append.mp h with h | h
                      · exact absurd rfl ((own_no n' m' _ h).2 q x a)
                      · cases n' with
                        | text => cases h
                        | elem i' t' b' k' =>
                          refine mem_ids.mpr ⟨m', (partner_mem e').1, ?_⟩
                          rw [idsN_eq]
                          refine List.mem_cons_of_mem _ ?_
                          rcases List.mem_append.mp h with h | h
                          · exact g1 m'.kids q x a h j hj
                          · have := ((placeGo_mem _ _ _ _ _ _ h).2 q x a rfl).1
                            exact mem_ids.mpr ⟨x, by simpa using this, hj⟩
                  · exact g2 new q x a h j hj
              exact h1 m.kids k (fun y hy => hy) hk1.1 hk2.1 q x a h j hj (hjm (hin k m.kids q x a h j hj))
            · obtain ⟨g1, g2⟩ := (placeGo_mem _ _ _ _ _ _ h).2 q x a rfl
              have hx : x ∈ m.kids := by simpa using g1
              have hjk := hjm (mem_ids.mpr ⟨x, hx, hj⟩)
              obtain ⟨y, hy, hjy⟩ := keptL_mem.mp hjk
              have hjy' : j ∈ idsN y := by
                have := kept_new [y] k j (by rw [keptL_cons, keptL_nil, List.append_nil]; exact hjy)
                rw [ids_cons, ids_nil, List.append_nil] at this
                exact this
              have : y = x := same_of_mem hk2.1 hy hx hjy' hj
              subst this
              rw [keptN_eq] at hjy
              cases e2 : partner k y with
              | none => rw [e2] at hjy; cases hjy
              | some z =>
                obtain ⟨z1, z2⟩ := partner_mem e2
                exact g2 ((keptHere_mem (map_id_nodup hk1.1) (map_id_nodup hk2.1) hx).mpr ⟨z, z1, by rw [sameN_comm]; exact z2⟩)
    · exact h2 new old (fun y hy => hs y (by simp [hy])) ho hn q x a h j hj hk
/-- the patch is careful -/
theorem patch_careful {old new : List Node} (ho : (ids old).Nodup) (hn : (ids new).Nodup) : (∀ q i, Op.remove q i ∈ patch old new → i ∉ keptL old new) ∧ (∀ q x a, Op.insert q x a ∈ patch old new → ∀ j ∈ idsN x, j ∉ keptL old new) := by
  constructor
  · intro q i h hk
    unfold patch at h
    rcases List.mem_append.mp h with h | h
    · exact (rem_gone old new 0 ho q i h).2 (kept_rest new old ho hn i hk)
    · have := changes_no 0 old new _ h
      cases this
  · intro q x a h j hj hk
    unfold patch changes at h
    rcases List.mem_append.mp h with h | h
    · obtain ⟨_, _, e⟩ := remL_all _ _ _ _ h
      cases e
    · rcases List.mem_append.mp h with h | h
      · exact ins_new old new old (fun y hy => hy) ho hn q x a h j hj hk
      · obtain ⟨g1, g2⟩ := (placeGo_mem _ _ _ _ _ _ h).2 q x a rfl
        have hx : x ∈ new := by simpa using g1
        obtain ⟨y, hy, hjy⟩ := keptL_mem.mp hk
        have hjy' : j ∈ idsN y := by
          have := kept_new [y] old j (by rw [keptL_cons, keptL_nil, List.append_nil]; exact hjy)
          rw [ids_cons, ids_nil, List.append_nil] at this
          exact this
        have : y = x := same_of_mem hn hy hx hjy' hj
        subst this
        rw [keptN_eq] at hjy
        cases e2 : partner old y with
        | none => rw [e2] at hjy; cases hjy
        | some z =>
          obtain ⟨z1, z2⟩ := partner_mem e2
          exact g2 ((keptHere_mem (map_id_nodup ho) (map_id_nodup hn) hx).mpr ⟨z, z1, by rw [sameN_comm]; exact z2⟩)
end VL

/-! The mathematics, part 5: what the walk asks of the mirrors: a part more, lengths. Plain Lean. -/
namespace VL
open PySem

theorem remL_append (p : Int) (new : List Node) : ∀ a b : List Node, remL p new (a ++ b) = remL p new a ++ remL p new b
  | [], b => by rw [remL_nil]; rfl
  | x :: a, b => by rw [List.cons_append, remL_cons, remL_cons, remL_append p new a b, List.append_assoc]
theorem keptL_append (old : List Node) : ∀ a b : List Node, keptL old (a ++ b) = keptL old a ++ keptL old b
  | [], b => by rw [keptL_nil]; rfl
  | x :: a, b => by rw [List.cons_append, keptL_cons, keptL_cons, keptL_append old a b, List.append_assoc]
theorem chgL_append (new : List Node) : ∀ a b : List Node, chgL new (a ++ b) = chgL new a ++ chgL new b
  | [], b => by rw [chgL_nil]; rfl
  | x :: a, b => by rw [List.cons_append, chgL_cons, chgL_cons, chgL_append new a b, List.append_assoc]
theorem remL_one (p : Int) (new : List Node) (x : Node) : remL p new [x] = remN p new x := by rw [remL_cons, remL_nil, List.append_nil]
theorem keptL_one (old : List Node) (x : Node) : keptL old [x] = keptN old x := by rw [keptL_cons, keptL_nil, List.append_nil]
theorem chgL_one (new : List Node) (x : Node) : chgL new [x] = chgN new x := by rw [chgL_cons, chgL_nil, List.append_nil]

theorem keptL_len : ∀ (new old : List Node), (keptL old new).length ≤ (ids new).length := by
  intro new
  induction new using forest with
  | nil => intro old; rw [keptL_nil]; simp
  | cons x r h1 h2 =>
    intro old
    rw [keptL_cons, keptN_eq, ids_cons, idsN_eq, List.length_append, List.length_append]
    have := h2 old
    cases e : partner old x with
    | none => simp only [List.length_nil, List.length_cons]; omega
    | some m =>
      have := h1 m.kids
      simp only [List.length_cons]
      omega
theorem remL_len : ∀ (old new : List Node) (p : Int), (remL p new old).length ≤ (ids old).length := by
  intro old
  induction old using forest with
  | nil => intro new p; rw [remL_nil]; simp
  | cons x r h1 h2 =>
    intro new p
    rw [remL_cons, remN_eq, ids_cons, idsN_eq, List.length_append, List.length_append]
    have := h2 new p
    cases e : partner new x with
    | none => simp only [List.length_cons, List.length_nil]; omega
    | some m =>
      have := h1 m.kids x.id
      simp only [List.length_cons]
      omega
theorem len_ids : ∀ l : List Node, l.length ≤ (ids l).length
  | [] => Nat.zero_le _
  | x :: r => by
    have := len_ids r
    rw [ids_cons, idsN_eq, List.length_append]
    simp only [List.length_cons]
    omega
theorem placeGo_len (p : Int) (kept stay : List Int) : ∀ (rp : List Node) (ah : Option Int), (placeGo p kept stay rp ah).length ≤ rp.length
  | [], ah => by simp [placeGo]
  | x :: rp, ah => by
    rw [placeGo, List.length_append]
    have := placeGo_len p kept stay rp (some x.id)
    have h : (if (!kept.contains x.id) = true then [Op.insert p x ah] else if (!stay.contains x.id) = true then [Op.move p x.id ah] else []).length ≤ 1 := by
      split
      · simp
      · split <;> simp
    simp only [List.length_cons]
    omega
theorem placings_len (p : Int) (old new : List Node) : (placings p old new).length ≤ new.length := by
  unfold placings
  have := placeGo_len p (keptHere old new) (staying (keptHere old new) new) new.reverse none
  rwa [List.length_reverse] at this
theorem own_len {A : Nat} {x y : Node} (hx : AtN (AE A) x) (hy : AtN (AE A) y) : (own x y).length ≤ 2 * A + 1 := by
  cases x with
  | text i s =>
    cases y with
    | text j s' =>
      simp only [own]
      split <;> simp
    | elem => simp [own]
  | elem i t a k =>
    cases y with
    | text => simp [own]
    | elem j t' a' k' =>
      simp only [AtN] at hx hy
      simp only [own, List.length_append, List.length_map]
      have h1 := List.length_filter_le (fun p : Str × Str => !(a'.map (·.1)).contains p.1) a
      have h2 := List.length_filter_le (fun p : Str × Str => !a.contains p) a'
      have := hx.1.2
      have := hy.1.2
      omega
theorem kids_len {l : List Node} {x : Node} (h : x ∈ l) : (ids x.kids).length ≤ (ids l).length := by
  obtain ⟨a, b, rfl⟩ := List.append_of_mem h
  rw [ids_append, ids_cons, idsN_eq]
  simp only [List.length_append, List.length_cons]
  omega
theorem chgL_len {A M : Nat} : ∀ (old new : List Node), At (AE A) old → At (AE A) new → (ids new).length ≤ M → (chgL new old).length ≤ (2 * A + 1 + M) * (ids old).length := by
  intro old
  induction old using forest with
  | nil => intro new _ _ _; rw [chgL_nil]; simp
  | cons x r h1 h2 =>
    intro new ho hn hM
    obtain ⟨hx, hr⟩ := at_cons.mp ho
    rw [chgL_cons, ids_cons, idsN_eq, List.length_append, List.length_append]
    have i2 := h2 new hr hn hM
    rw [List.length_cons]
    have main : (chgN new x).length ≤ (2 * A + 1 + M) * ((ids x.kids).length + 1) := by
      rw [chgN_eq]
      cases e : partner new x with
      | none => simp
      | some m =>
        have hm := (partner_mem e).1
        have hma := at_mem.mp hn m hm
        have ho := own_len hx hma
        have hk := kids_len hm
        have i1 := h1 m.kids (atN_kids hx) (atN_kids hma) (by omega)
        cases x with
        | text i s =>
          simp only [List.length_append, List.length_nil, Node.kids, ids_nil]
          rw [Nat.mul_add, Nat.mul_one]
          omega
        | elem i t a k =>
          have hp := placings_len i k m.kids
          have hl := len_ids m.kids
          have i1' : (chgL m.kids k).length ≤ (2 * A + 1 + M) * (ids k).length := i1
          show (own (.elem i t a k) m ++ (chgL m.kids k ++ placings i k m.kids)).length ≤ (2 * A + 1 + M) * ((ids k).length + 1)
          rw [Nat.mul_add, Nat.mul_one, List.length_append, List.length_append]
          omega
    rw [Nat.mul_add]
    omega
theorem changes_len {A M : Nat} {p : Int} {old new : List Node} (ho : At (AE A) old) (hn : At (AE A) new) (hM : (ids new).length ≤ M) (hO : (ids old).length ≤ M) : (changes p old new).length ≤ (2 * A + 1 + M) * M + M := by
  unfold changes
  rw [List.length_append]
  have h1 := chgL_len old new ho hn hM
  have h2 := placings_len p old new
  have h3 := len_ids new
  have h4 : (2 * A + 1 + M) * (ids old).length ≤ (2 * A + 1 + M) * M := Nat.mul_le_mul_left _ hO
  omega

/-! ### best_row -/
theorem lens_len : ∀ l : List Int, (lens l).length = l.length
  | [] => rfl
  | x :: r => by rw [lens, List.length_cons, List.length_cons, lens_len r]
theorem lenAt_snoc (x : Int) : ∀ (r t : List Int) (y l acc : Int), r.length = t.length → lenAt x (r ++ [y]) (t ++ [l]) acc = if y > x then (if l + 1 > lenAt x r t acc then l + 1 else lenAt x r t acc) else lenAt x r t acc
  | [], [], y, l, acc, _ => by simp [lenAt]
  | [], _ :: _, y, l, acc, h => by simp at h
  | _ :: _, [], y, l, acc, h => by simp at h
  | z :: r, m :: t, y, l, acc, h => by
    rw [List.cons_append, List.cons_append, lenAt, lenAt]
    exact lenAt_snoc x r t y l _ (by simpa using h)
theorem foldMax (l : List Int) : ∀ a : Int, l.foldl (fun a b => if b > a then b else a) a ∈ a :: l ∧ ∀ y ∈ a :: l, y ≤ l.foldl (fun a b => if b > a then b else a) a := by
  induction l with
  | nil => intro a; simp
  | cons x l ih =>
    intro a
    rw [List.foldl_cons]
    obtain ⟨h1, h2⟩ := ih (if x > a then x else a)
    constructor
    · rcases List.mem_cons.mp h1 with h | h
      · rw [h]
        split <;> simp
      · exact List.mem_cons_of_mem _ (List.mem_cons_of_mem _ h)
    · intro y hy
      have h3 := h2 (if x > a then x else a) (by simp)
      rcases List.mem_cons.mp hy with rfl | hy
      · refine Int.le_trans ?_ h3
        split <;> omega
      · rcases List.mem_cons.mp hy with rfl | hy
        · refine Int.le_trans ?_ h3
          split <;> omega
        · exact h2 y (by simp [hy])
end VL

/-! A calculus over the layer: data (PyData over tuples), what an expression evaluates to, statements. -/
namespace VL
open PySem L2

/-! ### heaps -/
/-- tuples stay -/
def Tx (H H' : Hp) : Prop := ∀ a xs, H a = some (.tup xs) → H' a = some (.tup xs)
theorem Tx.refl (H : Hp) : Tx H H := fun _ _ h => h
theorem Tx.trans {H H1 H2 : Hp} (a : Tx H H1) (b : Tx H1 H2) : Tx H H2 := fun c o h => b c o (a c o h)
theorem tx_of {H H' : Hp} (h : Same H H') : Tx H H' := fun a xs e => h a _ e
theorem same_new {H : Hp} {p : Addr} {o : HO} (h : H p = none) : Same H (upd H p o) := fun b u e => by
  rw [upd_ne (ne_of_none e h)]
  exact e
theorem tx_lst {H : Hp} {p : Addr} {xs ys : List V} (h : H p = some (.lst xs)) : Tx H (upd H p (.lst ys)) := fun b u e => by
  rw [upd_ne (ne_of e h (by intro z; cases z))]
  exact e
/-- all but l stays -/
def But (l : Addr) (H H' : Hp) : Prop := ∀ b o, H b = some o → b ≠ l → H' b = some o
theorem But.upd {l : Addr} {H : Hp} {o : HO} : But l H (upd H l o) := fun b u e h => by rw [upd_ne h]; exact e
theorem But.same {l : Addr} {H0 H H' : Hp} (b : But l H H') (h : H0 l = none) (e : Same H0 H) : Same H0 H' := fun a o q => b a o (e a o q) (ne_of_none q h)
theorem fresh_back {H H' : Hp} {p : Addr} (e : Same H H') (h : H' p = none) : H p = none := e.free h

/-! ### data: what a value reads as; tuples alone -/
mutual
inductive Tp (H : Hp) : V → PyData → Prop
  | non : Tp H .non .none
  | int (i : Int) : Tp H (.int i) (.int i)
  | str (x : Str) : Tp H (.str x) (.str x)
  | tup {a : Addr} {xs : List V} {ds : List PyData} : H a = some (.tup xs) → TpAll H xs ds → Tp H (.ref a) (.tuple ds)
inductive TpAll (H : Hp) : List V → List PyData → Prop
  | nil : TpAll H [] []
  | cons {v : V} {vs : List V} {d : PyData} {ds : List PyData} : Tp H v d → TpAll H vs ds → TpAll H (v :: vs) (d :: ds)
end
mutual
theorem Tp.mono {H H' : Hp} (e : Tx H H') : ∀ {v : V} {d : PyData}, Tp H v d → Tp H' v d
  | _, _, .non => .non
  | _, _, .int i => .int i
  | _, _, .str x => .str x
  | _, _, .tup h t => .tup (e _ _ h) (TpAll.mono e t)
theorem TpAll.mono {H H' : Hp} (e : Tx H H') : ∀ {vs : List V} {ds : List PyData}, TpAll H vs ds → TpAll H' vs ds
  | _, _, .nil => .nil
  | _, _, .cons h t => .cons (Tp.mono e h) (TpAll.mono e t)
end
mutual
theorem Tp.dp {K : PySem.W.Frag} {H : Hp} : ∀ {v : V} {d : PyData}, Tp H v d → Dp K H v d
  | _, _, .non => .non
  | _, _, .int i => .int i
  | _, _, .str x => .str x
  | _, _, .tup h t => .tup (SqT.of h) (TpAll.dp t)
theorem TpAll.dp {K : PySem.W.Frag} {H : Hp} : ∀ {vs : List V} {ds : List PyData}, TpAll H vs ds → DpAll K H vs ds
  | _, _, .nil => .nil
  | _, _, .cons h t => .cons (Tp.dp h) (TpAll.dp t)
end
theorem TpAll.length {H : Hp} : ∀ {vs : List V} {ds : List PyData}, TpAll H vs ds → vs.length = ds.length
  | _, _, .nil => rfl
  | _, _, .cons _ t => by rw [List.length_cons, List.length_cons, t.length]
theorem TpAll.get {H : Hp} : ∀ {vs : List V} {ds : List PyData} {k : Nat} {d : PyData}, TpAll H vs ds → ds[k]? = some d → ∃ v, vs[k]? = some v ∧ Tp H v d
  | _, _, _, _, .nil, h => by simp at h
  | v :: _, _, 0, d, .cons h t, e => by
    rw [List.getElem?_cons_zero] at e
    exact ⟨v, rfl, Option.some.inj e ▸ h⟩
  | _, _, k + 1, d, .cons h t, e => by
    rw [List.getElem?_cons_succ] at e
    rw [List.getElem?_cons_succ]
    exact TpAll.get t e
theorem TpAll.getV {H : Hp} : ∀ {vs : List V} {ds : List PyData} {k : Nat} {v : V}, TpAll H vs ds → vs[k]? = some v → ∃ d, ds[k]? = some d ∧ Tp H v d
  | _, _, _, _, .nil, h => by simp at h
  | _, d :: _, 0, v, .cons h t, e => by
    rw [List.getElem?_cons_zero] at e
    exact ⟨d, rfl, Option.some.inj e ▸ h⟩
  | _, _, k + 1, v, .cons h t, e => by
    rw [List.getElem?_cons_succ] at e
    rw [List.getElem?_cons_succ]
    exact TpAll.getV t e
theorem TpAll.append {H : Hp} : ∀ {vs ws : List V} {ds es : List PyData}, TpAll H vs ds → TpAll H ws es → TpAll H (vs ++ ws) (ds ++ es)
  | _, _, _, _, .nil, t => t
  | _, _, _, _, .cons h r, t => .cons h (r.append t)
theorem TpAll.one {H : Hp} {v : V} {d : PyData} (h : Tp H v d) : TpAll H [v] [d] := .cons h .nil
theorem TpAll.take {H : Hp} : ∀ (n : Nat) {vs : List V} {ds : List PyData}, TpAll H vs ds → TpAll H (vs.take n) (ds.take n)
  | 0, _, _, _ => .nil
  | _ + 1, _, _, .nil => .nil
  | n + 1, _, _, .cons h t => .cons h (TpAll.take n t)
theorem TpAll.drop {H : Hp} : ∀ (n : Nat) {vs : List V} {ds : List PyData}, TpAll H vs ds → TpAll H (vs.drop n) (ds.drop n)
  | 0, _, _, h => h
  | _ + 1, _, _, .nil => .nil
  | n + 1, _, _, .cons _ t => TpAll.drop n t
theorem TpAll.ints {H : Hp} : ∀ {ns : List Int} {vs : List V}, TpAll H vs (ns.map .int) → vs = ns.map V.int
  | [], _, .nil => rfl
  | n :: ns, _, .cons (.int _) t => by rw [List.map_cons, TpAll.ints t]
theorem TpAll.strs {H : Hp} : ∀ {ns : List Str} {vs : List V}, TpAll H vs (ns.map .str) → vs = ns.map V.str
  | [], _, .nil => rfl
  | n :: ns, _, .cons (.str _) t => by rw [List.map_cons, TpAll.strs t]
theorem TpAll.of_ints {H : Hp} : ∀ ns : List Int, TpAll H (ns.map V.int) (ns.map .int)
  | [] => .nil
  | n :: ns => .cons (.int n) (TpAll.of_ints ns)
theorem TpAll.of_strs {H : Hp} : ∀ ns : List Str, TpAll H (ns.map V.str) (ns.map .str)
  | [] => .nil
  | n :: ns => .cons (.str n) (TpAll.of_strs ns)
theorem Tp.int_inv {H : Hp} {v : V} {i : Int} (h : Tp H v (.int i)) : v = .int i := by cases h; rfl
theorem Tp.str_inv {H : Hp} {v : V} {x : Str} (h : Tp H v (.str x)) : v = .str x := by cases h; rfl
theorem Tp.non_inv {H : Hp} {v : V} (h : Tp H v .none) : v = .non := by cases h; rfl
theorem Tp.tup_inv {H : Hp} {v : V} {ds : List PyData} (h : Tp H v (.tuple ds)) : ∃ a xs, v = .ref a ∧ H a = some (.tup xs) ∧ TpAll H xs ds := by
  cases h with
  | tup h t => exact ⟨_, _, rfl, h, t⟩

/-- a list at p that reads as ds -/
def Ls (H : Hp) (p : Addr) (ds : List PyData) : Prop := ∃ vs, H p = some (.lst vs) ∧ TpAll H vs ds
theorem Ls.mono {H H' : Hp} {p : Addr} {ds : List PyData} (h : Ls H p ds) (e : Same H H') : Ls H' p ds := by
  obtain ⟨vs, h1, h2⟩ := h
  exact ⟨vs, e _ _ h1, h2.mono (tx_of e)⟩

/-- what a call takes and gives: data; a list (given: a new one); a truth value -/
inductive Rs where
  | d (x : PyData)
  | l (xs : List PyData)
  | b (x : Bool)
/-- .. taken -/
def AR (H : Hp) (v : V) : Rs → Prop
  | .d x => Tp H v x
  | .l xs => ∃ p, v = .ref p ∧ Ls H p xs
  | .b x => v = .bl x
/-- .. given, H0 the heap ahead -/
def RR (H0 H : Hp) (v : V) : Rs → Prop
  | .d x => Tp H v x
  | .l xs => ∃ p, v = .ref p ∧ H0 p = none ∧ Ls H p xs
  | .b x => v = .bl x
theorem AR.mono {H H' : Hp} {v : V} {r : Rs} (h : AR H v r) (e : Same H H') : AR H' v r := by
  cases r with
  | d x => exact Tp.mono (tx_of e) h
  | l xs =>
    obtain ⟨p, h1, h2⟩ := h
    exact ⟨p, h1, h2.mono e⟩
  | b x => exact h
theorem RR.ar {H0 H : Hp} {v : V} {r : Rs} (h : RR H0 H v r) : AR H v r := by
  cases r with
  | d x => exact h
  | l xs =>
    obtain ⟨p, h1, _, h2⟩ := h
    exact ⟨p, h1, h2⟩
  | b x => exact h
theorem RR.back {H0 H1 H : Hp} {v : V} {r : Rs} (h : RR H1 H v r) (e : Same H0 H1) : RR H0 H v r := by
  cases r with
  | d x => exact h
  | l xs =>
    obtain ⟨p, h1, h2, h3⟩ := h
    exact ⟨p, h1, e.free h2, h3⟩
  | b x => exact h
inductive ARs (H : Hp) : List V → List Rs → Prop
  | nil : ARs H [] []
  | cons {v : V} {vs : List V} {r : Rs} {rs : List Rs} : AR H v r → ARs H vs rs → ARs H (v :: vs) (r :: rs)
theorem ARs.mono {H H' : Hp} (e : Same H H') : ∀ {vs : List V} {rs : List Rs}, ARs H vs rs → ARs H' vs rs
  | _, _, .nil => .nil
  | _, _, .cons h t => .cons (h.mono e) (t.mono e)
/-- a def's promise by a relation of what it takes and gives: all that stood stands -/
def FS (S : List Rs → Rs → Prop) : Sp := fun vs H Q _ => ∃ as r, ARs H vs as ∧ S as r ∧ ∀ v H', Same H H' → RR H H' v r → Q v H'

/-! ### what evaluates to what -/
/-- e gives r, a value that stands, or a new list -/
def E (te : TE) (σ : L2.St) (H : Hp) (r : Rs) : Prop := ∀ H1, Same H H1 → ∀ Q : VK, (∀ v H2, Same H1 H2 → RR H1 H2 v r → Q v H2) → te σ H1 Q
/-- .. or a list that stands already -/
def Eo (te : TE) (σ : L2.St) (H : Hp) (r : Rs) : Prop := ∀ H1, Same H H1 → ∀ Q : VK, (∀ v H2, Same H1 H2 → AR H2 v r → Q v H2) → te σ H1 Q
def ET (tt : TT) (σ : L2.St) (H : Hp) (b : Bool) : Prop := ∀ H1, Same H H1 → ∀ Q : Bool → Hp → Prop, (∀ H2, Same H1 H2 → Q b H2) → tt σ H1 Q
def EA (ta : TA) (σ : L2.St) (H : Hp) (rs : List Rs) : Prop := ∀ H1, Same H H1 → ∀ Q : List V → Hp → Prop, (∀ vs H2, Same H1 H2 → ARs H2 vs rs → Q vs H2) → ta σ H1 Q
section
variable {K : PySem.W.Frag} {σ : L2.St} {H H' : Hp} {ta tb te : TE} {tt tu : TT} {tA : TA} {r r' : Rs} {b b' : Bool}
theorem E.mono (e : Same H H') (h : E te σ H r) : E te σ H' r := fun H1 a Q q => h H1 (e.trans a) Q q
theorem Eo.mono (e : Same H H') (h : Eo te σ H r) : Eo te σ H' r := fun H1 a Q q => h H1 (e.trans a) Q q
theorem ET.mono (e : Same H H') (h : ET tt σ H b) : ET tt σ H' b := fun H1 a Q q => h H1 (e.trans a) Q q
theorem EA.mono {rs : List Rs} (e : Same H H') (h : EA tA σ H rs) : EA tA σ H' rs := fun H1 a Q q => h H1 (e.trans a) Q q
theorem E.o (h : E te σ H r) : Eo te σ H r := fun H1 a Q q => h H1 a Q fun v H2 e x => q v H2 e x.ar
theorem E.is (h : E te σ H r) (e : r = r') : E te σ H r' := e ▸ h
theorem ET.is (h : ET tt σ H b) (e : b = b') : ET tt σ H b' := e ▸ h
/-- a name -/
theorem e_var {i : Nat} {v : V} {x : PyData} (h : σ[i]? = some (some v)) (t : Tp H v x) : E (tVar i) σ H (.d x) := fun H1 e Q q => ⟨v, h, q v H1 (Same.refl H1) (t.mono (tx_of e))⟩
theorem e_varB {i : Nat} {x : Bool} (h : σ[i]? = some (some (.bl x))) : E (tVar i) σ H (.b x) := fun H1 _ Q q => ⟨_, h, q _ H1 (Same.refl H1) rfl⟩
theorem eo_var {i : Nat} {v : V} (h : σ[i]? = some (some v)) (t : AR H v r) : Eo (tVar i) σ H r := fun H1 e Q q => ⟨v, h, q v H1 (Same.refl H1) (t.mono e)⟩
theorem eo_lst {i : Nat} {p : Addr} {xs : List PyData} (h : σ[i]? = some (some (.ref p))) (t : Ls H p xs) : Eo (tVar i) σ H (.l xs) := eo_var h ⟨p, rfl, t⟩
/-- constants -/
theorem e_int {i : Int} : E (tC (.int i)) σ H (.d (.int i)) := fun H1 _ Q q => q _ H1 (Same.refl H1) (Tp.int i)
theorem e_str {x : Str} : E (tC (.str x)) σ H (.d (.str x)) := fun H1 _ Q q => q _ H1 (Same.refl H1) (Tp.str x)
theorem e_non : E (tC .non) σ H (.d .none) := fun H1 _ Q q => q _ H1 (Same.refl H1) Tp.non
theorem e_bl {x : Bool} : E (tC (.bl x)) σ H (.b x) := fun H1 _ Q q => q _ H1 (Same.refl H1) rfl
/-- arguments -/
theorem ea_nil : EA tNil σ H [] := fun H1 _ Q q => q [] H1 (Same.refl H1) .nil
theorem ea_cons {rs : List Rs} (h : Eo te σ H r) (t : EA tA σ H rs) : EA (tCons te tA) σ H (r :: rs) := fun H1 e Q q =>
  h H1 e _ fun v H2 e2 hv => t H2 (e.trans e2) _ fun vs H3 e3 hvs => q _ H3 (e2.trans e3) (.cons (hv.mono e3) hvs)
/-- a call -/
theorem e_call {S : List Rs → Rs → Prop} {rs : List Rs} {X : XK} (h : EA tA σ H rs) (s : S rs r) : E (tCall (FS S) [] X tA) σ H r := fun H1 e Q q =>
  h H1 e _ fun vs H2 e2 hvs => by
    rw [List.append_nil]
    exact ⟨rs, r, hvs, s, fun v H3 e3 hv => q v H3 (e2.trans e3) (hv.back e2)⟩
/-- displays -/
theorem tp_of {H : Hp} : ∀ {vs : List V} {ds : List PyData}, ARs H vs (ds.map .d) → TpAll H vs ds
  | _, [], .nil => .nil
  | _, _ :: _, .cons h t => .cons h (tp_of t)
theorem sz_of {n : Nat} (h : n ≤ 100000) : n ≤ sizeLine := Nat.le_trans h (by decide)
theorem sz_lt {n : Nat} (h : n < 100000) : n < sizeLine := Nat.lt_of_lt_of_le h (by decide)
theorem e_tup {ds : List PyData} (h : EA tA σ H (ds.map .d)) (hl : ds.length ≤ 100000 := by exact Nat.le_of_ble_eq_true rfl) : E (tTup tA) σ H (.d (.tuple ds)) := fun H1 e Q q =>
  h H1 e _ fun vs H2 e2 hvs => ⟨by rw [(tp_of hvs).length]; exact sz_of hl, fun p hp => q _ _ (e2.trans (same_new hp)) (.tup upd_same ((tp_of hvs).mono (tx_of (same_new hp))))⟩
theorem e_lst {ds : List PyData} (h : EA tA σ H (ds.map .d)) (hl : ds.length ≤ 100000 := by exact Nat.le_of_ble_eq_true rfl) : E (tLst tA) σ H (.l ds) := fun H1 e Q q =>
  h H1 e _ fun vs H2 e2 hvs => ⟨by rw [(tp_of hvs).length]; exact sz_of hl, fun p hp => q _ _ (e2.trans (same_new hp)) ⟨p, rfl, e2.free hp, vs, upd_same, (tp_of hvs).mono (tx_of (same_new hp))⟩⟩
/-- t[k] of a tuple, xs[k] of a list -/
theorem e_ixT {ds : List PyData} {x : PyData} (k : Nat) (h : E ta σ H (.d (.tuple ds))) (hb : E tb σ H (.d (.int (k : Int)))) (hd : ds[k]? = some x) : E (tOp (rIxT K) ta tb) σ H (.d x) := fun H1 e Q q =>
  h H1 e _ fun v H2 e2 hv => hb H2 (e.trans e2) _ fun w H3 e3 hw => by
    obtain ⟨a, xs, rfl, ha, hx⟩ := Tp.tup_inv hv
    obtain rfl := Tp.int_inv hw
    obtain ⟨y, hy, ty⟩ := hx.get hd
    exact ⟨a, xs, (k : Int), y, rfl, rfl, SqT.of (e3 _ _ ha), atI_nat hy, q y H3 (e2.trans e3) (ty.mono (tx_of e3))⟩
theorem e_ixL {ds : List PyData} {x : PyData} (k : Nat) (h : Eo ta σ H (.l ds)) (hb : E tb σ H (.d (.int (k : Int)))) (hd : ds[k]? = some x) : E (tOp (rIxL K) ta tb) σ H (.d x) := fun H1 e Q q =>
  h H1 e _ fun v H2 e2 hv => hb H2 (e.trans e2) _ fun w H3 e3 hw => by
    obtain ⟨a, rfl, xs, ha, hx⟩ := hv
    obtain rfl := Tp.int_inv hw
    obtain ⟨y, hy, ty⟩ := hx.get hd
    exact ⟨a, xs, (k : Int), y, rfl, rfl, SqL.of (e3 _ _ ha), atI_nat hy, q y H3 (e2.trans e3) (ty.mono (tx_of e3))⟩
/-- operators of two ints -/
theorem e_opI {g : Int → Int → Int} {i j : Int} (ha : E ta σ H (.d (.int i))) (hb : E tb σ H (.d (.int j))) : E (tOp (rI0 fun i j => .int (g i j)) ta tb) σ H (.d (.int (g i j))) := fun H1 e Q q =>
  ha H1 e _ fun v H2 e2 hv => hb H2 (e.trans e2) _ fun w H3 e3 hw => ⟨i, j, Tp.int_inv hv, Tp.int_inv hw, q _ H3 (e2.trans e3) (Tp.int _)⟩
theorem e_opIC {C : Int → Int → Prop} {g : Int → Int → Int} {i j : Int} (ha : E ta σ H (.d (.int i))) (hb : E tb σ H (.d (.int j))) (hc : C i j) : E (tOp (rI C fun i j => .int (g i j)) ta tb) σ H (.d (.int (g i j))) := fun H1 e Q q =>
  ha H1 e _ fun v H2 e2 hv => hb H2 (e.trans e2) _ fun w H3 e3 hw => ⟨i, j, Tp.int_inv hv, Tp.int_inv hw, hc, q _ H3 (e2.trans e3) (Tp.int _)⟩
theorem e_neg {i : Int} (h : E te σ H (.d (.int i))) : E (tUn (rU fun i => .int (-i)) te) σ H (.d (.int (-i))) := fun H1 e Q q =>
  h H1 e _ fun v H2 e2 hv => ⟨i, Tp.int_inv hv, q _ H2 e2 (Tp.int _)⟩
/-- xs + ys, lists -/
theorem e_cat {xs ys : List PyData} (ha : Eo ta σ H (.l xs)) (hb : Eo tb σ H (.l ys)) (hl : xs.length + ys.length ≤ 100000) : E (tOp rCat ta tb) σ H (.l (xs ++ ys)) := fun H1 e Q q =>
  ha H1 e _ fun v H2 e2 hv => hb H2 (e.trans e2) _ fun w H3 e3 hw => by
    obtain ⟨a, rfl, vs, h1, h2⟩ := AR.mono hv e3
    obtain ⟨c, rfl, ws, h3, h4⟩ := hw
    refine ⟨a, c, vs, ws, rfl, rfl, h1, h3, by rw [h2.length, h4.length]; exact sz_of hl, fun p hp => ?_⟩
    exact q _ _ ((e2.trans e3).trans (same_new hp)) ⟨p, rfl, (e2.trans e3).free hp, vs ++ ws, upd_same, (h2.append h4).mono (tx_of (same_new hp))⟩
/-- t + u, tuples -/
theorem e_catT {xs ys : List PyData} (ha : E ta σ H (.d (.tuple xs))) (hb : E tb σ H (.d (.tuple ys))) (hl : xs.length + ys.length ≤ 100000) : E (tOp (rCatA K) ta tb) σ H (.d (.tuple (xs ++ ys))) := fun H1 e Q q =>
  ha H1 e _ fun v H2 e2 hv => hb H2 (e.trans e2) _ fun w H3 e3 hw => by
    obtain ⟨a, vs, rfl, h1, h2⟩ := Tp.tup_inv hv
    obtain ⟨c, ws, rfl, h3, h4⟩ := Tp.tup_inv hw
    have h2' := h2.mono (tx_of e3)
    refine ⟨a, c, vs, ws, rfl, rfl, SqT.of (e3 _ _ h1), SqT.of h3, by rw [h2.length, h4.length]; exact sz_of hl, fun hx => ?_, fun _ hy => ?_, fun _ _ p hp => ?_⟩
    · subst hx
      have : xs = [] := by have := h2.length; exact List.eq_nil_of_length_eq_zero this.symm
      subst this
      exact q _ H3 (e2.trans e3) (.tup h3 h4)
    · subst hy
      have : ys = [] := by have := h4.length; exact List.eq_nil_of_length_eq_zero this.symm
      subst this
      rw [List.append_nil] at q
      exact q _ H3 (e2.trans e3) (.tup (e3 _ _ h1) h2')
    · exact q _ _ ((e2.trans e3).trans (same_new hp)) (.tup upd_same ((h2'.append h4).mono (tx_of (same_new hp))))
/-- tests -/
theorem et_eqS {x y : Str} (ha : E ta σ H (.d (.str x))) (hb : E tb σ H (.d (.str y))) : ET (tTest (tOp rEq ta tb)) σ H (decide (x = y)) := fun H1 e Q q =>
  ha H1 e _ fun v H2 e2 hv => hb H2 (e.trans e2) _ fun w H3 e3 hw => by
    obtain rfl := Tp.str_inv hv
    obtain rfl := Tp.str_inv hw
    refine ⟨rfl, _, rfl, ?_⟩
    have : decide (V.str x = V.str y) = decide (x = y) := by rw [dec_str]; rfl
    rw [this]
    exact q H3 (e2.trans e3)
theorem et_eqI {x y : Int} (ha : E ta σ H (.d (.int x))) (hb : E tb σ H (.d (.int y))) : ET (tTest (tOp rEq ta tb)) σ H (decide (x = y)) := fun H1 e Q q =>
  ha H1 e _ fun v H2 e2 hv => hb H2 (e.trans e2) _ fun w H3 e3 hw => by
    obtain rfl := Tp.int_inv hv
    obtain rfl := Tp.int_inv hw
    refine ⟨rfl, _, rfl, ?_⟩
    have : decide (V.int x = V.int y) = decide (x = y) := by rw [dec_int]; rfl
    rw [this]
    exact q H3 (e2.trans e3)
theorem et_neI {x y : Int} (ha : E ta σ H (.d (.int x))) (hb : E tb σ H (.d (.int y))) : ET (tTest (tOp rNe ta tb)) σ H (!decide (x = y)) := fun H1 e Q q =>
  ha H1 e _ fun v H2 e2 hv => hb H2 (e.trans e2) _ fun w H3 e3 hw => by
    obtain rfl := Tp.int_inv hv
    obtain rfl := Tp.int_inv hw
    refine ⟨rfl, _, rfl, ?_⟩
    have : decide (V.int x = V.int y) = decide (x = y) := by rw [dec_int]; rfl
    rw [this]
    exact q H3 (e2.trans e3)
theorem et_neS {x y : Str} (ha : E ta σ H (.d (.str x))) (hb : E tb σ H (.d (.str y))) : ET (tTest (tOp rNe ta tb)) σ H (!decide (x = y)) := fun H1 e Q q =>
  ha H1 e _ fun v H2 e2 hv => hb H2 (e.trans e2) _ fun w H3 e3 hw => by
    obtain rfl := Tp.str_inv hv
    obtain rfl := Tp.str_inv hw
    refine ⟨rfl, _, rfl, ?_⟩
    have : decide (V.str x = V.str y) = decide (x = y) := by rw [dec_str]; rfl
    rw [this]
    exact q H3 (e2.trans e3)
/-- a comparison of two ints by its operator -/
theorem et_cmpI {g : Int → Int → Bool} {i j : Int} (ha : E ta σ H (.d (.int i))) (hb : E tb σ H (.d (.int j))) : ET (tTest (tOp (rI0 fun i j => .bl (g i j)) ta tb)) σ H (g i j) := fun H1 e Q q =>
  ha H1 e _ fun v H2 e2 hv => hb H2 (e.trans e2) _ fun w H3 e3 hw => ⟨i, j, Tp.int_inv hv, Tp.int_inv hw, _, rfl, q H3 (e2.trans e3)⟩
theorem et_and (h1 : ET tt σ H b) (h2 : b = true → ET tu σ H b') : ET (tAnd tt tu) σ H (b && b') := fun H1 e Q q => h1 H1 e _ fun H2 e2 => by
  cases b with
  | true =>
    show tu σ H2 Q
    exact h2 rfl H2 (e.trans e2) Q fun H3 e3 => q H3 (e2.trans e3)
  | false =>
    show Q false H2
    exact q H2 e2
theorem et_or (h1 : ET tt σ H b) (h2 : b = false → ET tu σ H b') : ET (tOr tt tu) σ H (b || b') := fun H1 e Q q => h1 H1 e _ fun H2 e2 => by
  cases b with
  | true =>
    show Q true H2
    exact q H2 e2
  | false =>
    show tu σ H2 Q
    exact h2 rfl H2 (e.trans e2) Q fun H3 e3 => q H3 (e2.trans e3)
theorem et_not (h1 : ET tt σ H b) : ET (tNot tt) σ H (!b) := fun H1 e Q q => h1 H1 e _ fun H2 e2 => q H2 e2
/-- an expression of a truth value as a test -/
theorem et_B (h : E te σ H (.b b)) : ET (tB te) σ H b := fun H1 e Q q => h H1 e _ fun v H2 e2 hv => ⟨b, hv, q H2 e2⟩
/-- is None, is not None -/
def rIsN : R2 := fun x y H Q => y = .non ∧ Q (.bl (decide (x = .non))) H
def rNotN : R2 := fun x y H Q => y = .non ∧ Q (.bl (!decide (x = .non))) H
theorem op_isN1 {X : Cx} : OpR X (compareOp .Is) rIsN := op_isN
theorem op_notN1 {X : Cx} : OpR X (compareOp .IsNot) rNotN := op_notN
def isNon : PyData → Bool
  | .none => true
  | _ => false
theorem Tp.isNon {H : Hp} {v : V} {d : PyData} (h : Tp H v d) : decide (v = .non) = VL.isNon d := by
  cases h <;> first | rfl | exact decide_eq_false (by intro z; cases z)
theorem et_isN {x : PyData} (ha : E ta σ H (.d x)) : ET (tTest (tOp rIsN ta (tC .non))) σ H (isNon x) := fun H1 e Q q =>
  ha H1 e _ fun v H2 e2 hv => ⟨rfl, _, rfl, by rw [Tp.isNon hv]; exact q H2 e2⟩
theorem et_notN {x : PyData} (ha : E ta σ H (.d x)) : ET (tTest (tOp rNotN ta (tC .non))) σ H (!isNon x) := fun H1 e Q q =>
  ha H1 e _ fun v H2 e2 hv => ⟨rfl, _, rfl, by rw [Tp.isNon hv]; exact q H2 e2⟩
/-- i in xs, a list of ints; x in xs, a list of texts -/
theorem inV_int (x : Int) (ns : List Int) : inV (.int x) (ns.map V.int) = ns.contains x := by
  unfold inV
  rw [List.any_map, List.contains_eq_any_beq]
  congr 1
  funext y
  show (y == x) = (x == y)
  exact Bool.beq_comm
theorem inV_str (x : Str) (ns : List Str) : inV (.str x) (ns.map V.str) = ns.contains x := by
  unfold inV
  rw [List.any_map, List.contains_eq_any_beq]
  congr 1
  funext y
  show (y == x) = (x == y)
  exact Bool.beq_comm
theorem flat_ints (ns : List Int) : (ns.map V.int).all flatV = true := by rw [List.all_map]; simp [flatV, Function.comp_def]
theorem flat_strs (ns : List Str) : (ns.map V.str).all flatV = true := by rw [List.all_map]; simp [flatV, Function.comp_def]
theorem et_inI {neg : Bool} {x : Int} {ns : List Int} (ha : E ta σ H (.d (.int x))) (hb : Eo tb σ H (.l (ns.map .int))) : ET (tTest (tOp (rIn K neg) ta tb)) σ H (if neg then !ns.contains x else ns.contains x) := fun H1 e Q q =>
  ha H1 e _ fun v H2 e2 hv => hb H2 (e.trans e2) _ fun w H3 e3 hw => by
    obtain rfl := Tp.int_inv hv
    obtain ⟨p, rfl, vs, h1, h2⟩ := hw
    obtain rfl := h2.ints
    refine ⟨p, _, rfl, .inl (SqL.of h1), rfl, flat_ints ns, _, rfl, ?_⟩
    rw [inV_int]
    exact q H3 (e2.trans e3)
theorem et_inS {neg : Bool} {x : Str} {ns : List Str} (ha : E ta σ H (.d (.str x))) (hb : Eo tb σ H (.l (ns.map .str))) : ET (tTest (tOp (rIn K neg) ta tb)) σ H (if neg then !ns.contains x else ns.contains x) := fun H1 e Q q =>
  ha H1 e _ fun v H2 e2 hv => hb H2 (e.trans e2) _ fun w H3 e3 hw => by
    obtain rfl := Tp.str_inv hv
    obtain ⟨p, rfl, vs, h1, h2⟩ := hw
    obtain rfl := h2.strs
    refine ⟨p, _, rfl, .inl (SqL.of h1), rfl, flat_strs ns, _, rfl, ?_⟩
    rw [inV_str]
    exact q H3 (e2.trans e3)
theorem et_niI {x : Int} {ns : List Int} (ha : E ta σ H (.d (.int x))) (hb : Eo tb σ H (.l (ns.map .int))) : ET (tTest (tOp (rIn K true) ta tb)) σ H (!ns.contains x) := et_inI (neg := true) ha hb
theorem et_yiI {x : Int} {ns : List Int} (ha : E ta σ H (.d (.int x))) (hb : Eo tb σ H (.l (ns.map .int))) : ET (tTest (tOp (rIn K false) ta tb)) σ H (ns.contains x) := et_inI (neg := false) ha hb
theorem et_niS {x : Str} {ns : List Str} (ha : E ta σ H (.d (.str x))) (hb : Eo tb σ H (.l (ns.map .str))) : ET (tTest (tOp (rIn K true) ta tb)) σ H (!ns.contains x) := et_inS (neg := true) ha hb
/-- len -/
def rLn (K : PySem.W.Frag) : List V → Hp → VK → Prop := fun xs H Q => ∃ p ys, xs = [.ref p] ∧ (SqL K H p ys ∨ SqT K H p ys) ∧ Q (.int ys.length) H
theorem call_ln {X : Cx} : CallR X (.builtin "len") (rLn X.K) := call_len_seq
theorem e_lenL {xs : List PyData} (h : Eo te σ H (.l xs)) : E (tCB (rLn K) (tCons te tNil)) σ H (.d (.int xs.length)) := fun H1 e Q q =>
  h H1 e _ fun v H2 e2 hv => by
    obtain ⟨p, rfl, vs, h1, h2⟩ := hv
    refine ⟨p, vs, rfl, .inl (SqL.of h1), ?_⟩
    rw [h2.length]
    exact q _ H2 e2 (Tp.int _)
theorem e_lenT {xs : List PyData} (h : E te σ H (.d (.tuple xs))) : E (tCB (rLn K) (tCons te tNil)) σ H (.d (.int xs.length)) := fun H1 e Q q =>
  h H1 e _ fun v H2 e2 hv => by
    obtain ⟨p, vs, rfl, h1, h2⟩ := Tp.tup_inv hv
    refine ⟨p, vs, rfl, .inr (SqT.of h1), ?_⟩
    rw [h2.length]
    exact q _ H2 e2 (Tp.int _)
/-- tuple(xs) of a list -/
def rTo (K : PySem.W.Frag) : List V → Hp → VK → Prop := fun xs H Q => ∃ p ys, xs = [.ref p] ∧ ((SqL K H p ys ∧ ∀ l, H l = none → Q (.ref l) (upd H l (.tup ys))) ∨ (SqT K H p ys ∧ Q (.ref p) H))
theorem call_to {X : Cx} : CallR X (.type "tuple") (rTo X.K) := call_tuple_of
theorem e_to {xs : List PyData} (h : Eo te σ H (.l xs)) : E (tCB (rTo K) (tCons te tNil)) σ H (.d (.tuple xs)) := fun H1 e Q q =>
  h H1 e _ fun v H2 e2 hv => by
    obtain ⟨p, rfl, vs, h1, h2⟩ := hv
    exact ⟨p, vs, rfl, .inl ⟨SqL.of h1, fun l hl => q _ _ (e2.trans (same_new hl)) (.tup upd_same (h2.mono (tx_of (same_new hl))))⟩⟩
/-- t[lo:hi] -/
def EO (to : TO) (σ : L2.St) (H : Hp) (o : Option Int) : Prop := ∀ H1, Same H H1 → ∀ Q : Option Int → Hp → Prop, (∀ H2, Same H1 H2 → Q o H2) → to σ H1 Q
theorem eo_no : EO tNoPart σ H none := fun H1 _ Q q => q H1 (Same.refl H1)
theorem eo_part {i : Int} (h : E te σ H (.d (.int i))) : EO (tPart te) σ H (some i) := fun H1 e Q q => h H1 e _ fun v H2 e2 hv => ⟨i, Tp.int_inv hv, q H2 e2⟩
def cutD (xs : List PyData) (lo hi : Option Int) : List PyData := (xs.drop (HT.sIx xs.length 0 lo)).take (HT.sIx xs.length xs.length hi - HT.sIx xs.length 0 lo)
theorem TpAll.cut {H : Hp} {vs : List V} {ds : List PyData} (h : TpAll H vs ds) (lo hi : Option Int) : TpAll H (cutV vs lo hi) (cutD ds lo hi) := by
  unfold cutV cutD
  rw [h.length]
  exact (h.drop _).take _
theorem e_slT {tl th : TO} {xs : List PyData} {lo hi : Option Int} (h : E te σ H (.d (.tuple xs))) (hl : EO tl σ H lo) (hh : EO th σ H hi) : E (tSl (rSlA K) te tl th) σ H (.d (.tuple (cutD xs lo hi))) := fun H1 e Q q =>
  h H1 e _ fun v H2 e2 hv => hl H2 (e.trans e2) _ fun H3 e3 => hh H3 ((e.trans e2).trans e3) _ fun H4 e4 => by
    obtain ⟨a, vs, rfl, h1, h2⟩ := Tp.tup_inv hv
    have e34 := e3.trans e4
    have h2' := h2.mono (tx_of e34)
    refine ⟨a, vs, rfl, SqT.of (e34 _ _ h1), fun hw => ?_, fun _ p hp => ?_⟩
    · have hc : cutD xs lo hi = xs := by
        unfold cutD
        rw [← h2.length, hw.1, hw.2, List.drop_zero, Nat.sub_zero, h2.length, List.take_length]
      rw [hc] at q
      exact q _ H4 (e2.trans e34) (.tup (e34 _ _ h1) h2')
    · exact q _ _ ((e2.trans e34).trans (same_new hp)) (.tup upd_same ((h2'.cut lo hi).mono (tx_of (same_new hp))))
theorem cutD_to (xs : List PyData) (k : Nat) : cutD xs none (some (k : Int)) = xs.take k := by
  unfold cutD
  rw [HT.sIx_none, HT.sIx_nat, List.drop_zero, Nat.sub_zero]
  by_cases h : k ≤ xs.length
  · rw [Nat.min_eq_left h]
  · rw [Nat.min_eq_right (by omega), List.take_length, List.take_of_length_le (by omega)]
theorem cutD_from (xs : List PyData) (k : Nat) : cutD xs (some (k : Int)) none = xs.drop k := by
  unfold cutD
  rw [HT.sIx_none, HT.sIx_nat]
  by_cases h : k ≤ xs.length
  · rw [Nat.min_eq_left h, List.take_of_length_le (by rw [List.length_drop]; omega)]
  · rw [Nat.min_eq_right (by omega), List.drop_length, List.drop_eq_nil_of_le (by omega)]; simp
end

/-! ### statements -/
section
variable {K : PySem.W.Frag} {σ : L2.St} {H H' : Hp} {ta tb te : TE} {tt tu : TT} {tA : TA} {r r' : Rs} {b b' : Bool} {D : Ends} {t u tz : TS} {g : TG}
theorem q_seq (h : t { D with nx := u D } σ H) : tSeq t u D σ H := h
theorem s_ret (h : E te σ H r) (k : ∀ v H1, Same H H1 → RR H H1 v r → D.rt v H1) : tRet te D σ H := h H (Same.refl H) _ k
theorem s_if (h : ET tt σ H b) (h1 : b = true → ∀ H1, Same H H1 → t D σ H1) (h2 : b = false → ∀ H1, Same H H1 → u D σ H1) : tIfS tt t u D σ H := h H (Same.refl H) _ fun H1 e => by
  cases b with
  | true => exact h1 rfl H1 e
  | false => exact h2 rfl H1 e
theorem q_if (h : ET tt σ H b) (h1 : b = true → ∀ H1, Same H H1 → t { D with nx := tz D } σ H1) (h2 : b = false → ∀ H1, Same H H1 → u { D with nx := tz D } σ H1) : tSeq (tIfS tt t u) tz D σ H := s_if (D := { D with nx := tz D }) h h1 h2
/-- if c: return .. -/
theorem q_when (h : ET tt σ H b) (h1 : b = true → ∀ H1, Same H H1 → t { D with nx := tz D } σ H1) (h2 : b = false → ∀ H1, Same H H1 → tz D σ H1) : tSeq (tIfS tt t tNext) tz D σ H := s_if (D := { D with nx := tz D }) h h1 h2
theorem s_asg {i : Nat} (h : E te σ H r) (k : ∀ v H1, Same H H1 → RR H H1 v r → D.nx (σ.set i (some v)) H1) : tAsg te (gName i) D σ H := h H (Same.refl H) _ k
theorem q_asg {i : Nat} (h : E te σ H r) (k : ∀ v H1, Same H H1 → RR H H1 v r → tz D (σ.set i (some v)) H1) : tSeq (tAsg te (gName i)) tz D σ H := h H (Same.refl H) _ k
/-- xs.append(e) at the name i -/
theorem s_app {i : Nat} {l : Addr} {ds : List PyData} {x : PyData} (hv : σ[i]? = some (some (.ref l))) (hl : Ls H l ds) (hz : ds.length < 100000) (h : E te σ H (.d x)) (k : ∀ H1, But l H H1 → Ls H1 l (ds ++ [x]) → Tx H H1 → D.nx σ H1) :
    tDrop (tBM K "list" rAppend (tVar i) (tCons te tNil)) D σ H := by
  obtain ⟨vs, h1, h2⟩ := hl
  refine ⟨_, hv, Or.inl ⟨rfl, vs, SqL.of h1⟩, h H (Same.refl H) _ fun v H1 e hx => ?_⟩
  have t1 : Tx H1 (upd H1 l (.lst (vs ++ [v]))) := tx_lst (e _ _ h1)
  refine ⟨l, vs, v, rfl, rfl, e _ _ h1, sz_lt (by rw [h2.length]; exact hz), k _ (fun b o q n => ?_) ⟨vs ++ [v], upd_same, ((h2.mono (tx_of e)).append (.one hx)).mono t1⟩ ((tx_of e).trans t1)⟩
  rw [upd_ne n]
  exact e b o q
/-- for x in t, a tuple: what is done, what is left -/
theorem s_for {α : Type} {enc : α → PyData} {xs : List α} {j : Nat} (h : E te σ H (.d (.tuple (xs.map enc))))
    (k : ∀ H1, Same H H1 → ∃ Pv : List α → List α → L2.St → Hp → Prop, Pv [] xs σ H1 ∧ (∀ a b σ' H', Pv a b σ' H' → Tx H1 H') ∧
      (∀ done x todo v σ' H', xs = done ++ x :: todo → Pv done (x :: todo) σ' H' → Tp H' v (enc x) → t { D with nx := Pv (done ++ [x]) todo, ct := Pv (done ++ [x]) todo, bk := D.nx } (σ'.set j (some v)) H') ∧
      (∀ σ' H', Pv xs [] σ' H' → D.nx σ' H')) : tFor (iTup K te) (gName j) t D σ H :=
  h H (Same.refl H) _ fun v H1 e hv => by
    obtain ⟨a, vs, rfl, h1, h2⟩ := Tp.tup_inv hv
    obtain ⟨Pv, p0, ptx, ps, pd⟩ := k H1 e
    have hl : vs.length = xs.length := by rw [h2.length, List.length_map]
    refine ⟨a, rfl, ⟨vs, SqT.of h1⟩, for_tup (xs := vs) (fun i σ' H' => Pv (xs.take i) (xs.drop i) σ' H') p0 (fun i σ' H' _ p => SqT.of (ptx _ _ _ _ p _ _ h1)) (fun i x σ' H' hx p => ?_) fun σ' H' p => ?_⟩
    · obtain ⟨d, hd, td⟩ := h2.getV hx
      rw [List.getElem?_map] at hd
      cases ex : xs[i]? with
      | none => rw [ex] at hd; cases hd
      | some y =>
        rw [ex] at hd
        have ed : enc y = d := Option.some.inj hd
        obtain ⟨hi, ey⟩ := List.getElem?_eq_some_iff.mp ex
        have e1 : xs.drop i = y :: xs.drop (i + 1) := by rw [← ey]; exact List.drop_eq_getElem_cons hi
        have e2 : xs.take (i + 1) = xs.take i ++ [y] := by rw [List.take_add_one, ex]; rfl
        have e3 : xs = xs.take i ++ y :: xs.drop (i + 1) := by rw [← e1, List.take_append_drop]
        rw [e1] at p
        show t { D with nx := fun σ' H' => Pv (xs.take (i + 1)) (xs.drop (i + 1)) σ' H', ct := fun σ' H' => Pv (xs.take (i + 1)) (xs.drop (i + 1)) σ' H', bk := D.nx } (σ'.set j (some x)) H'
        rw [e2]
        exact ps _ y _ x σ' H' e3 p (by rw [ed]; exact td.mono (ptx _ _ _ _ p))
    · refine pd σ' H' ?_
      have p' : Pv (xs.take vs.length) (xs.drop vs.length) σ' H' := p
      rw [hl, List.take_length, List.drop_length] at p'
      exact p'
theorem q_for {α : Type} {enc : α → PyData} {xs : List α} {j : Nat} (h : E te σ H (.d (.tuple (xs.map enc))))
    (k : ∀ H1, Same H H1 → ∃ Pv : List α → List α → L2.St → Hp → Prop, Pv [] xs σ H1 ∧ (∀ a b σ' H', Pv a b σ' H' → Tx H1 H') ∧
      (∀ done x todo v σ' H', xs = done ++ x :: todo → Pv done (x :: todo) σ' H' → Tp H' v (enc x) → t { D with nx := Pv (done ++ [x]) todo, ct := Pv (done ++ [x]) todo, bk := tz D } (σ'.set j (some v)) H') ∧
      (∀ σ' H', Pv xs [] σ' H' → tz D σ' H')) : tSeq (tFor (iTup K te) (gName j) t) tz D σ H := s_for (D := { D with nx := tz D }) h k
/-- .. the tuple held by a name; H0: a heap ahead -/
theorem s_forV {H0 : Hp} {α : Type} {enc : α → PyData} {xs : List α} {i j : Nat} {v : V} (hv : σ[i]? = some (some v)) (tv : Tp H0 v (.tuple (xs.map enc))) (Pv : List α → List α → L2.St → Hp → Prop) (p0 : Pv [] xs σ H) (tx : ∀ a b σ' H', Pv a b σ' H' → Tx H0 H')
    (ps : ∀ done x todo u σ' H', xs = done ++ x :: todo → Pv done (x :: todo) σ' H' → Tp H' u (enc x) → t { D with nx := Pv (done ++ [x]) todo, ct := Pv (done ++ [x]) todo, bk := D.nx } (σ'.set j (some u)) H')
    (pd : ∀ σ' H', Pv xs [] σ' H' → D.nx σ' H') : tFor (iTup K (tVar i)) (gName j) t D σ H := by
  obtain ⟨a, vs, rfl, h1, h2⟩ := Tp.tup_inv tv
  have hl : vs.length = xs.length := by rw [h2.length, List.length_map]
  refine ⟨_, hv, a, rfl, ⟨vs, SqT.of (tx _ _ _ _ p0 _ _ h1)⟩, for_tup (xs := vs) (fun i σ' H' => Pv (xs.take i) (xs.drop i) σ' H') p0 (fun i σ' H' _ p => SqT.of (tx _ _ _ _ p _ _ h1)) (fun i x σ' H' hx p => ?_) fun σ' H' p => ?_⟩
  · obtain ⟨d, hd, td⟩ := h2.getV hx
    rw [List.getElem?_map] at hd
    cases ex : xs[i]? with
    | none => rw [ex] at hd; cases hd
    | some y =>
      rw [ex] at hd
      have ed : enc y = d := Option.some.inj hd
      obtain ⟨hi, ey⟩ := List.getElem?_eq_some_iff.mp ex
      have e1 : xs.drop i = y :: xs.drop (i + 1) := by rw [← ey]; exact List.drop_eq_getElem_cons hi
      have e2 : xs.take (i + 1) = xs.take i ++ [y] := by rw [List.take_add_one, ex]; rfl
      have e3 : xs = xs.take i ++ y :: xs.drop (i + 1) := by rw [← e1, List.take_append_drop]
      rw [e1] at p
      show t { D with nx := fun σ' H' => Pv (xs.take (i + 1)) (xs.drop (i + 1)) σ' H', ct := fun σ' H' => Pv (xs.take (i + 1)) (xs.drop (i + 1)) σ' H', bk := D.nx } (σ'.set j (some x)) H'
      rw [e2]
      exact ps _ y _ x σ' H' e3 p (by rw [ed]; exact td.mono (tx _ _ _ _ p))
  · refine pd σ' H' ?_
    have p' : Pv (xs.take vs.length) (xs.drop vs.length) σ' H' := p
    rw [hl, List.take_length, List.drop_length] at p'
    exact p'
theorem q_forV {H0 : Hp} {α : Type} {enc : α → PyData} {xs : List α} {i j : Nat} {v : V} (hv : σ[i]? = some (some v)) (tv : Tp H0 v (.tuple (xs.map enc))) (Pv : List α → List α → L2.St → Hp → Prop) (p0 : Pv [] xs σ H) (tx : ∀ a b σ' H', Pv a b σ' H' → Tx H0 H')
    (ps : ∀ done x todo u σ' H', xs = done ++ x :: todo → Pv done (x :: todo) σ' H' → Tp H' u (enc x) → t { D with nx := Pv (done ++ [x]) todo, ct := Pv (done ++ [x]) todo, bk := tz D } (σ'.set j (some u)) H')
    (pd : ∀ σ' H', Pv xs [] σ' H' → tz D σ' H') : tSeq (tFor (iTup K (tVar i)) (gName j) t) tz D σ H := s_forV (D := { D with nx := tz D }) hv tv Pv p0 tx ps pd
/-- a list of one's own: new since H0 -/
def Lc (H0 H : Hp) (l : Addr) (ds : List PyData) : Prop := H0 l = none ∧ Same H0 H ∧ Ls H l ds
theorem Lc.same {H0 H1 : Hp} {l : Addr} {ds : List PyData} (h : Lc H0 H l ds) (e : Same H H1) : Lc H0 H1 l ds := ⟨h.1, h.2.1.trans e, h.2.2.mono e⟩
theorem Lc.rr {H0 : Hp} {l : Addr} {ds : List PyData} (h : Lc H0 H l ds) : RR H0 H (.ref l) (.l ds) := ⟨l, rfl, h.1, h.2.2⟩
theorem Lc.tx {H0 : Hp} {l : Addr} {ds : List PyData} (h : Lc H0 H l ds) : Tx H0 H := tx_of h.2.1
theorem lc_of {H0 H1 : Hp} {v : V} {ds : List PyData} (e0 : Same H0 H) (e : Same H H1) (h : RR H H1 v (.l ds)) : ∃ l, v = .ref l ∧ Lc H0 H1 l ds := by
  obtain ⟨l, rfl, h1, h2⟩ := h
  exact ⟨l, rfl, e0.free h1, e0.trans e, h2⟩
/-- xs = [] -/
theorem q_new {H0 : Hp} {i : Nat} (e0 : Same H0 H) (k : ∀ l H1, Same H H1 → Lc H0 H1 l [] → tz D (σ.set i (some (.ref l))) H1) : tSeq (tAsg (tLst tNil) (gName i)) tz D σ H :=
  q_asg (e_lst (ds := []) ea_nil) fun v H1 e1 hv => by
    obtain ⟨l, rfl, h⟩ := lc_of e0 e1 hv
    exact k l H1 e1 h
/-- xs.append(e) -/
theorem s_push {H0 : Hp} {i : Nat} {l : Addr} {ds : List PyData} {x : PyData} (hv : σ[i]? = some (some (.ref l))) (hl : Lc H0 H l ds) (hz : ds.length < 100000) (h : E te σ H (.d x)) (k : ∀ H1, Lc H0 H1 l (ds ++ [x]) → Tx H H1 → D.nx σ H1) :
    tDrop (tBM K "list" rAppend (tVar i) (tCons te tNil)) D σ H :=
  s_app hv hl.2.2 hz h fun H1 b q tx => k H1 ⟨hl.1, b.same hl.1 hl.2.1, q⟩ tx
theorem q_push {H0 : Hp} {i : Nat} {l : Addr} {ds : List PyData} {x : PyData} (hv : σ[i]? = some (some (.ref l))) (hl : Lc H0 H l ds) (hz : ds.length < 100000) (h : E te σ H (.d x)) (k : ∀ H1, Lc H0 H1 l (ds ++ [x]) → Tx H H1 → tz D σ H1) :
    tSeq (tDrop (tBM K "list" rAppend (tVar i) (tCons te tNil))) tz D σ H := s_push (D := { D with nx := tz D }) hv hl hz h k
/-- xs = xs + e, e a new list or another one -/
theorem s_grow {H0 : Hp} {i : Nat} {l : Addr} {ds es : List PyData} (hv : σ[i]? = some (some (.ref l))) (hl : Lc H0 H l ds) (h : Eo te σ H (.l es)) (hz : ds.length + es.length ≤ 100000) (k : ∀ l' H1, Lc H0 H1 l' (ds ++ es) → Same H H1 → D.nx (σ.set i (some (.ref l'))) H1) :
    tAsg (tOp rCat (tVar i) te) (gName i) D σ H :=
  s_asg (e_cat (eo_lst hv hl.2.2) h hz) fun v H1 e1 hv => by
    obtain ⟨l', rfl, h'⟩ := lc_of hl.2.1 e1 hv
    exact k l' H1 h' e1
theorem q_grow {H0 : Hp} {i : Nat} {l : Addr} {ds es : List PyData} (hv : σ[i]? = some (some (.ref l))) (hl : Lc H0 H l ds) (h : Eo te σ H (.l es)) (hz : ds.length + es.length ≤ 100000) (k : ∀ l' H1, Lc H0 H1 l' (ds ++ es) → Same H H1 → tz D (σ.set i (some (.ref l'))) H1) :
    tSeq (tAsg (tOp rCat (tVar i) te) (gName i)) tz D σ H := s_grow (D := { D with nx := tz D }) hv hl h hz k
/-- return xs -/
theorem s_retO {i : Nat} {v : V} (hv : σ[i]? = some (some v)) (k : D.rt v H) : tRet (tVar i) D σ H := ⟨v, hv, k⟩
/-- a comprehension over a tuple, its own names forgotten -/
theorem e_lcT {α : Type} {enc : α → PyData} {xs : List α} {vs : List Nat} (f : α → Option PyData) (h : E te σ H (.d (.tuple (xs.map enc)))) (hl : xs.length < 100000)
    (hs : ∀ x ∈ xs, ∀ v H1, Same H H1 → Tp H1 v (enc x) → ∀ Q : L2.St → Hp → Prop, (∀ σ2 H2, Same H1 H2 → wipe σ2 vs = wipe σ vs → (∃ b, ET tt σ2 H2 b ∧ if b = true then ∃ d, f x = some d ∧ E tb σ2 H2 (.d d) else f x = none) → Q σ2 H2) → g v (wipe σ vs) H1 Q) :
    E (tLc (iTup K te) g tt tb vs) σ H (.l (xs.filterMap f)) := fun H0 e0 Q q => h H0 e0 _ fun v H1 e1 hv => by
  obtain ⟨a, ws, rfl, h1, h2⟩ := Tp.tup_inv hv
  have hlen : ws.length = xs.length := by rw [h2.length, List.length_map]
  refine ⟨a, rfl, ⟨ws, SqT.of h1⟩, fun Dl hD => ?_⟩
  have eD : Same H1 (upd H1 Dl (.lst [])) := same_new hD
  refine lc_tup (xs := ws) (fun i H' => Same H1 H' ∧ Ls H' Dl ((xs.take i).filterMap f)) ⟨eD, [], upd_same, .nil⟩ (fun i H' _ p => SqT.of (p.1 _ _ h1)) (fun i x H' hx p => ?_) fun H' p => ?_
  · obtain ⟨p1, p2⟩ := p
    obtain ⟨d, hd, td⟩ := h2.getV hx
    rw [List.getElem?_map] at hd
    cases ex : xs[i]? with
    | none => rw [ex] at hd; cases hd
    | some y =>
      rw [ex] at hd
      have ed : enc y = d := Option.some.inj hd
      have hy : y ∈ xs := List.mem_of_getElem? ex
      have e2 : (xs.take (i + 1)).filterMap f = (xs.take i).filterMap f ++ (f y).toList := by
        rw [List.take_add_one, ex, List.filterMap_append]
        cases hf : f y <;> simp [hf]
      have hlt : ((xs.take i).filterMap f).length < 100000 := Nat.lt_of_le_of_lt (Nat.le_trans (List.length_filterMap_le _ _) (by rw [List.length_take]; exact Nat.min_le_right _ _)) hl
      refine hs y hy x H' ((e0.trans e1).trans p1) (by rw [ed]; exact td.mono (tx_of p1)) _ fun σ2 H2 s2 hw ⟨b, hb, hb2⟩ => ⟨hw, ?_⟩
      refine hb H2 (Same.refl H2) _ fun H3 s3 => ?_
      cases b with
      | true =>
        obtain ⟨d', hf, hd'⟩ : ∃ d, f y = some d ∧ E tb σ2 H2 (.d d) := hb2
        show tb σ2 H3 _
        refine hd' H3 s3 _ fun w H4 s4 hw' => ?_
        obtain ⟨acc, a1, a2⟩ := (p2.mono ((s2.trans s3).trans s4))
        refine ⟨acc, a1, by rw [a2.length]; exact sz_lt hlt, (But.upd).same hD (((p1.trans s2).trans s3).trans s4), acc ++ [w], upd_same, ?_⟩
        rw [e2, hf]
        exact (a2.append (.one hw')).mono (tx_lst a1)
      | false =>
        have hf : f y = none := hb2
        show Same H1 H3 ∧ Ls H3 Dl _
        rw [e2, hf]
        refine ⟨(p1.trans s2).trans s3, ?_⟩
        show Ls H3 Dl (_ ++ [])
        rw [List.append_nil]
        exact p2.mono (s2.trans s3)
  · obtain ⟨p1, p2⟩ := p
    rw [hlen, List.take_length] at p2
    exact q _ H' (e1.trans p1) ⟨Dl, rfl, e1.free hD, p2⟩
end
end VL

/-! The calculus, part 2: nodes and operations as data; further rules (sorted of pairs, not in over a tuple of tuples, walks, comprehensions). -/
namespace VL
open PySem L2

/-! ### nodes, operations as data -/
def eP (p : Str × Str) : PyData := .tuple [.str p.1, .str p.2]
mutual
def eN : Node → PyData
  | .text i s => .tuple [.str "text", .int i, .str s]
  | .elem i t a k => .tuple [.str "element", .int i, .str t, .tuple (a.map eP), .tuple (eL k)]
def eL : List Node → List PyData
  | [] => []
  | n :: r => eN n :: eL r
end
theorem eL_map : ∀ l : List Node, eL l = l.map eN
  | [] => by simp [eL]
  | n :: r => by rw [eL, eL_map r]; rfl
abbrev eD (d : List Node) : PyData := .tuple (d.map eN)
theorem eN_elem (i : Int) (t : Str) (a : Attrs) (k : List Node) : eN (.elem i t a k) = .tuple [.str "element", .int i, .str t, .tuple (a.map eP), eD k] := by rw [eN, eL_map]
theorem eN_text (i : Int) (s : Str) : eN (.text i s) = .tuple [.str "text", .int i, .str s] := by rw [eN]
abbrev eI (ns : List Int) : List PyData := ns.map .int
def eAh : Option Int → PyData
  | none => .none
  | some a => .int a
def eOp : Op → PyData
  | .remove p i => .tuple [.str "remove", .int p, .int i]
  | .insert p x ah => .tuple [.str "insert", .int p, eN x, eAh ah]
  | .move p i ah => .tuple [.str "move", .int p, .int i, eAh ah]
  | .text i s => .tuple [.str "text", .int i, .str s]
  | .set i n t => .tuple [.str "set", .int i, .str n, .str t]
  | .unset i n => .tuple [.str "unset", .int i, .str n]
/-- a node's data -/
def wd : Node → Str
  | .text _ _ => "text"
  | .elem _ _ _ _ => "element"
def it2 : Node → Str
  | .text _ s => s
  | .elem _ t _ _ => t
theorem eN_get (x : Node) : ∃ y, eN x = .tuple y ∧ y[1]? = some (.int x.id) ∧ y[0]? = some (.str (wd x)) := by
  cases x <;> simp [eN, Node.id, wd]
theorem eN_get2 (x : Node) : ∃ y, eN x = .tuple y ∧ y[1]? = some (.int x.id) ∧ y[0]? = some (.str (wd x)) ∧ y[2]? = some (.str (it2 x)) := by
  cases x <;> simp [eN, Node.id, wd, it2]
theorem wd_ne : (Str.ofString "text" : Str) ≠ Str.ofString "element" := by decide +kernel
theorem sameN_eq (k n : Node) : (decide (k.id = n.id) && (decide (wd k = wd n) && (decide (wd k = Str.ofString "text") || decide (it2 k = it2 n)))) = sameN k n := by
  cases k <;> cases n <;> simp [sameN, wd, it2, Node.id, wd_ne, wd_ne.symm, Bool.beq_eq_decide_eq] <;> rfl
def eO : Option Node → PyData
  | none => .none
  | some x => eN x
theorem eO_non (x : Node) : isNon (eO (some x)) = false := by cases x <;> simp [eO, eN, isNon]
theorem eN_non (x : Node) : isNon (eN x) = false := by cases x <;> simp [eN, isNon]

/-! ### not in, over a tuple of data -/
def rNotInDT (K : PySem.W.Frag) : R2 := fun x y H Q => ∃ d ds, Dp K H x d ∧ Dp K H y (.tuple ds) ∧ SeqAt.shaped d = true ∧ PyData.canLayAll0 ds = true ∧ Q (.bl (!ds.any fun z => PyData.eqv z d)) H
theorem op_notInDT {X : Cx} (hu : X.A.units + 65 < cLine) : OpR X (compareOp .NotIn) (rNotInDT X.K) := by
  intro pins s σ H x y v u Q I rx ry h
  obtain ⟨d, ds, hd, he, sd, se, q⟩ := h
  obtain ⟨as, r1⟩ := Dp.reads I d x v hd rx
  obtain ⟨bs, r2⟩ := Dp.reads I (.tuple ds) y u he ry
  exact SeqAt.notIn_tuple_reads r2 r1 se (SeqAt.canLay_of_shaped sd) (PyProof.Rows.room_in_shaped sd hu) ⟨.bl _, H, I, rfl, q⟩
theorem hu_in {A : Around} {k : Nat} (hr : Room k A) : A.units + 65 < cLine := by have := hr.un; omega

/-! ### sorted, of pairs of texts -/
theorem dataLe_eP : PySem.W.dataLe false eP = leA := by
  funext p q
  show (!PySem.W.dataLt (eP q) (eP p)) = leA p q
  unfold eP leA
  rw [PySem.W.dataLt_pair (by simp [PySem.W.alike]) (by simp [PySem.W.alike]), PySem.W.dataLt_str, PySem.W.dataLt_str]
  simp only [PyData.eqv, beq_iff_eq]
  by_cases h1 : q.1 = p.1
  · rw [if_pos h1]
    by_cases h2 : q.2 = p.2
    · rw [if_pos h2, h1, h2]
      simp [List.lt_irrefl]
    · rw [if_neg h2, h1]
      have hn : ¬ p.1.cps.toList < p.1.cps.toList := List.lt_irrefl _
      by_cases h3 : q.2.cps.toList < p.2.cps.toList
      · have h4 : ¬ p.2.cps.toList ≤ q.2.cps.toList := fun z => List.not_lt.mpr z h3
        simp [h3, h4, hn]
      · have h4 : p.2.cps.toList ≤ q.2.cps.toList := List.not_lt.mp h3
        simp [h3, h4, hn]
  · rw [if_neg h1]
    have h0 : ¬ p.1.cps.toList = q.1.cps.toList := fun z => h1 (str_ext z.symm)
    by_cases h3 : q.1.cps.toList < p.1.cps.toList
    · have h4 : ¬ p.1.cps.toList < q.1.cps.toList := List.lt_asymm h3
      simp [h3, h4, h0]
    · have h4 : p.1.cps.toList < q.1.cps.toList := by
        apply Classical.byContradiction
        intro z
        exact h0 (List.le_antisymm (List.not_lt.mp h3) (List.not_lt.mp z))
      simp [h3, h4]
def rSortedA (K : PySem.W.Frag) : List V → Hp → VK → Prop := fun vs H Q => ∃ (a : Addr) (ps : List (Str × Str)) (xs : List V), vs = [V.ref a] ∧ SqL K H a xs ∧ TpAll H xs (ps.map eP) ∧
  ∀ (ys : List V) (p : Addr), TpAll H ys ((ps.mergeSort leA).map eP) → H p = none → Q (.ref p) (upd H p (.lst ys))
theorem each_mk {X : Cx} {pins : List (Addr × Obj)} {σ : L2.St} {H : Hp} {s : Shared} (I : Inv X pins σ H s) : ∀ {xs : List V} {us : List Value} {ps : List (Str × Str)}, Vals xs us → TpAll H xs (ps.map eP) →
    ∃ bs : List ((Str × Str) × V), bs.map (·.1) = ps ∧ PySem.W.EachIs (fun u b => RelV b.2 u ∧ Tp H b.2 (eP b.1)) us bs ∧ PySem.W.EachIs (fun u b => ∃ as, Reads s.heap u (eP b.1) as) us bs
  | [], _, [], .nil, .nil => ⟨[], rfl, .nil, .nil⟩
  | x :: xs, _, p :: ps, .cons r rr, .cons t tt => by
    obtain ⟨bs, h1, h2, h3⟩ := each_mk I rr tt
    exact ⟨(p, x) :: bs, by rw [List.map_cons, h1], .cons ⟨r, t⟩ h2, .cons (Dp.reads I _ _ _ t.dp r) h3⟩
theorem each_out {H : Hp} : ∀ {us : List Value} {bs : List ((Str × Str) × V)}, PySem.W.EachIs (fun u b => RelV b.2 u ∧ Tp H b.2 (eP b.1)) us bs → Vals (bs.map (·.2)) us ∧ TpAll H (bs.map (·.2)) ((bs.map (·.1)).map eP)
  | _, _, .nil => ⟨.nil, .nil⟩
  | _, _, .cons h t => by
    obtain ⟨h1, h2⟩ := each_out t
    exact ⟨.cons h.1 h1, .cons h.2 h2⟩
theorem cr_sortedA {X : Cx} {k : Nat} (hr : Room k X.A) : CallR X (.builtin "sorted") (rSortedA X.K) := by
  intro pins s σ H vs us Q I r h
  obtain ⟨a, ps, xs, rfl, hs, ht, q⟩ := h
  obtain ⟨its, rv, hl, hz⟩ := I.list hs
  rw [Vals.ref1 r]
  obtain ⟨bs, b1, b2, b3⟩ := each_mk I rv ht
  have hlen : bs.length = xs.length := by rw [← b2.length, rv.length]
  refine PySem.W.sorted_data (enc := fun b : (Str × Str) × V => eP b.1) hl.isList b2 b3 (PySem.W.AllAlike.of fun b b' => by simp [eP, PySem.W.alike, PySem.W.alikeAll]) (PySem.W.Sortable.tuples fun b => ⟨_, _, rfl⟩) (by rw [hlen]; exact hz) (fun b _ => ?_) fun out h1 h2 => ?_
  · have := hr.un
    show X.A.units + 2 + (eP b.1).depth < cLine
    have : (eP b.1).depth = 1 := by simp [eP, PyData.depth, PyData.depthAll]
    omega
  · obtain ⟨ep, he'⟩ := PyProof.Rows.sortedAll_at s.heap its out.toArray
    obtain ⟨o1, o2⟩ := each_out h2
    have em : (bs.mergeSort (PySem.W.dataLe false fun b : (Str × Str) × V => eP b.1)).map (·.1) = ps.mergeSort leA := by
      rw [← b1]
      refine List.map_mergeSort fun x _ y _ => ?_
      rw [← dataLe_eP]
      rfl
    rw [em] at o2
    have hl2 : ((bs.mergeSort (PySem.W.dataLe false fun b : (Str × Str) × V => eP b.1)).map (·.2)).length ≤ sizeLine := by
      rw [List.length_map, List.length_mergeSort, hlen]; exact hz
    refine ⟨.ref _, upd H (s.heap.objs.size + 1) (.lst ((bs.mergeSort (PySem.W.dataLe false fun b : (Str × Str) × V => eP b.1)).map (·.2))), I.laid (t' := s.toks) (fun _ _ => PyProof.Rows.sortedAll_old) (Nat.le_succ _) ⟨hl2, out, ep, o1, ?_⟩, rfl, q _ _ o2 (I.hok.fresh (Nat.le_succ _))⟩
    simpa using he'

section
variable {K : PySem.W.Frag} {σ : L2.St} {H H' : Hp} {ta tb te : TE} {tt tu : TT} {tA : TA} {r r' : Rs} {b b' : Bool} {D : Ends} {t u tz : TS} {g : TG}
theorem e_sortedA {ps : Attrs} (h : Eo te σ H (.l (ps.map eP))) : E (tCB (rSortedA K) (tCons te tNil)) σ H (.l ((ps.mergeSort leA).map eP)) := fun H1 e Q q =>
  h H1 e _ fun v H2 e2 hv => by
    obtain ⟨p, rfl, vs, h1, h2⟩ := hv
    exact ⟨p, ps, vs, rfl, SqL.of h1, h2, fun ys l hy hl => q _ _ (e2.trans (same_new hl)) ⟨l, rfl, e2.free hl, ys, upd_same, hy.mono (tx_of (same_new hl))⟩⟩
theorem eqv_eP (p q : Str × Str) : PyData.eqv (eP p) (eP q) = (p == q) := by
  obtain ⟨a, b⟩ := p
  obtain ⟨c, d⟩ := q
  simp only [eP, PyData.eqv, PyData.eqvAll, Bool.and_true]
  rfl
/-- the texts are texts that can be laid -/
def CA (a : Attrs) : Prop := PyData.canLayAll0 (a.map eP) = true
theorem ca_mem : ∀ {a : Attrs} {p : Str × Str}, CA a → p ∈ a → PyData.canLay0 (eP p) = true
  | q :: a, p, h, hp => by
    unfold CA at h
    rw [List.map_cons, PyData.canLayAll0, Bool.and_eq_true] at h
    rcases List.mem_cons.mp hp with e | hp
    · rw [e]; exact h.1
    · exact ca_mem (a := a) h.2 hp
theorem shaped_eP {p : Str × Str} (h : PyData.canLay0 (eP p) = true) : SeqAt.shaped (eP p) = true := by
  unfold SeqAt.shaped
  rw [h]
  simp [eP, PyData.depth, PyData.depthAll]
/-- (name, text) not in a -/
theorem et_notInDT {p : Str × Str} {a : Attrs} (ha : E ta σ H (.d (eP p))) (hb : E tb σ H (.d (.tuple (a.map eP)))) (hp : PyData.canLay0 (eP p) = true) (hc : CA a) : ET (tTest (tOp (rNotInDT K) ta tb)) σ H (!a.contains p) := fun H1 e Q q =>
  ha H1 e _ fun v H2 e2 hv => hb H2 (e.trans e2) _ fun w H3 e3 hw => by
    have hv' : Tp H2 v (eP p) := hv
    have hw' : Tp H3 w (.tuple (a.map eP)) := hw
    refine ⟨_, _, (hv'.mono (tx_of e3)).dp, hw'.dp, shaped_eP hp, hc, _, rfl, ?_⟩
    have : ((a.map eP).any fun z => PyData.eqv z (eP p)) = a.contains p := by
      rw [List.any_map, List.contains_eq_any_beq]
      congr 1
      funext y
      show PyData.eqv (eP y) (eP p) = _
      rw [eqv_eP]
      exact Bool.beq_comm
    rw [this]
    exact q H3 (e2.trans e3)
/-! xs.index(y) of ints -/
theorem idxOf_ahead : ∀ {l : List Int} {x : Int} {m : Nat} {z : Int}, m < l.idxOf x → l[m]? = some z → (z == x) = false
  | [], x, m, z, h, _ => by simp at h
  | y :: l, x, m, z, h, hz => by
    rw [List.idxOf_cons] at h
    cases e : y == x with
    | true => rw [e] at h; simp at h
    | false =>
      rw [e] at h
      cases m with
      | zero =>
        rw [List.getElem?_cons_zero] at hz
        cases hz
        exact e
      | succ m =>
        rw [List.getElem?_cons_succ] at hz
        exact idxOf_ahead (by simpa using h) hz
theorem e_index {x : Int} {ns : List Int} (ha : Eo ta σ H (.l (eI ns))) (hb : E tb σ H (.d (.int x))) (hx : x ∈ ns) : E (tBM K "list" (rIndex K) ta (tCons tb tNil)) σ H (.d (.int ((ns.idxOf x : Nat) : Int))) := fun H1 e Q q =>
  ha H1 e _ fun v H2 e2 hv => by
    obtain ⟨p, rfl, vs, h1, h2⟩ := hv
    obtain rfl := h2.ints
    refine ⟨Or.inl ⟨rfl, _, SqL.of h1⟩, hb H2 (e.trans e2) _ fun w H3 e3 hw => ?_⟩
    obtain rfl := Tp.int_inv hw
    have hlt := List.idxOf_lt_length_of_mem hx
    refine ⟨p, ns.map V.int, .int x, ns.idxOf x, .int x, rfl, rfl, SqL.of (e3 _ _ h1), rfl, flat_ints ns, ?_, by simp [eqV], fun m z' hm hz' => ?_, q _ H3 (e2.trans e3) (Tp.int _)⟩
    · rw [List.getElem?_map, List.getElem?_eq_getElem hlt, List.getElem_idxOf]
      rfl
    · rw [List.getElem?_map] at hz'
      cases hz : ns[m]? with
      | none => rw [hz] at hz'; cases hz'
      | some y =>
        rw [hz] at hz'
        cases hz'
        exact idxOf_ahead hm hz
/-! max -/
def rMx : List V → Hp → VK → Prop := fun xs H Q => ∃ i j, xs = [.int i, .int j] ∧ Q (.int (if j > i then j else i)) H
def rMn : List V → Hp → VK → Prop := fun xs H Q => ∃ i j, xs = [.int i, .int j] ∧ Q (.int (if j < i then j else i)) H
theorem call_mx {X : Cx} (hc : X.calm = true) : CallR X (.builtin "max") rMx := call_max2 hc
theorem call_mn {X : Cx} (hc : X.calm = true) : CallR X (.builtin "min") rMn := call_min2 hc
theorem e_mx {i j : Int} (ha : E ta σ H (.d (.int i))) (hb : E tb σ H (.d (.int j))) : E (tCB rMx (tCons ta (tCons tb tNil))) σ H (.d (.int (if j > i then j else i))) := fun H1 e Q q =>
  ha H1 e _ fun v H2 e2 hv => hb H2 (e.trans e2) _ fun w H3 e3 hw => ⟨i, j, by rw [Tp.int_inv hv, Tp.int_inv hw], q _ H3 (e2.trans e3) (Tp.int _)⟩
theorem e_mn {i j : Int} (ha : E ta σ H (.d (.int i))) (hb : E tb σ H (.d (.int j))) : E (tCB rMn (tCons ta (tCons tb tNil))) σ H (.d (.int (if j < i then j else i))) := fun H1 e Q q =>
  ha H1 e _ fun v H2 e2 hv => hb H2 (e.trans e2) _ fun w H3 e3 hw => ⟨i, j, by rw [Tp.int_inv hv, Tp.int_inv hw], q _ H3 (e2.trans e3) (Tp.int _)⟩
theorem e_max {ns : List Int} {m : Int} (h : Eo te σ H (.l (eI ns))) (h1 : m ∈ ns) (h2 : ∀ y ∈ ns, y ≤ m) : E (tCB (rMax K) (tCons te tNil)) σ H (.d (.int m)) := fun H1 e Q q =>
  h H1 e _ fun v H2 e2 hv => by
    obtain ⟨p, rfl, vs, g1, g2⟩ := hv
    obtain rfl := g2.ints
    refine ⟨p, ns, rfl, SqL.of g1, List.length_pos_of_mem h1, fun m' m1 m2 => ?_⟩
    have : m' = m := Int.le_antisymm (h2 m' m1) (m2 m h1)
    rw [this]
    exact q _ H2 e2 (Tp.int _)
/-! int(n), int(a truth value) -/
def rIn1 : List V → Hp → VK → Prop := fun xs H Q => (∃ i, xs = [.int i] ∧ Q (.int i) H) ∨ ∃ k, xs = [.bl k] ∧ Q (.int (if k then 1 else 0)) H
theorem call_in {X : Cx} : CallR X (.type "int") rIn1 := call_int1
def rAb : List V → Hp → VK → Prop := fun xs H Q => ∃ i, xs = [.int i] ∧ Q (.int (if i < 0 then -i else i)) H
theorem call_ab {X : Cx} : CallR X (.builtin "abs") rAb := call_abs
theorem e_intI {i : Int} (h : E te σ H (.d (.int i))) : E (tCB rIn1 (tCons te tNil)) σ H (.d (.int i)) := fun H1 e Q q =>
  h H1 e _ fun v H2 e2 hv => .inl ⟨i, by rw [Tp.int_inv hv], q _ H2 e2 (Tp.int _)⟩
theorem e_abs {i : Int} (h : E te σ H (.d (.int i))) : E (tCB rAb (tCons te tNil)) σ H (.d (.int (if i < 0 then -i else i))) := fun H1 e Q q =>
  h H1 e _ fun v H2 e2 hv => ⟨i, by rw [Tp.int_inv hv], q _ H2 e2 (Tp.int _)⟩
/-! texts, the greater or the same -/
def rGeS : R2 := fun x y H Q => ∃ i j, x = .str i ∧ y = .str j ∧ Q (.bl (!decide (i.cps.toList < j.cps.toList))) H
theorem op_geS {X : Cx} : OpR X (compareOp .GtE) rGeS := op_ge_str
theorem et_geS {x y : Str} (ha : E ta σ H (.d (.str x))) (hb : E tb σ H (.d (.str y))) : ET (tTest (tOp rGeS ta tb)) σ H (!decide (x.cps.toList < y.cps.toList)) := fun H1 e Q q =>
  ha H1 e _ fun v H2 e2 hv => hb H2 (e.trans e2) _ fun w H3 e3 hw => ⟨x, y, Tp.str_inv hv, Tp.str_inv hw, _, rfl, q H3 (e2.trans e3)⟩
/-! == of data -/
theorem et_neD {x y : PyData} (ha : E ta σ H (.d x)) (hb : E tb σ H (.d y)) (hx : SeqAt.shaped x = true) (hy : SeqAt.shaped y = true) : ET (tTest (tOp (rNeD K) ta tb)) σ H (!PyData.eqv x y) := fun H1 e Q q =>
  ha H1 e _ fun v H2 e2 hv => hb H2 (e.trans e2) _ fun w H3 e3 hw => ⟨x, y, (Tp.mono (tx_of e3) hv).dp, (show Tp H3 w y from hw).dp, hx, hy, _, rfl, q H3 (e2.trans e3)⟩
theorem ls_dp {p : Addr} {ds : List PyData} (h : Ls H p ds) : Dp K H (.ref p) (.list ds) := by
  obtain ⟨vs, h1, h2⟩ := h
  exact .lst (SqL.of h1) h2.dp
theorem et_neL {xs ys : List PyData} (ha : Eo ta σ H (.l xs)) (hb : Eo tb σ H (.l ys)) (hx : SeqAt.shaped (.list xs) = true) (hy : SeqAt.shaped (.list ys) = true) : ET (tTest (tOp (rNeD K) ta tb)) σ H (!PyData.eqv (.list xs) (.list ys)) := fun H1 e Q q =>
  ha H1 e _ fun v H2 e2 hv => hb H2 (e.trans e2) _ fun w H3 e3 hw => by
    obtain ⟨p, rfl, h1⟩ := AR.mono hv e3
    obtain ⟨p', rfl, h2⟩ := hw
    exact ⟨_, _, ls_dp h1, ls_dp h2, hx, hy, _, rfl, q H3 (e2.trans e3)⟩
theorem et_eqL {xs ys : List PyData} (ha : Eo ta σ H (.l xs)) (hb : Eo tb σ H (.l ys)) (hx : SeqAt.shaped (.list xs) = true) (hy : SeqAt.shaped (.list ys) = true) : ET (tTest (tOp (rEqD K) ta tb)) σ H (PyData.eqv (.list xs) (.list ys)) := fun H1 e Q q =>
  ha H1 e _ fun v H2 e2 hv => hb H2 (e.trans e2) _ fun w H3 e3 hw => by
    obtain ⟨p, rfl, h1⟩ := AR.mono hv e3
    obtain ⟨p', rfl, h2⟩ := hw
    exact ⟨_, _, ls_dp h1, ls_dp h2, hx, hy, _, rfl, q H3 (e2.trans e3)⟩
/-! ### walks -/
/-- reversed(t) at a name -/
theorem s_rev {H0 : Hp} {α : Type} {enc : α → PyData} {xs : List α} {i j : Nat} {v : V} (hv : σ[i]? = some (some v)) (tv : Tp H0 v (.tuple (xs.map enc))) (Pv : List α → List α → L2.St → Hp → Prop) (p0 : Pv xs.reverse [] σ H) (tx : ∀ a b σ' H', Pv a b σ' H' → Tx H0 H')
    (ps : ∀ todo x done u σ' H', xs = (x :: todo).reverse ++ done → Pv (x :: todo) done σ' H' → Tp H' u (enc x) → t { D with nx := Pv todo (x :: done), ct := Pv todo (x :: done), bk := D.nx } (σ'.set j (some u)) H')
    (pd : ∀ σ' H', Pv [] xs σ' H' → D.nx σ' H') : tFor (RT.iRevA K (tVar i)) (gName j) t D σ H := by
  obtain ⟨a, vs, rfl, h1, h2⟩ := Tp.tup_inv tv
  have hl : vs.length = xs.length := by rw [h2.length, List.length_map]
  refine ⟨_, hv, a, vs, rfl, .inr ⟨SqT.of (tx _ _ _ _ p0 _ _ h1), RT.for_ItvT (xs := vs) (fun k σ' H' => Pv (xs.take (xs.length - k)).reverse (xs.drop (xs.length - k)) σ' H') ?_ (fun k σ' H' p => SqT.of (tx _ _ _ _ p _ _ h1)) (fun k x σ' H' hk hx p => ?_) fun σ' H' p => ?_⟩⟩
  · show Pv (xs.take (xs.length - 0)).reverse (xs.drop (xs.length - 0)) σ H
    rw [Nat.sub_zero, List.take_length, List.drop_length]
    exact p0
  · rw [hl] at hk hx
    obtain ⟨d, hd, td⟩ := h2.getV hx
    rw [List.getElem?_map] at hd
    cases ex : xs[xs.length - 1 - k]? with
    | none => rw [ex] at hd; cases hd
    | some y =>
      rw [ex] at hd
      have ed : enc y = d := Option.some.inj hd
      obtain ⟨hi, ey⟩ := List.getElem?_eq_some_iff.mp ex
      have ek : xs.length - k = (xs.length - 1 - k) + 1 := by omega
      have ek2 : xs.length - (k + 1) = xs.length - 1 - k := by omega
      have e1 : xs.drop (xs.length - 1 - k) = y :: xs.drop (xs.length - k) := by rw [ek, ← ey]; exact List.drop_eq_getElem_cons hi
      have e2 : (xs.take (xs.length - k)).reverse = y :: (xs.take (xs.length - 1 - k)).reverse := by
        rw [ek, List.take_add_one, ex, List.reverse_append]; rfl
      have p' : Pv (xs.take (xs.length - k)).reverse (xs.drop (xs.length - k)) σ' H' := p
      rw [e2] at p'
      show t { D with nx := fun σ' H' => Pv (xs.take (xs.length - (k + 1))).reverse (xs.drop (xs.length - (k + 1))) σ' H', ct := fun σ' H' => Pv (xs.take (xs.length - (k + 1))).reverse (xs.drop (xs.length - (k + 1))) σ' H', bk := D.nx } (σ'.set j (some x)) H'
      rw [ek2, e1]
      refine ps _ y _ x σ' H' ?_ p' (by rw [ed]; exact td.mono (tx _ _ _ _ p))
      rw [← e2, List.reverse_reverse, List.take_append_drop]
  · refine pd σ' H' ?_
    have p' : Pv (xs.take (xs.length - vs.length)).reverse (xs.drop (xs.length - vs.length)) σ' H' := p
    rw [hl, Nat.sub_self] at p'
    exact p'
theorem q_rev {H0 : Hp} {α : Type} {enc : α → PyData} {xs : List α} {i j : Nat} {v : V} (hv : σ[i]? = some (some v)) (tv : Tp H0 v (.tuple (xs.map enc))) (Pv : List α → List α → L2.St → Hp → Prop) (p0 : Pv xs.reverse [] σ H) (tx : ∀ a b σ' H', Pv a b σ' H' → Tx H0 H')
    (ps : ∀ todo x done u σ' H', xs = (x :: todo).reverse ++ done → Pv (x :: todo) done σ' H' → Tp H' u (enc x) → t { D with nx := Pv todo (x :: done), ct := Pv todo (x :: done), bk := tz D } (σ'.set j (some u)) H')
    (pd : ∀ σ' H', Pv [] xs σ' H' → tz D σ' H') : tSeq (tFor (RT.iRevA K (tVar i)) (gName j) t) tz D σ H := s_rev (D := { D with nx := tz D }) hv tv Pv p0 tx ps pd
/-- a list at a name, its object as it stood -/
theorem s_forLV {H0 : Hp} {α : Type} {enc : α → PyData} {xs : List α} {i j : Nat} {p : Addr} (hv : σ[i]? = some (some (.ref p))) (tv : Ls H0 p (xs.map enc)) (Pv : List α → List α → L2.St → Hp → Prop) (p0 : Pv [] xs σ H) (tx : ∀ a b σ' H', Pv a b σ' H' → Tx H0 H' ∧ ∀ vs, H0 p = some (.lst vs) → H' p = some (.lst vs))
    (ps : ∀ done x todo u σ' H', xs = done ++ x :: todo → Pv done (x :: todo) σ' H' → Tp H' u (enc x) → t { D with nx := Pv (done ++ [x]) todo, ct := Pv (done ++ [x]) todo, bk := D.nx } (σ'.set j (some u)) H')
    (pd : ∀ σ' H', Pv xs [] σ' H' → D.nx σ' H') : tFor (iList K (tVar i)) (gName j) t D σ H := by
  obtain ⟨vs, h1, h2⟩ := tv
  have hl : vs.length = xs.length := by rw [h2.length, List.length_map]
  refine ⟨_, hv, p, rfl, ⟨vs, SqL.of ((tx _ _ _ _ p0).2 _ h1)⟩, for_list (xs := vs) (fun i σ' H' => Pv (xs.take i) (xs.drop i) σ' H') p0 (fun i σ' H' _ p => SqL.of ((tx _ _ _ _ p).2 _ h1)) (fun i x σ' H' hx p => ?_) fun σ' H' p => ?_⟩
  · obtain ⟨d, hd, td⟩ := h2.getV hx
    rw [List.getElem?_map] at hd
    cases ex : xs[i]? with
    | none => rw [ex] at hd; cases hd
    | some y =>
      rw [ex] at hd
      have ed : enc y = d := Option.some.inj hd
      obtain ⟨hi, ey⟩ := List.getElem?_eq_some_iff.mp ex
      have e1 : xs.drop i = y :: xs.drop (i + 1) := by rw [← ey]; exact List.drop_eq_getElem_cons hi
      have e2 : xs.take (i + 1) = xs.take i ++ [y] := by rw [List.take_add_one, ex]; rfl
      have e3 : xs = xs.take i ++ y :: xs.drop (i + 1) := by rw [← e1, List.take_append_drop]
      rw [e1] at p
      show t { D with nx := fun σ' H' => Pv (xs.take (i + 1)) (xs.drop (i + 1)) σ' H', ct := fun σ' H' => Pv (xs.take (i + 1)) (xs.drop (i + 1)) σ' H', bk := D.nx } (σ'.set j (some x)) H'
      rw [e2]
      exact ps _ y _ x σ' H' e3 p (by rw [ed]; exact td.mono (tx _ _ _ _ p).1)
  · refine pd σ' H' ?_
    have p' : Pv (xs.take vs.length) (xs.drop vs.length) σ' H' := p
    rw [hl, List.take_length, List.drop_length] at p'
    exact p'
theorem q_forLV {H0 : Hp} {α : Type} {enc : α → PyData} {xs : List α} {i j : Nat} {p : Addr} (hv : σ[i]? = some (some (.ref p))) (tv : Ls H0 p (xs.map enc)) (Pv : List α → List α → L2.St → Hp → Prop) (p0 : Pv [] xs σ H) (tx : ∀ a b σ' H', Pv a b σ' H' → Tx H0 H' ∧ ∀ vs, H0 p = some (.lst vs) → H' p = some (.lst vs))
    (ps : ∀ done x todo u σ' H', xs = done ++ x :: todo → Pv done (x :: todo) σ' H' → Tp H' u (enc x) → t { D with nx := Pv (done ++ [x]) todo, ct := Pv (done ++ [x]) todo, bk := tz D } (σ'.set j (some u)) H')
    (pd : ∀ σ' H', Pv xs [] σ' H' → tz D σ' H') : tSeq (tFor (iList K (tVar i)) (gName j) t) tz D σ H := s_forLV (D := { D with nx := tz D }) hv tv Pv p0 tx ps pd
/-- for x in a call's new list -/
theorem q_forNL {α : Type} {enc : α → PyData} {xs : List α} {j : Nat} (h : E te σ H (.l (xs.map enc)))
    (k : ∀ H1, Same H H1 → ∃ Pv : List α → List α → L2.St → Hp → Prop, Pv [] xs σ H1 ∧ (∀ a b σ' H', Pv a b σ' H' → Same H1 H') ∧
      (∀ done x todo u σ' H', xs = done ++ x :: todo → Pv done (x :: todo) σ' H' → Tp H' u (enc x) → t { D with nx := Pv (done ++ [x]) todo, ct := Pv (done ++ [x]) todo, bk := tz D } (σ'.set j (some u)) H') ∧
      (∀ σ' H', Pv xs [] σ' H' → tz D σ' H')) : tSeq (tFor (iList K te) (gName j) t) tz D σ H :=
  h H (Same.refl H) _ fun v H1 e hv => by
    obtain ⟨p, rfl, _, vs, h1, h2⟩ := hv
    obtain ⟨Pv, p0, psm, ps, pd⟩ := k H1 e
    have hl : vs.length = xs.length := by rw [h2.length, List.length_map]
    refine ⟨p, rfl, ⟨vs, SqL.of h1⟩, for_list (xs := vs) (fun i σ' H' => Pv (xs.take i) (xs.drop i) σ' H') p0 (fun i σ' H' _ p => SqL.of (psm _ _ _ _ p _ _ h1)) (fun i x σ' H' hx p => ?_) fun σ' H' p => ?_⟩
    · obtain ⟨d, hd, td⟩ := h2.getV hx
      rw [List.getElem?_map] at hd
      cases ex : xs[i]? with
      | none => rw [ex] at hd; cases hd
      | some y =>
        rw [ex] at hd
        have ed : enc y = d := Option.some.inj hd
        obtain ⟨hi, ey⟩ := List.getElem?_eq_some_iff.mp ex
        have e1 : xs.drop i = y :: xs.drop (i + 1) := by rw [← ey]; exact List.drop_eq_getElem_cons hi
        have e2 : xs.take (i + 1) = xs.take i ++ [y] := by rw [List.take_add_one, ex]; rfl
        have e3 : xs = xs.take i ++ y :: xs.drop (i + 1) := by rw [← e1, List.take_append_drop]
        rw [e1] at p
        show t { D with nx := fun σ' H' => Pv (xs.take (i + 1)) (xs.drop (i + 1)) σ' H', ct := fun σ' H' => Pv (xs.take (i + 1)) (xs.drop (i + 1)) σ' H', bk := tz D } (σ'.set j (some x)) H'
        rw [e2]
        exact ps _ y _ x σ' H' e3 p (by rw [ed]; exact td.mono (tx_of (psm _ _ _ _ p)))
    · refine pd σ' H' ?_
      have p' : Pv (xs.take vs.length) (xs.drop vs.length) σ' H' := p
      rw [hl, List.take_length, List.drop_length] at p'
      exact p'
/-- for k in range(n); for k in range(a, b); for k in reversed(range(n)) -/
theorem q_rng1 {j : Nat} {n : Nat} (h : EA tA σ H [.d (.int (n : Int))]) (hn : n < 1000000)
    (k : ∀ H1, Same H H1 → ∃ Pv : Nat → L2.St → Hp → Prop, Pv 0 σ H1 ∧ (∀ i σ' H', i < n → Pv i σ' H' → t { D with nx := Pv (i + 1), ct := Pv (i + 1), bk := tz D } (σ'.set j (some (.int (i : Int)))) H') ∧ (∀ σ' H', Pv n σ' H' → tz D σ' H')) : tSeq (tFor (iRng1 tA) (gName j) t) tz D σ H :=
  h H (Same.refl H) _ fun vs H1 e hvs => by
    obtain ⟨Pv, p0, ps, pd⟩ := k H1 e
    obtain - | ⟨hv, - | -⟩ := hvs
    obtain rfl := Tp.int_inv hv
    refine ⟨(n : Int), rfl, by omega, by omega, ?_⟩
    rw [Int.toNat_natCast]
    refine for_range (lo := 0) (n := n) Pv p0 (fun i σ' H' hi p => ?_) pd
    have e0 : (0 : Int) + (i : Int) = (i : Int) := Int.zero_add _
    show t { D with nx := Pv (i + 1), ct := Pv (i + 1), bk := tz D } (σ'.set j (some (.int ((0 : Int) + (i : Int))))) H'
    rw [e0]
    exact ps i σ' H' hi p
theorem s_rng2 {j : Nat} {lo n : Nat} (h : EA tA σ H [.d (.int (lo : Int)), .d (.int ((lo + n : Nat) : Int))]) (hn : lo + n < 1000000)
    (k : ∀ H1, Same H H1 → ∃ Pv : Nat → L2.St → Hp → Prop, Pv 0 σ H1 ∧ (∀ i σ' H', i < n → Pv i σ' H' → t { D with nx := Pv (i + 1), ct := Pv (i + 1), bk := D.nx } (σ'.set j (some (.int ((lo + i : Nat) : Int)))) H') ∧ (∀ σ' H', Pv n σ' H' → D.nx σ' H')) : tFor (iRng2 tA) (gName j) t D σ H :=
  h H (Same.refl H) _ fun vs H1 e hvs => by
    obtain ⟨Pv, p0, ps, pd⟩ := k H1 e
    obtain - | ⟨hv, - | ⟨hw, - | -⟩⟩ := hvs
    obtain rfl := Tp.int_inv hv
    obtain rfl := Tp.int_inv hw
    refine ⟨(lo : Int), ((lo + n : Nat) : Int), rfl, ⟨by omega, by omega, by omega, by omega⟩, ?_⟩
    have en : (((lo + n : Nat) : Int) - (lo : Int)).toNat = n := by omega
    rw [en]
    refine for_range (lo := (lo : Int)) (n := n) Pv p0 (fun i σ' H' hi p => ?_) pd
    have e0 : (lo : Int) + (i : Int) = ((lo + i : Nat) : Int) := by omega
    show t { D with nx := Pv (i + 1), ct := Pv (i + 1), bk := D.nx } (σ'.set j (some (.int ((lo : Int) + (i : Int))))) H'
    rw [e0]
    exact ps i σ' H' hi p
theorem q_revR {j : Nat} {n : Nat} (h : E te σ H (.d (.int (n : Int)))) (hn : n < 1000000)
    (k : ∀ H1, Same H H1 → ∃ Pv : Nat → L2.St → Hp → Prop, Pv n σ H1 ∧ (∀ i σ' H', i < n → Pv (i + 1) σ' H' → t { D with nx := Pv i, ct := Pv i, bk := tz D } (σ'.set j (some (.int (i : Int)))) H') ∧ (∀ σ' H', Pv 0 σ' H' → tz D σ' H')) : tSeq (tFor (iRevR (tRg1 te)) (gName j) t) tz D σ H :=
  h H (Same.refl H) _ fun v H1 e hv => by
    obtain ⟨Pv, p0, ps, pd⟩ := k H1 e
    obtain rfl := Tp.int_inv hv
    refine ⟨(n : Int), rfl, by omega, by omega, by omega, by omega, ?_⟩
    have en : ((n : Int) - 0).toNat = n := by omega
    rw [en]
    refine for_rangeC (n := n) (fun i σ' H' => Pv (n - i) σ' H') p0 (fun i σ' H' hi p => ?_) (fun σ' H' p => ?_)
    · have e0 : (0 : Int) + ((n : Nat) : Int) - 1 + ((i : Nat) : Int) * (-1) = ((n - 1 - i : Nat) : Int) := by omega
      have e1 : n - i = (n - 1 - i) + 1 := by omega
      have e2 : n - (i + 1) = n - 1 - i := by omega
      show t { D with nx := fun σ' H' => Pv (n - (i + 1)) σ' H', ct := fun σ' H' => Pv (n - (i + 1)) σ' H', bk := tz D } (σ'.set j (some (.int ((0 : Int) + ((n : Nat) : Int) - 1 + ((i : Nat) : Int) * (-1))))) H'
      rw [e0, e2]
      rw [e1] at p
      exact ps _ σ' H' (by omega) p
    · rw [Nat.sub_self] at p
      exact pd σ' H' p
/-- for i, x in enumerate(xs), a list at a name -/
theorem s_enum {H0 : Hp} {xs : List PyData} {i j l : Nat} {p : Addr} (hv : σ[i]? = some (some (.ref p))) (tv : Ls H0 p xs) (Pv : Nat → L2.St → Hp → Prop) (p0 : Pv 0 σ H) (tx : ∀ a σ' H', Pv a σ' H' → Tx H0 H' ∧ ∀ vs, H0 p = some (.lst vs) → H' p = some (.lst vs))
    (ps : ∀ (k : Nat) x u σ' H' H2, xs[k]? = some x → Pv k σ' H' → Same H' H2 → Tp H2 u x → t { D with nx := Pv (k + 1), ct := Pv (k + 1), bk := D.nx } ((σ'.set j (some (.int (k : Int)))).set l (some u)) H2)
    (pd : ∀ σ' H', Pv xs.length σ' H' → D.nx σ' H') : tFor (iEnum K (tCons (tVar i) tNil)) (gTup K 2 (gCons (gName j) (gCons (gName l) gNil))) t D σ H := by
  obtain ⟨vs, h1, h2⟩ := tv
  have hl : vs.length = xs.length := h2.length
  refine ⟨_, hv, p, vs, rfl, SqL.of ((tx _ _ _ p0).2 _ h1), fun k m σ' H' => k + m = vs.length ∧ Pv k σ' H', ⟨vs.length, by omega, p0⟩, fun k m σ' H' hW => ?_⟩
  obtain ⟨em, hp⟩ := hW
  obtain ⟨tx1, kp1⟩ := tx _ _ _ hp
  have hs : SqL K H' p vs := SqL.of (kp1 _ h1)
  by_cases hk : k < vs.length
  · refine .inr ⟨⟨vs, vs[k], hs, List.getElem?_eq_getElem hk⟩, Pv (k + 1), fun σ2 H2 p2 => ⟨m - 1, by omega, by omega, p2⟩, fun x H2 hy => ?_⟩
    obtain ⟨tt, y, rfl, ht, rfl, hy⟩ := hy
    have ey := hy vs hs
    obtain ⟨d, hd, td⟩ := h2.getV ey
    refine ⟨tt, [.int (k : Int), y], rfl, SqT.of upd_same, rfl, .int (k : Int), [y], rfl, y, [], rfl, rfl, ?_⟩
    exact ps k d y σ' H' _ hd hp (same_new ht) ((td.mono tx1).mono (tx_of (same_new ht)))
  · have ek : k = vs.length := by omega
    refine .inl ⟨⟨vs, hs, by omega⟩, pd σ' H' ?_⟩
    rw [← hl, ← ek]
    exact hp
theorem q_enum {H0 : Hp} {xs : List PyData} {i j l : Nat} {p : Addr} (hv : σ[i]? = some (some (.ref p))) (tv : Ls H0 p xs) (Pv : Nat → L2.St → Hp → Prop) (p0 : Pv 0 σ H) (tx : ∀ a σ' H', Pv a σ' H' → Tx H0 H' ∧ ∀ vs, H0 p = some (.lst vs) → H' p = some (.lst vs))
    (ps : ∀ (k : Nat) x u σ' H' H2, xs[k]? = some x → Pv k σ' H' → Same H' H2 → Tp H2 u x → t { D with nx := Pv (k + 1), ct := Pv (k + 1), bk := tz D } ((σ'.set j (some (.int (k : Int)))).set l (some u)) H2)
    (pd : ∀ σ' H', Pv xs.length σ' H' → tz D σ' H') : tSeq (tFor (iEnum K (tCons (tVar i) tNil)) (gTup K 2 (gCons (gName j) (gCons (gName l) gNil))) t) tz D σ H := s_enum (D := { D with nx := tz D }) hv tv Pv p0 tx ps pd
/-- xs[k] = e -/
theorem s_setL {H0 : Hp} {i : Nat} {l : Addr} {ds : List PyData} {x : PyData} {k : Nat} (hv : σ[i]? = some (some (.ref l))) (hl : Lc H0 H l ds) (hk : k < ds.length) (h : E te σ H (.d x)) (hb : E tb σ H (.d (.int (k : Int)))) (q : ∀ H1, Lc H0 H1 l (ds.set k x) → Tx H H1 → D.nx σ H1) : tAsg te (gSub (tVar i) tb rSetL) D σ H := by
  refine h H (Same.refl H) _ fun v H1 e1 hx => ⟨_, hv, hb H1 e1 _ fun w H2 e2 hw => ?_⟩
  obtain rfl := Tp.int_inv hw
  obtain ⟨h0, hs, vs, h1, h2⟩ := hl
  have e12 := e1.trans e2
  have h1' := e12 _ _ h1
  have t1 : Tx H2 (upd H2 l (.lst (vs.set k v))) := tx_lst h1'
  have setT : ∀ (k : Nat) {vs : List V} {ds : List PyData}, TpAll H2 vs ds → TpAll H2 (vs.set k v) (ds.set k x) := by
    intro k
    induction k with
    | zero =>
      intro vs ds h
      cases h with
      | nil => exact .nil
      | cons a b => exact .cons (Tp.mono (tx_of e2) hx) b
    | succ k ih =>
      intro vs ds h
      cases h with
      | nil => exact .nil
      | cons a b => exact .cons a (ih b)
  have hlen := h2.length
  refine ⟨l, vs, (k : Int), k, rfl, rfl, h1', ?_, q _ ⟨h0, (But.upd).same h0 (hs.trans e12), vs.set k v, upd_same, (setT k (h2.mono (tx_of e12))).mono t1⟩ ((tx_of e12).trans t1)⟩
  unfold ixN
  rw [if_pos (by omega), if_pos (by omega), Int.toNat_natCast]
/-! ### comprehensions over a list, over a range -/
theorem e_lcL {α : Type} {enc : α → PyData} {xs : List α} {vs : List Nat} (f : α → Option PyData) (h : Eo te σ H (.l (xs.map enc))) (hl : xs.length < 100000)
    (hs : ∀ x ∈ xs, ∀ v H1, Same H H1 → Tp H1 v (enc x) → ∀ Q : L2.St → Hp → Prop, (∀ σ2 H2, Same H1 H2 → wipe σ2 vs = wipe σ vs → (∃ b, ET tt σ2 H2 b ∧ if b = true then ∃ d, f x = some d ∧ E tb σ2 H2 (.d d) else f x = none) → Q σ2 H2) → g v (wipe σ vs) H1 Q) :
    E (tLc (iList K te) g tt tb vs) σ H (.l (xs.filterMap f)) := fun H0 e0 Q q => h H0 e0 _ fun v H1 e1 hv => by
  obtain ⟨a, rfl, ws, h1, h2⟩ := hv
  have hlen : ws.length = xs.length := by rw [h2.length, List.length_map]
  refine ⟨a, rfl, ⟨ws, SqL.of h1⟩, fun Dl hD => ?_⟩
  have eD : Same H1 (upd H1 Dl (.lst [])) := same_new hD
  refine lc_list (xs := ws) (fun i H' => Same H1 H' ∧ Ls H' Dl ((xs.take i).filterMap f)) ⟨eD, [], upd_same, .nil⟩ (fun i H' _ p => SqL.of (p.1 _ _ h1)) (fun i x H' hx p => ?_) fun H' p => ?_
  · obtain ⟨p1, p2⟩ := p
    obtain ⟨d, hd, td⟩ := h2.getV hx
    rw [List.getElem?_map] at hd
    cases ex : xs[i]? with
    | none => rw [ex] at hd; cases hd
    | some y =>
      rw [ex] at hd
      have ed : enc y = d := Option.some.inj hd
      have hy : y ∈ xs := List.mem_of_getElem? ex
      have e2 : (xs.take (i + 1)).filterMap f = (xs.take i).filterMap f ++ (f y).toList := by
        rw [List.take_add_one, ex, List.filterMap_append]
        cases hf : f y <;> simp [hf]
      have hlt : ((xs.take i).filterMap f).length < 100000 := Nat.lt_of_le_of_lt (Nat.le_trans (List.length_filterMap_le _ _) (by rw [List.length_take]; exact Nat.min_le_right _ _)) hl
      refine hs y hy x H' ((e0.trans e1).trans p1) (by rw [ed]; exact td.mono (tx_of p1)) _ fun σ2 H2 s2 hw ⟨b, hb, hb2⟩ => ⟨hw, ?_⟩
      refine hb H2 (Same.refl H2) _ fun H3 s3 => ?_
      cases b with
      | true =>
        obtain ⟨d', hf, hd'⟩ : ∃ d, f y = some d ∧ E tb σ2 H2 (.d d) := hb2
        show tb σ2 H3 _
        refine hd' H3 s3 _ fun w H4 s4 hw' => ?_
        obtain ⟨acc, a1, a2⟩ := (p2.mono ((s2.trans s3).trans s4))
        refine ⟨acc, a1, by rw [a2.length]; exact sz_lt hlt, (But.upd).same hD (((p1.trans s2).trans s3).trans s4), acc ++ [w], upd_same, ?_⟩
        rw [e2, hf]
        exact (a2.append (.one hw')).mono (tx_lst a1)
      | false =>
        have hf : f y = none := hb2
        show Same H1 H3 ∧ Ls H3 Dl _
        rw [e2, hf]
        refine ⟨(p1.trans s2).trans s3, ?_⟩
        show Ls H3 Dl (_ ++ [])
        rw [List.append_nil]
        exact p2.mono (s2.trans s3)
  · obtain ⟨p1, p2⟩ := p
    rw [hlen, List.take_length] at p2
    exact q _ H' (e1.trans p1) ⟨Dl, rfl, e1.free hD, p2⟩
theorem e_lcR {n : Nat} {vs : List Nat} (f : Nat → Option PyData) (h : EA tA σ H [.d (.int (n : Int))]) (hl : n < 100000)
    (hs : ∀ i, i < n → ∀ H1, Same H H1 → ∀ Q : L2.St → Hp → Prop, (∀ σ2 H2, Same H1 H2 → wipe σ2 vs = wipe σ vs → (∃ b, ET tt σ2 H2 b ∧ if b = true then ∃ d, f i = some d ∧ E tb σ2 H2 (.d d) else f i = none) → Q σ2 H2) → g (.int (i : Int)) (wipe σ vs) H1 Q) :
    E (tLc (iRng1 tA) g tt tb vs) σ H (.l ((List.range n).filterMap f)) := fun H0 e0 Q q => h H0 e0 _ fun v H1 e1 hvs => by
  obtain - | ⟨hv, - | -⟩ := hvs
  obtain rfl := Tp.int_inv hv
  refine ⟨(n : Int), rfl, by omega, by omega, fun Dl hD => ?_⟩
  rw [Int.toNat_natCast]
  have eD : Same H1 (upd H1 Dl (.lst [])) := same_new hD
  refine lc_range (lo := 0) (n := n) (fun i H' => Same H1 H' ∧ Ls H' Dl ((List.range i).filterMap f)) ⟨eD, [], upd_same, .nil⟩ (fun i H' hi p => ?_) fun H' p => ?_
  · obtain ⟨p1, p2⟩ := p
    have e0' : (0 : Int) + (i : Int) = (i : Int) := Int.zero_add _
    rw [e0']
    have e2 : (List.range (i + 1)).filterMap f = (List.range i).filterMap f ++ (f i).toList := by
      rw [List.range_succ, List.filterMap_append]
      cases hf : f i <;> simp [hf]
    have hlt : ((List.range i).filterMap f).length < 100000 := Nat.lt_of_le_of_lt (Nat.le_trans (List.length_filterMap_le _ _) (by rw [List.length_range]; omega)) hl
    refine hs i hi H' ((e0.trans e1).trans p1) _ fun σ2 H2 s2 hw ⟨b, hb, hb2⟩ => ⟨hw, ?_⟩
    refine hb H2 (Same.refl H2) _ fun H3 s3 => ?_
    cases b with
    | true =>
      obtain ⟨d', hf, hd'⟩ : ∃ d, f i = some d ∧ E tb σ2 H2 (.d d) := hb2
      show tb σ2 H3 _
      refine hd' H3 s3 _ fun w H4 s4 hw' => ?_
      obtain ⟨acc, a1, a2⟩ := (p2.mono ((s2.trans s3).trans s4))
      refine ⟨acc, a1, by rw [a2.length]; exact sz_lt hlt, (But.upd).same hD (((p1.trans s2).trans s3).trans s4), acc ++ [w], upd_same, ?_⟩
      rw [e2, hf]
      exact (a2.append (.one hw')).mono (tx_lst a1)
    | false =>
      have hf : f i = none := hb2
      show Same H1 H3 ∧ Ls H3 Dl _
      rw [e2, hf]
      refine ⟨(p1.trans s2).trans s3, ?_⟩
      show Ls H3 Dl (_ ++ [])
      rw [List.append_nil]
      exact p2.mono (s2.trans s3)
  · obtain ⟨p1, p2⟩ := p
    exact q _ H' (e1.trans p1) ⟨Dl, rfl, e1.free hD, p2⟩
/-- no test -/
theorem et_yes : ET tYes σ H true := fun H1 _ Q q => q H1 (Same.refl H1)
end
end VL

/-! The text by places; what a def of it is, what its callers need. -/
namespace VL
open PySem L2
def topS (i : Nat) : Stmt := PySem.Challenge.pw_viewloom_k33_whole_patches_lead.main.body.getD i (.Pass ⟨0, 0, 0, 0⟩)
abbrev s_kids_in : Stmt := topS 2
theorem sc_kids_in : FnScope ["node"] ["node"] (defScope s_kids_in) := ⟨rfl, rfl, rfl, by decide +kernel, rfl, by decide +kernel, by decide +kernel⟩
abbrev s_fits_levels : Stmt := topS 3
theorem sc_fits_levels : FnScope ["nodes", "levels", "node"] ["nodes", "levels"] (defScope s_fits_levels) := ⟨rfl, rfl, rfl, by decide +kernel, rfl, by decide +kernel, by decide +kernel⟩
abbrev s_ids_of : Stmt := topS 4
theorem sc_ids_of : FnScope ["document", "found", "node"] ["document"] (defScope s_ids_of) := ⟨rfl, rfl, rfl, by decide +kernel, rfl, by decide +kernel, by decide +kernel⟩
abbrev s_find_node : Stmt := topS 5
theorem sc_find_node : FnScope ["document", "number", "node", "found"] ["document", "number"] (defScope s_find_node) := ⟨rfl, rfl, rfl, by decide +kernel, rfl, by decide +kernel, by decide +kernel⟩
abbrev s_kids_of : Stmt := topS 6
theorem sc_kids_of : FnScope ["document", "parent", "node"] ["document", "parent"] (defScope s_kids_of) := ⟨rfl, rfl, rfl, by decide +kernel, rfl, by decide +kernel, by decide +kernel⟩
abbrev s_level_of : Stmt := topS 7
theorem sc_level_of : FnScope ["document", "number", "node", "level"] ["document", "number"] (defScope s_level_of) := ⟨rfl, rfl, rfl, by decide +kernel, rfl, by decide +kernel, by decide +kernel⟩
abbrev s_lengths_from : Stmt := topS 9
theorem sc_lengths_from : FnScope ["numbers", "lengths", "index", "later", "_"] ["numbers"] (defScope s_lengths_from) := ⟨rfl, rfl, rfl, by decide +kernel, rfl, by decide +kernel, by decide +kernel⟩
abbrev s_best_row : Stmt := topS 10
theorem sc_best_row : FnScope ["numbers", "lengths", "wanted", "row", "index", "number"] ["numbers"] (defScope s_best_row) := ⟨rfl, rfl, rfl, by decide +kernel, rfl, by decide +kernel, by decide +kernel⟩
abbrev s_partner_in : Stmt := topS 12
theorem sc_partner_in : FnScope ["kids", "node", "kid"] ["kids", "node"] (defScope s_partner_in) := ⟨rfl, rfl, rfl, by decide +kernel, rfl, by decide +kernel, by decide +kernel⟩
abbrev s_kept_ids : Stmt := topS 13
theorem sc_kept_ids : FnScope ["old", "new", "found", "node", "partner"] ["old", "new"] (defScope s_kept_ids) := ⟨rfl, rfl, rfl, by decide +kernel, rfl, by decide +kernel, by decide +kernel⟩
abbrev s_removals : Stmt := topS 14
theorem sc_removals : FnScope ["parent", "old", "new", "found", "node", "partner"] ["parent", "old", "new"] (defScope s_removals) := ⟨rfl, rfl, rfl, by decide +kernel, rfl, by decide +kernel, by decide +kernel⟩
abbrev s_own_changes : Stmt := topS 15
theorem sc_own_changes : FnScope ["old", "new", "names", "found", "name", "_", "text"] ["old", "new"] (defScope s_own_changes) := ⟨rfl, rfl, rfl, by decide +kernel, rfl, by decide +kernel, by decide +kernel⟩
abbrev s_placings : Stmt := topS 16
theorem sc_placings : FnScope ["parent", "old", "new", "node", "kept", "places", "staying", "found", "ahead", "place"] ["parent", "old", "new"] (defScope s_placings) := ⟨rfl, rfl, rfl, by decide +kernel, rfl, by decide +kernel, by decide +kernel⟩
abbrev s_changes : Stmt := topS 17
theorem sc_changes : FnScope ["parent", "old", "new", "found", "node", "partner"] ["parent", "old", "new"] (defScope s_changes) := ⟨rfl, rfl, rfl, by decide +kernel, rfl, by decide +kernel, by decide +kernel⟩
abbrev s_patch : Stmt := topS 18
theorem sc_patch : FnScope ["old", "new"] ["old", "new"] (defScope s_patch) := ⟨rfl, rfl, rfl, by decide +kernel, rfl, by decide +kernel, by decide +kernel⟩
abbrev s_is_careful : Stmt := topS 19
theorem sc_is_careful : FnScope ["old", "new", "operations", "kept", "operation", "number"] ["old", "new", "operations"] (defScope s_is_careful) := ⟨rfl, rfl, rfl, by decide +kernel, rfl, by decide +kernel, by decide +kernel⟩
abbrev s_is_kid : Stmt := topS 24
theorem sc_is_kid : FnScope ["kids", "number", "kid"] ["kids", "number"] (defScope s_is_kid) := ⟨rfl, rfl, rfl, by decide +kernel, rfl, by decide +kernel, by decide +kernel⟩
abbrev s_insert_fault : Stmt := topS 25
theorem sc_insert_fault : FnScope ["document", "parent", "node", "ahead", "kids", "there", "number", "level"] ["document", "parent", "node", "ahead"] (defScope s_insert_fault) := ⟨rfl, rfl, rfl, by decide +kernel, rfl, by decide +kernel, by decide +kernel⟩
abbrev s_kid_fault : Stmt := topS 26
theorem sc_kid_fault : FnScope ["document", "operation", "kids"] ["document", "operation"] (defScope s_kid_fault) := ⟨rfl, rfl, rfl, by decide +kernel, rfl, by decide +kernel, by decide +kernel⟩
abbrev s_attribute_fault : Stmt := topS 27
theorem sc_attribute_fault : FnScope ["document", "operation", "node", "name", "_"] ["document", "operation"] (defScope s_attribute_fault) := ⟨rfl, rfl, rfl, by decide +kernel, rfl, by decide +kernel, by decide +kernel⟩
abbrev s_fault_of : Stmt := topS 28
theorem sc_fault_of : FnScope ["document", "operation", "word", "node"] ["document", "operation"] (defScope s_fault_of) := ⟨rfl, rfl, rfl, by decide +kernel, rfl, by decide +kernel, by decide +kernel⟩
abbrev s_with_kids : Stmt := topS 29
theorem sc_with_kids : FnScope ["document", "parent", "kids", "node"] ["document", "parent", "kids"] (defScope s_with_kids) := ⟨rfl, rfl, rfl, by decide +kernel, rfl, by decide +kernel, by decide +kernel⟩
abbrev s_node_with_kids : Stmt := topS 30
theorem sc_node_with_kids : FnScope ["node", "parent", "kids"] ["node", "parent", "kids"] (defScope s_node_with_kids) := ⟨rfl, rfl, rfl, by decide +kernel, rfl, by decide +kernel, by decide +kernel⟩
abbrev s_with_node : Stmt := topS 31
theorem sc_with_node : FnScope ["document", "number", "node", "found", "old"] ["document", "number", "node"] (defScope s_with_node) := ⟨rfl, rfl, rfl, by decide +kernel, rfl, by decide +kernel, by decide +kernel⟩
abbrev s_put : Stmt := topS 32
theorem sc_put : FnScope ["kids", "node", "ahead", "found", "kid"] ["kids", "node", "ahead"] (defScope s_put) := ⟨rfl, rfl, rfl, by decide +kernel, rfl, by decide +kernel, by decide +kernel⟩
abbrev s_changed_attributes : Stmt := topS 33
theorem sc_changed_attributes : FnScope ["attributes", "name", "text", "found", "pair"] ["attributes", "name", "text"] (defScope s_changed_attributes) := ⟨rfl, rfl, rfl, by decide +kernel, rfl, by decide +kernel, by decide +kernel⟩
abbrev s_made_operation : Stmt := topS 34
theorem sc_made_operation : FnScope ["document", "operation", "word", "node", "text", "attributes", "kids", "others", "kid"] ["document", "operation"] (defScope s_made_operation) := ⟨rfl, rfl, rfl, by decide +kernel, rfl, by decide +kernel, by decide +kernel⟩
abbrev s_apply_operation : Stmt := topS 35
theorem sc_apply_operation : FnScope ["document", "operation"] ["document", "operation"] (defScope s_apply_operation) := ⟨rfl, rfl, rfl, by decide +kernel, rfl, by decide +kernel, by decide +kernel⟩
abbrev s_apply_all : Stmt := topS 36
theorem sc_apply_all : FnScope ["document", "operations", "index", "operation", "fault"] ["document", "operations"] (defScope s_apply_all) := ⟨rfl, rfl, rfl, by decide +kernel, rfl, by decide +kernel, by decide +kernel⟩
abbrev s__law_cell : Stmt := topS 38
theorem sc__law_cell : FnScope ["_law_script", "_law_k"] ["_law_script", "_law_k"] (defScope s__law_cell) := ⟨rfl, rfl, rfl, by decide +kernel, rfl, by decide +kernel, by decide +kernel⟩
abbrev s__law_start : Stmt := topS 39
theorem sc__law_start : FnScope ["_law_cell_here", "_law_k", "_law_prime", "_law_mixed"] ["_law_cell_here", "_law_k"] (defScope s__law_start) := ⟨rfl, rfl, rfl, by decide +kernel, rfl, by decide +kernel, by decide +kernel⟩
abbrev s__law_digit : Stmt := topS 40
theorem sc__law_digit : FnScope ["_law_state", "_law_many", "_law_digit_here"] ["_law_state", "_law_many"] (defScope s__law_digit) := ⟨rfl, rfl, rfl, by decide +kernel, rfl, by decide +kernel, by decide +kernel⟩
abbrev s__law_word : Stmt := topS 41
theorem sc__law_word : FnScope ["_law_state"] ["_law_state"] (defScope s__law_word) := ⟨rfl, rfl, rfl, by decide +kernel, rfl, by decide +kernel, by decide +kernel⟩
abbrev s__law_attributes : Stmt := topS 42
theorem sc__law_attributes : FnScope ["_law_state", "_law_pairs", "_law_name"] ["_law_state"] (defScope s__law_attributes) := ⟨rfl, rfl, rfl, by decide +kernel, rfl, by decide +kernel, by decide +kernel⟩
abbrev s__law_node : Stmt := topS 43
theorem sc__law_node : FnScope ["_law_state", "_law_levels", "_law_pool_here", "_law_number", "_law_kids", "_law_k"] ["_law_state", "_law_levels", "_law_pool_here"] (defScope s__law_node) := ⟨rfl, rfl, rfl, by decide +kernel, rfl, by decide +kernel, by decide +kernel⟩
abbrev s__law_pool : Stmt := topS 44
theorem sc__law_pool : FnScope ["_law_state", "_law_many", "_law_pool_here", "_law_k", "_law_place"] ["_law_state", "_law_many"] (defScope s__law_pool) := ⟨rfl, rfl, rfl, by decide +kernel, rfl, by decide +kernel, by decide +kernel⟩
abbrev s__law_document : Stmt := topS 45
theorem sc__law_document : FnScope ["_law_state", "_law_many", "_law_levels", "_law_pool_here", "_law_nodes", "_law_k"] ["_law_state", "_law_many", "_law_levels"] (defScope s__law_document) := ⟨rfl, rfl, rfl, by decide +kernel, rfl, by decide +kernel, by decide +kernel⟩
abbrev s__law_below : Stmt := topS 46
theorem sc__law_below : FnScope ["_law_node_here"] ["_law_node_here"] (defScope s__law_below) := ⟨rfl, rfl, rfl, by decide +kernel, rfl, by decide +kernel, by decide +kernel⟩
abbrev s__law_flat : Stmt := topS 47
theorem sc__law_flat : FnScope ["_law_document_here", "_law_parent", "_law_level", "_law_rows", "_law_node_here"] ["_law_document_here", "_law_parent", "_law_level"] (defScope s__law_flat) := ⟨rfl, rfl, rfl, by decide +kernel, rfl, by decide +kernel, by decide +kernel⟩
abbrev s__law_good : Stmt := topS 49
theorem sc__law_good : FnScope ["_law_document_here", "_law_rows", "_law_row", "_law_ids_here", "_law_k", "_law_names", "_law_pair_here"] ["_law_document_here"] (defScope s__law_good) := ⟨rfl, rfl, rfl, by decide +kernel, rfl, by decide +kernel, by decide +kernel⟩
abbrev s__law_turned : Stmt := topS 52
theorem sc__law_turned : FnScope ["_law_state", "_law_document_here", "_law_levels", "_law_rows", "_law_node_here", "_law_kept_here", "_law_nodes", "_law_place", "_law_changed", "_law_tag", "_law_attributes_here"] ["_law_state", "_law_document_here", "_law_levels"] (defScope s__law_turned) := ⟨rfl, rfl, rfl, by decide +kernel, rfl, by decide +kernel, by decide +kernel⟩
abbrev s__law_fresh : Stmt := topS 53
theorem sc__law_fresh : FnScope ["_law_state", "_law_document_here", "_law_first", "_law_node_here", "_law_place", "_law_k"] ["_law_state", "_law_document_here", "_law_first"] (defScope s__law_fresh) := ⟨rfl, rfl, rfl, by decide +kernel, rfl, by decide +kernel, by decide +kernel⟩
abbrev s__law_pair : Stmt := topS 54
theorem sc__law_pair : FnScope ["_law_script", "_law_k", "_law_state", "_law_old", "_law_choice", "_law_many", "_law_rows", "_law_turn", "_law_new", "_law_head", "_law_number"] ["_law_script", "_law_k"] (defScope s__law_pair) := ⟨rfl, rfl, rfl, by decide +kernel, rfl, by decide +kernel, by decide +kernel⟩
abbrev s_law : Stmt := topS 55
theorem sc_law : FnScope ["_law_script", "_law_documents", "_law_k", "_law_old", "_law_new", "_law_operations", "_law_document_here", "_law_operation", "_law_places", "_law_j"] ["_law_script"] (defScope s_law) := ⟨rfl, rfl, rfl, by decide +kernel, rfl, by decide +kernel, by decide +kernel⟩
/-- a def of the text as it stands behind the top -/
def Dn (K : PySem.W.Frag) (mg : Str → Option Value) (x : Str) (st : Stmt) (ps : List Str) : Prop := ∃ f fd, mg x = some (.ref f) ∧ Fun K x x st f fd ∧ Binds K fd ps []
/-- .. that keeps a promise -/
def Cl (P : Program) (w : World) (K : PySem.W.Frag) (mg : Str → Option Value) (base : Heap) (k : Nat) (x : Str) (ps : List Str) (sp : Sp) : Prop := ∃ f fd, mg x = some (.ref f) ∧ PySem.W.keepIn K (.ref f) = true ∧ Binds K fd ps [] ∧ FnOk P w K mg base CX0 k f fd ps sp
section
variable {P : Program} {w : World} {K : PySem.W.Frag} {mg : Str → Option Value} {base : Heap}
theorem Cl.mono {k k' : Nat} {x : Str} {ps : List Str} {sp : Sp} (h : Cl P w K mg base k x ps sp) (hk : k ≤ k') : Cl P w K mg base k' x ps sp := by
  obtain ⟨f, fd, h1, h2, h3, h4⟩ := h
  exact ⟨f, fd, h1, h2, h3, h4.mono hk⟩
theorem Cl.imp {k : Nat} {x : Str} {ps : List Str} {sp sp' : Sp} (h : Cl P w K mg base k x ps sp) (hs : ∀ vs H Q E, sp' vs H Q E → sp vs H Q E) : Cl P w K mg base k x ps sp' := by
  obtain ⟨f, fd, h1, h2, h3, h4⟩ := h
  exact ⟨f, fd, h1, h2, h3, h4.imp hs⟩
theorem pe_cl {X : Cx} {k : Nat} {x : Str} {ps : List Str} {sp : Sp} {e : Expr} {es : List Expr} {p pos : Pos} {t : TA} (h : Cl X.prog X.w X.K X.mg X.base k x ps sp) (hr : Room k X.A) (hg : Gl X x) (ha : PA X (e :: es) t)
    (hdb : (x == ("__debug__" : Str)) = false := by decide) (he : starEach (e :: es) X.env = (false, eval e X.env) :: starEach es X.env := by rfl) (hpl : (backTo pos (starEach es X.env)).any (·.1) = false := by rfl) : PE X (.Call (.Name x p) (e :: es) [] pos) (tCall sp [] E0 t) := by
  obtain ⟨f, fd, h1, h2, h3, h4⟩ := h
  exact pe_call h4 hr hg h1 h2 h3 .nil pass0 ha hdb he hpl
/-- a def by its body -/
theorem cl_of {x : Str} {st : Stmt} {N ps : List Str} {k : Nat} {sp : Sp} (D : Dn K mg x st ps) (S : FnScope N ps (defScope st)) (len : ∀ vs H Q E, sp vs H Q E → vs.length = ps.length)
    (hbody : ∀ (f : Addr) (cdv : Value) (A : Around) (outer : List Env) (s : Shared) (H : Hp) (vs : List V) (Q : VK) (E : XK), Room k (A.deeper (PyProof.Rows.envOfC x (defScope st) s.heap.objs.size f cdv)) → sp vs H Q E →
      ∃ t, PSs (cxOf CX0 P w K mg base N x (defScope st) f cdv A outer s H E).nox (defBody st) t ∧ t { nx := fun _ H' => Q .non H', rt := Q } (start N vs) H) : Cl P w K mg base (k + 1) x ps sp := by
  obtain ⟨f, fd, h1, F, hb⟩ := D
  exact ⟨f, fd, h1, F.kp, hb, F.ok S len (hbody f)⟩
/-- by a relation of what it takes and gives -/
theorem cl_fs {x : Str} {st : Stmt} {N ps : List Str} {k : Nat} {S : List Rs → Rs → Prop} (D : Dn K mg x st ps) (Sc : FnScope N ps (defScope st)) (len : ∀ as r, S as r → as.length = ps.length)
    (hbody : ∀ (f : Addr) (cdv : Value) (A : Around) (outer : List Env) (s : Shared) (H : Hp) (vs : List V) (as : List Rs) (r : Rs) (Q : VK) (E : XK), Room k (A.deeper (PyProof.Rows.envOfC x (defScope st) s.heap.objs.size f cdv)) → ARs H vs as → S as r → (∀ v H', Same H H' → RR H H' v r → Q v H') →
      ∃ t, PSs (cxOf CX0 P w K mg base N x (defScope st) f cdv A outer s H E).nox (defBody st) t ∧ t { nx := fun _ H' => Q .non H', rt := Q } (start N vs) H) : Cl P w K mg base (k + 1) x ps (FS S) := by
  have hl : ∀ {H : Hp} {vs : List V} {as : List Rs}, ARs H vs as → vs.length = as.length := by
    intro H vs as h
    induction h with
    | nil => rfl
    | cons _ _ ih => rw [List.length_cons, List.length_cons, ih]
  refine cl_of D Sc (fun vs H Q E ⟨as, r, h1, h2, _⟩ => by rw [hl h1]; exact len as r h2) fun f cdv A outer s H vs Q E hr ⟨as, r, h1, h2, q⟩ => ?_
  exact hbody f cdv A outer s H vs as r Q E hr h1 h2 q
theorem cl_no {x : Str} {st : Stmt} {ps : List Str} {k : Nat} (D : Dn K mg x st ps) : Cl P w K mg base k x ps (FS fun _ _ => False) := by
  obtain ⟨f, fd, h1, F, hb⟩ := D
  exact ⟨f, fd, h1, F.kp, hb, ⟨fun vs H Q E ⟨_, _, _, z, _⟩ => z.elim, fun A outer s H args us vs Q E _ _ _ _ ⟨_, _, _, z, _⟩ => z.elim⟩⟩
end
/-- one level less, none at level 0 -/
def less (S : Nat → List Rs → Rs → Prop) : Nat → List Rs → Rs → Prop
  | 0 => fun _ _ => False
  | n + 1 => S n
/-- what the walk asks of the text's top: each def stands there, each built-in's name is the built-in -/
structure Txt (K : PySem.W.Frag) (mg : Str → Option Value) : Prop where
  d_kids_in : Dn K mg "kids_in" s_kids_in ["node"]
  d_fits_levels : Dn K mg "fits_levels" s_fits_levels ["nodes", "levels"]
  d_ids_of : Dn K mg "ids_of" s_ids_of ["document"]
  d_find_node : Dn K mg "find_node" s_find_node ["document", "number"]
  d_kids_of : Dn K mg "kids_of" s_kids_of ["document", "parent"]
  d_level_of : Dn K mg "level_of" s_level_of ["document", "number"]
  d_lengths_from : Dn K mg "lengths_from" s_lengths_from ["numbers"]
  d_best_row : Dn K mg "best_row" s_best_row ["numbers"]
  d_partner_in : Dn K mg "partner_in" s_partner_in ["kids", "node"]
  d_kept_ids : Dn K mg "kept_ids" s_kept_ids ["old", "new"]
  d_removals : Dn K mg "removals" s_removals ["parent", "old", "new"]
  d_own_changes : Dn K mg "own_changes" s_own_changes ["old", "new"]
  d_placings : Dn K mg "placings" s_placings ["parent", "old", "new"]
  d_changes : Dn K mg "changes" s_changes ["parent", "old", "new"]
  d_patch : Dn K mg "patch" s_patch ["old", "new"]
  d_is_careful : Dn K mg "is_careful" s_is_careful ["old", "new", "operations"]
  d_is_kid : Dn K mg "is_kid" s_is_kid ["kids", "number"]
  d_insert_fault : Dn K mg "insert_fault" s_insert_fault ["document", "parent", "node", "ahead"]
  d_kid_fault : Dn K mg "kid_fault" s_kid_fault ["document", "operation"]
  d_attribute_fault : Dn K mg "attribute_fault" s_attribute_fault ["document", "operation"]
  d_fault_of : Dn K mg "fault_of" s_fault_of ["document", "operation"]
  d_with_kids : Dn K mg "with_kids" s_with_kids ["document", "parent", "kids"]
  d_node_with_kids : Dn K mg "node_with_kids" s_node_with_kids ["node", "parent", "kids"]
  d_with_node : Dn K mg "with_node" s_with_node ["document", "number", "node"]
  d_put : Dn K mg "put" s_put ["kids", "node", "ahead"]
  d_changed_attributes : Dn K mg "changed_attributes" s_changed_attributes ["attributes", "name", "text"]
  d_made_operation : Dn K mg "made_operation" s_made_operation ["document", "operation"]
  d_apply_operation : Dn K mg "apply_operation" s_apply_operation ["document", "operation"]
  d_apply_all : Dn K mg "apply_all" s_apply_all ["document", "operations"]
  d__law_cell : Dn K mg "_law_cell" s__law_cell ["_law_script", "_law_k"]
  d__law_start : Dn K mg "_law_start" s__law_start ["_law_cell_here", "_law_k"]
  d__law_digit : Dn K mg "_law_digit" s__law_digit ["_law_state", "_law_many"]
  d__law_word : Dn K mg "_law_word" s__law_word ["_law_state"]
  d__law_attributes : Dn K mg "_law_attributes" s__law_attributes ["_law_state"]
  d__law_node : Dn K mg "_law_node" s__law_node ["_law_state", "_law_levels", "_law_pool_here"]
  d__law_pool : Dn K mg "_law_pool" s__law_pool ["_law_state", "_law_many"]
  d__law_document : Dn K mg "_law_document" s__law_document ["_law_state", "_law_many", "_law_levels"]
  d__law_below : Dn K mg "_law_below" s__law_below ["_law_node_here"]
  d__law_flat : Dn K mg "_law_flat" s__law_flat ["_law_document_here", "_law_parent", "_law_level"]
  d__law_good : Dn K mg "_law_good" s__law_good ["_law_document_here"]
  d__law_turned : Dn K mg "_law_turned" s__law_turned ["_law_state", "_law_document_here", "_law_levels"]
  d__law_fresh : Dn K mg "_law_fresh" s__law_fresh ["_law_state", "_law_document_here", "_law_first"]
  d__law_pair : Dn K mg "_law_pair" s__law_pair ["_law_script", "_law_k"]
  d_law : Dn K mg "law" s_law ["_law_script"]
  n_len : mg "len" = none
  n_tuple : mg "tuple" = none
  n_sorted : mg "sorted" = none
  n_max : mg "max" = none
  n_min : mg "min" = none
  n_int : mg "int" = none
  n_abs : mg "abs" = none
  n_range : mg "range" = none
  n_reversed : mg "reversed" = none
  n_enumerate : mg "enumerate" = none
  m_MOST_LEVELS : ∃ t, mg "MOST_LEVELS" = some (.int 40 t)
theorem bt_len : bootBuiltins "len" = some (.builtin "len") := by decide +kernel
theorem bt_tuple : bootBuiltins "tuple" = some (.type "tuple") := by decide +kernel
theorem bt_sorted : bootBuiltins "sorted" = some (.builtin "sorted") := by decide +kernel
theorem bt_max : bootBuiltins "max" = some (.builtin "max") := by decide +kernel
theorem bt_min : bootBuiltins "min" = some (.builtin "min") := by decide +kernel
theorem bt_int : bootBuiltins "int" = some (.type "int") := by decide +kernel
theorem bt_abs : bootBuiltins "abs" = some (.builtin "abs") := by decide +kernel
end VL

namespace VL
open PySem L2
section
variable {P : Program} {w : World} {K : PySem.W.Frag} {mg : Str → Option Value} {base : Heap}
/-- kids_in -/
def S_kids_in : List Rs → Rs → Prop := fun as r => ∃ n : Node, as = [.d (eN n)] ∧ r = .d (eD n.kids)
theorem c_kids_in (T : Txt K mg) : Cl P w K mg base 1 "kids_in" ["node"] (FS S_kids_in) := by
  refine cl_fs T.d_kids_in sc_kids_in (fun as r ⟨n, e, _⟩ => by rw [e]; rfl) fun f cdv A outer s H vs as r Q Ew hr ha ⟨n, e1, e2⟩ q => ?_
  subst e1 e2
  obtain - | ⟨hn, - | -⟩ := ha
  refine ⟨_, (pss_cons (ps_if (pt_cmpR op_eq (pe_ix ix_tup (pv 0) pe_int (fun _ _ => rfl)) pe_str (nomark _)) (pss_one (ps_ret (pe_ix ix_tup (pv 0) pe_int (fun _ _ => rfl)))) pss_nil)
      (pss_one (ps_ret (pe_tup pa_nil)))), ?_⟩
  cases n with
  | text i s =>
    rw [eN_text] at hn
    refine q_when (et_eqS (e_ixT 0 (e_var rfl hn) e_int rfl) e_str) (fun h => absurd h (by decide +kernel)) fun _ H1 e1 => ?_
    exact s_ret (e_tup (ds := []) ea_nil) fun v H2 e2 hv => q v H2 (e1.trans e2) hv
  | elem i t a k =>
    rw [eN_elem] at hn
    refine q_when (et_eqS (e_ixT 0 (e_var rfl hn) e_int rfl) e_str) (fun _ H1 e1 => ?_) (fun h => absurd h (by decide +kernel))
    exact s_ret (e_ixT 4 (e_var rfl (Tp.mono (tx_of e1) hn)) e_int rfl) fun v H2 e2 hv => q v H2 (e1.trans e2) hv

theorem len_take {α : Type} (a b : List α) : (a ++ b).length = a.length + b.length := List.length_append
/-- fits_levels, where they fit -/
def S_fits (N : Nat) : List Rs → Rs → Prop := fun as r => ∃ (n : Nat) (d : List Node), n ≤ N ∧ as = [.d (eD d), .d (.int (n : Int))] ∧ Lv n d ∧ r = .b true
theorem c_fits_levels (T : Txt K mg) : ∀ N : Nat, Cl P w K mg base (N + 2) "fits_levels" ["nodes", "levels"] (FS (S_fits N)) := by
  intro N
  induction N with
  | zero => exact go 0 (cl_no T.d_fits_levels)
  | succ N ih => exact go (N + 1) ih
where
  go (N : Nat) (C_fits_levels : Cl P w K mg base (N + 1) "fits_levels" ["nodes", "levels"] (FS (less S_fits N))) : Cl P w K mg base (N + 2) "fits_levels" ["nodes", "levels"] (FS (S_fits N)) := by
    have C_kids_in := c_kids_in (P := P) (w := w) (base := base) T
    refine cl_fs T.d_fits_levels sc_fits_levels (fun as r ⟨n, d, _, e, _⟩ => by rw [e]; rfl) fun f cdv A outer s H vs as r Q Ew hr ha ⟨n, d, hN, e1, hl, e2⟩ q => ?_
    subst e1 e2
    obtain - | ⟨hd, - | ⟨hn, - | -⟩⟩ := ha
    refine ⟨_, (pss_cons (ps_if (pt_cmpR op_eq (pe_callB call_ln rfl T.n_len bt_len (pa_cons (pv 0) pa_nil)) pe_int (nomark _)) (pss_one (ps_ret pe_bl)) pss_nil)
      (pss_cons (ps_if (pt_cmpR op_eq (pv 1) pe_int (nomark _)) (pss_one (ps_ret pe_bl)) pss_nil)
      (pss_cons (ps_for PassesOwn.never rfl (pi_tup (pv 0)) (pg_name (i := 2) sc_fits_levels.nd rfl (Or.inl rfl)) (pss_one (ps_if (pt_not (pt_val (pe_cl C_fits_levels (hr.mono (by omega)) rfl (pa_cons (pe_cl C_kids_in (hr.mono (by omega)) rfl (pa_cons (pv 2) pa_nil)) (pa_cons (pe_op op_sub (pv 1) pe_int) pa_nil))))) (pss_one (ps_ret pe_bl)) pss_nil)))
      (pss_one (ps_ret pe_bl))))), ?_⟩
    refine q_when (et_eqI (e_lenT (e_var rfl hd)) e_int) (fun _ H1 e1 => s_ret e_bl fun v H2 e2 hv => q v H2 (e1.trans e2) hv) fun h0 H1 e1 => ?_
    have hd1 : d ≠ [] := fun z => by rw [z] at h0; exact absurd h0 (by decide)
    cases n with
    | zero => exact absurd hl hd1
    | succ m =>
      refine q_when (et_eqI (e_var rfl (Tp.mono (tx_of e1) hn)) e_int) (fun z => absurd (of_decide_eq_true z) (by omega)) fun _ H2 e2 => ?_
      have e12 := e1.trans e2
      refine q_forV (H0 := H) (xs := d) rfl hd (fun done todo σ' H' => ∃ v, σ' = [some _, some _, v] ∧ Same H H') ⟨_, rfl, e12⟩ (fun _ _ _ _ ⟨_, _, e⟩ => tx_of e) ?_ ?_
      · rintro done x todo u σ' H' ed ⟨v, rfl, eH⟩ hu
        obtain ⟨N, rfl⟩ : ∃ k, N = k + 1 := ⟨N - 1, by omega⟩
        have hx : Lv m x.kids := hl x (by rw [ed]; simp)
        have em : ((m + 1 : Nat) : Int) - 1 = (m : Int) := by omega
        refine s_if (et_not (et_B (e_call (r := .b true) (ea_cons (E.o (e_call (ea_cons (E.o (e_var rfl hu)) ea_nil) ⟨x, rfl, rfl⟩)) (ea_cons (E.o (E.is (e_opI (e_var rfl (Tp.mono (tx_of eH) hn)) e_int) (by rw [em]))) ea_nil)) ⟨m, x.kids, by omega, rfl, hx, rfl⟩))) (fun z => absurd z (by decide)) fun _ H3 e3 => ?_
        exact ⟨_, rfl, eH.trans e3⟩
      · rintro σ' H' ⟨v, rfl, eH⟩
        exact s_ret e_bl fun v H3 e3 hv => q v H3 (eH.trans e3) hv

/-- ids_of -/
def S_ids (N : Nat) : List Rs → Rs → Prop := fun as r => ∃ d : List Node, as = [.d (eD d)] ∧ Lv N d ∧ (ids d).length ≤ 10000 ∧ r = .l (eI (ids d))
theorem c_ids_of (T : Txt K mg) : ∀ N : Nat, Cl P w K mg base (N + 2) "ids_of" ["document"] (FS (S_ids N)) := by
  intro N
  induction N with
  | zero => exact go 0 (cl_no T.d_ids_of)
  | succ N ih => exact go (N + 1) ih
where
  go (N : Nat) (C_ids_of : Cl P w K mg base (N + 1) "ids_of" ["document"] (FS (less S_ids N))) : Cl P w K mg base (N + 2) "ids_of" ["document"] (FS (S_ids N)) := by
    have C_kids_in := c_kids_in (P := P) (w := w) (base := base) T
    refine cl_fs T.d_ids_of sc_ids_of (fun as r ⟨d, e, _⟩ => by rw [e]; rfl) fun f cdv A outer s H vs as r Q Ew hr ha ⟨d, e1, hl, hz, e2⟩ q => ?_
    subst e1 e2
    obtain - | ⟨hd, - | -⟩ := ha
    refine ⟨_, (pss_cons (ps_set (i := 1) sc_ids_of.nd rfl (Or.inl rfl) (pe_lst pa_nil))
      (pss_cons (ps_for PassesOwn.never rfl (pi_tup (pv 0)) (pg_name (i := 2) sc_ids_of.nd rfl (Or.inl rfl)) (pss_cons (ps_expr (pe_bm PySem.F.plainAttrs_list PySem.F.slot_list_append PySem.F.type_list_append mt_append (pv 1) (pa_cons (pe_ix ix_tup (pv 2) pe_int (fun _ _ => rfl)) pa_nil)))
      (pss_one (ps_set (i := 1) sc_ids_of.nd rfl (Or.inl rfl) (pe_op op_cat (pv 1) (pe_cl C_ids_of (hr.mono (by omega)) rfl (pa_cons (pe_cl C_kids_in (hr.mono (by omega)) rfl (pa_cons (pv 2) pa_nil)) pa_nil)))))))
      (pss_one (ps_ret (pv 1))))), ?_⟩
    refine q_new (Same.refl H) fun l H1 e1 hlc => ?_
    refine q_forV (H0 := H) (xs := d) rfl hd (fun done todo σ' H' => ∃ l v, σ' = [some _, some (.ref l), v] ∧ Lc H H' l (eI (ids done))) ⟨l, _, rfl, by rw [ids_nil]; exact hlc⟩ (fun _ _ _ _ ⟨_, _, _, h⟩ => h.tx) ?_ ?_
    · rintro done x todo u σ' H' ed ⟨l, v, rfl, hlc⟩ hu
      obtain ⟨m, rfl, hx⟩ := hl.mem (x := x) (by rw [ed]; simp)
      rw [ed, ids_append, ids_cons, idsN_eq] at hz
      simp only [List.length_append, List.length_cons] at hz
      have hun := hu
      obtain ⟨y, hy⟩ : ∃ y, eN x = .tuple y ∧ y[1]? = some (.int x.id) := by cases x <;> simp [eN, Node.id]
      rw [hy.1] at hun
      refine q_push rfl hlc (by rw [List.length_map]; omega) (e_ixT 1 (e_var rfl hun) e_int hy.2) fun H2 hlc2 tx2 => ?_
      refine s_grow rfl hlc2 (E.o (e_call (r := .l (eI (ids x.kids))) (ea_cons (E.o (e_call (ea_cons (E.o (e_var rfl (Tp.mono tx2 hu))) ea_nil) ⟨x, rfl, rfl⟩)) ea_nil) ⟨x.kids, rfl, hx, by omega, rfl⟩)) (by simp only [List.length_append, List.length_map, List.length_cons, List.length_nil]; omega) fun l' H3 hlc3 e3 => ?_
      refine ⟨l', _, rfl, ?_⟩
      rw [ids_append, ids_cons, idsN_eq, ids_nil, List.append_nil]
      simpa using hlc3
    · rintro σ' H' ⟨l, v, rfl, hlc⟩
      exact s_retO rfl (q _ H' hlc.2.1 hlc.rr)

/-- find_node -/
def S_find (N : Nat) : List Rs → Rs → Prop := fun as r => ∃ (d : List Node) (p : Int), as = [.d (eD d), .d (.int p)] ∧ Lv N d ∧ r = .d (eO (find d p))
theorem c_find_node (T : Txt K mg) : ∀ N : Nat, Cl P w K mg base (N + 2) "find_node" ["document", "number"] (FS (S_find N)) := by
  intro N
  induction N with
  | zero => exact go 0 (cl_no T.d_find_node)
  | succ N ih => exact go (N + 1) ih
where
  go (N : Nat) (C_find_node : Cl P w K mg base (N + 1) "find_node" ["document", "number"] (FS (less S_find N))) : Cl P w K mg base (N + 2) "find_node" ["document", "number"] (FS (S_find N)) := by
    have C_kids_in := c_kids_in (P := P) (w := w) (base := base) T
    refine cl_fs T.d_find_node sc_find_node (fun as r ⟨d, p, e, _⟩ => by rw [e]; rfl) fun f cdv A outer s H vs as r Q Ew hr ha ⟨d, p, e1, hl, e2⟩ q => ?_
    subst e1 e2
    obtain - | ⟨hd, - | ⟨hp, - | -⟩⟩ := ha
    refine ⟨_, (pss_cons (ps_for PassesOwn.never rfl (pi_tup (pv 0)) (pg_name (i := 2) sc_find_node.nd rfl (Or.inl rfl)) (pss_cons (ps_if (pt_cmpR op_eq (pe_ix ix_tup (pv 2) pe_int (fun _ _ => rfl)) (pv 1) (nomark _)) (pss_one (ps_ret (pv 2))) pss_nil)
      (pss_cons (ps_set (i := 3) sc_find_node.nd rfl (Or.inl rfl) (pe_cl C_find_node (hr.mono (by omega)) rfl (pa_cons (pe_cl C_kids_in (hr.mono (by omega)) rfl (pa_cons (pv 2) pa_nil)) (pa_cons (pv 1) pa_nil))))
      (pss_one (ps_if (pt_cmpR op_notN1 (pv 3) pe_non (nomark _)) (pss_one (ps_ret (pv 3))) pss_nil)))))
      (pss_one (ps_ret pe_non))), ?_⟩
    refine q_forV (H0 := H) (xs := d) rfl hd (fun done todo σ' H' => ∃ v3 v4, σ' = [some _, some _, v3, v4] ∧ Same H H' ∧ find d p = find todo p) ⟨_, _, rfl, Same.refl H, rfl⟩ (fun _ _ _ _ ⟨_, _, _, h, _⟩ => tx_of h) ?_ ?_
    · rintro done x todo u σ' H' ed ⟨v3, v4, rfl, eH, ef⟩ hu
      obtain ⟨m, rfl, hx⟩ := hl.mem (x := x) (by rw [ed]; simp)
      obtain ⟨y, hy, hy1, _⟩ := eN_get x
      have hun := hu
      rw [hy] at hun
      rw [find_cons, findN_eq] at ef
      refine q_when (et_eqI (e_ixT 1 (e_var rfl hun) e_int hy1) (e_var rfl (Tp.mono (tx_of eH) hp))) (fun h1 H1 e1 => ?_) fun h1 H1 e1 => ?_
      · have h1' := of_decide_eq_true h1
        rw [if_pos h1'] at ef
        refine s_ret (e_var rfl (Tp.mono (tx_of e1) hu)) fun v H2 e2 hv => q v H2 ((eH.trans e1).trans e2) ?_
        rw [ef]
        exact hv
      · have h1' := of_decide_eq_false h1
        rw [if_neg h1'] at ef
        refine q_asg (e_call (r := .d (eO (find x.kids p))) (ea_cons (E.o (e_call (ea_cons (E.o (e_var rfl (Tp.mono (tx_of e1) hu))) ea_nil) ⟨x, rfl, rfl⟩)) (ea_cons (E.o (e_var rfl (Tp.mono (tx_of (eH.trans e1)) hp))) ea_nil)) ⟨x.kids, p, rfl, hx, rfl⟩) fun v H2 e2 hv => ?_
        have eH2 := (eH.trans e1).trans e2
        refine s_if (et_notN (e_var rfl hv)) (fun h2 H3 e3 => ?_) fun h2 H3 e3 => ?_
        · cases hf : find x.kids p with
          | none => rw [hf] at h2; exact absurd h2 (by decide)
          | some z =>
            rw [hf] at ef hv
            refine s_ret (e_var rfl (Tp.mono (tx_of e3) hv)) fun v' H4 e4 hv' => q v' H4 ((eH2.trans e3).trans e4) ?_
            rw [ef]
            exact hv'
        · cases hf : find x.kids p with
          | none =>
            rw [hf] at ef
            exact ⟨_, _, rfl, eH2.trans e3, ef⟩
          | some z => rw [hf] at h2; exact absurd h2 (by show ¬ (!isNon (eN z)) = false; rw [eN_non]; decide)
    · rintro σ' H' ⟨v3, v4, rfl, eH, ef⟩
      rw [find_nil] at ef
      refine s_ret e_non fun v H1 e1 hv => q v H1 (eH.trans e1) ?_
      rw [ef]
      exact hv

/-- kids_of -/
def eK : Option (List Node) → PyData
  | none => .none
  | some ks => eD ks
def S_kids_of (N : Nat) : List Rs → Rs → Prop := fun as r => ∃ (d : List Node) (p : Int), as = [.d (eD d), .d (.int p)] ∧ Lv N d ∧ r = .d (eK (kidsOf d p))
theorem c_kids_of (T : Txt K mg) (N : Nat) : Cl P w K mg base (N + 3) "kids_of" ["document", "parent"] (FS (S_kids_of N)) := by
  have C_find_node := c_find_node (P := P) (w := w) (base := base) T N
  refine cl_fs T.d_kids_of sc_kids_of (fun as r ⟨d, p, e, _⟩ => by rw [e]; rfl) fun f cdv A outer s H vs as r Q Ew hr ha ⟨d, p, e1, hl, e2⟩ q => ?_
  subst e1 e2
  obtain - | ⟨hd, - | ⟨hp, - | -⟩⟩ := ha
  refine ⟨_, (pss_cons (ps_if (pt_cmpR op_eq (pv 1) pe_int (nomark _)) (pss_one (ps_ret (pv 0))) pss_nil)
      (pss_cons (ps_set (i := 2) sc_kids_of.nd rfl (Or.inl rfl) (pe_cl C_find_node (hr.mono (by omega)) rfl (pa_cons (pv 0) (pa_cons (pv 1) pa_nil))))
      (pss_cons (ps_if (PW.pt (pw_or (pt_cmpR op_isN1 (pv 2) pe_non (nomark _)) (pw_or1 (pt_cmpR op_ne (pe_ix ix_tup (pv 2) pe_int (fun _ _ => rfl)) pe_str (nomark _))))) (pss_one (ps_ret pe_non)) pss_nil)
      (pss_one (ps_ret (pe_ix ix_tup (pv 2) pe_int (fun _ _ => rfl))))))), ?_⟩
  refine q_when (et_eqI (e_var rfl hp) e_int) (fun h1 H1 e1 => ?_) fun h1 H1 e1 => ?_
  · have h1' := of_decide_eq_true h1
    refine s_ret (e_var rfl (Tp.mono (tx_of e1) hd)) fun v H2 e2 hv => q v H2 (e1.trans e2) ?_
    unfold kidsOf
    rw [if_pos h1']
    exact hv
  · have h1' := of_decide_eq_false h1
    refine q_asg (e_call (r := .d (eO (find d p))) (ea_cons (E.o (e_var rfl (Tp.mono (tx_of e1) hd))) (ea_cons (E.o (e_var rfl (Tp.mono (tx_of e1) hp))) ea_nil)) ⟨d, p, rfl, hl, rfl⟩) fun v H2 e2 hv => ?_
    have e12 := e1.trans e2
    unfold kidsOf at q
    rw [if_neg h1'] at q
    cases hf : find d p with
    | none =>
      rw [hf] at q hv
      refine q_when (b := true) (ET.is (et_or (et_isN (e_var rfl hv)) (b' := true) (fun z => absurd z (by decide))) rfl) (fun _ H3 e3 => s_ret e_non fun v H4 e4 hv => q v H4 ((e12.trans e3).trans e4) hv) (fun z => absurd z (by decide))
    | some x =>
      rw [hf] at q hv
      have hv' : Tp H2 v (eN x) := hv
      obtain ⟨y, hy, hy1, hy0⟩ := eN_get x
      rw [hy] at hv'
      refine q_when (et_or (et_isN (e_var rfl hv)) (fun _ => et_neS (e_ixT 0 (e_var rfl hv') e_int hy0) e_str)) (fun h2 H3 e3 => ?_) fun h2 H3 e3 => ?_
      · cases x with
        | text i s => exact s_ret e_non fun v H4 e4 hv => q v H4 ((e12.trans e3).trans e4) hv
        | elem i t a k => exact absurd h2 (by rw [eO_non]; show ¬ (false || !decide ((Str.ofString "element" : Str) = Str.ofString "element")) = true; decide +kernel)
      · cases x with
        | text i s => exact absurd h2 (by rw [eO_non]; show ¬ (false || !decide ((Str.ofString "text" : Str) = Str.ofString "element")) = false; decide +kernel)
        | elem i t a k =>
          have hv3 : Tp H2 v (eN (.elem i t a k)) := hv
          rw [eN_elem] at hv3
          exact s_ret (e_ixT 4 (e_var rfl (Tp.mono (tx_of e3) hv3)) e_int rfl) fun v H4 e4 hv => q v H4 ((e12.trans e3).trans e4) hv

/-- level_of -/
def S_lev (N : Nat) : List Rs → Rs → Prop := fun as r => ∃ (d : List Node) (p : Int), as = [.d (eD d), .d (.int p)] ∧ Lv N d ∧ r = .d (.int (lev d p : Nat))
theorem c_level_of (T : Txt K mg) : ∀ N : Nat, Cl P w K mg base (N + 2) "level_of" ["document", "number"] (FS (S_lev N)) := by
  intro N
  induction N with
  | zero => exact go 0 (cl_no T.d_level_of)
  | succ N ih => exact go (N + 1) ih
where
  go (N : Nat) (C_level_of : Cl P w K mg base (N + 1) "level_of" ["document", "number"] (FS (less S_lev N))) : Cl P w K mg base (N + 2) "level_of" ["document", "number"] (FS (S_lev N)) := by
    have C_kids_in := c_kids_in (P := P) (w := w) (base := base) T
    refine cl_fs T.d_level_of sc_level_of (fun as r ⟨d, p, e, _⟩ => by rw [e]; rfl) fun f cdv A outer s H vs as r Q Ew hr ha ⟨d, p, e1, hl, e2⟩ q => ?_
    subst e1 e2
    obtain - | ⟨hd, - | ⟨hp, - | -⟩⟩ := ha
    refine ⟨_, (pss_cons (ps_for PassesOwn.never rfl (pi_tup (pv 0)) (pg_name (i := 2) sc_level_of.nd rfl (Or.inl rfl)) (pss_cons (ps_if (pt_cmpR op_eq (pe_ix ix_tup (pv 2) pe_int (fun _ _ => rfl)) (pv 1) (nomark _)) (pss_one (ps_ret pe_int)) pss_nil)
      (pss_cons (ps_set (i := 3) sc_level_of.nd rfl (Or.inl rfl) (pe_cl C_level_of (hr.mono (by omega)) rfl (pa_cons (pe_cl C_kids_in (hr.mono (by omega)) rfl (pa_cons (pv 2) pa_nil)) (pa_cons (pv 1) pa_nil))))
      (pss_one (ps_if (pt_cmpR op_gt (pv 3) pe_int (nomark _)) (pss_one (ps_ret (pe_op op_add (pv 3) pe_int))) pss_nil)))))
      (pss_one (ps_ret pe_int))), ?_⟩
    refine q_forV (H0 := H) (xs := d) rfl hd (fun done todo σ' H' => ∃ v3 v4, σ' = [some _, some _, v3, v4] ∧ Same H H' ∧ lev d p = lev todo p) ⟨_, _, rfl, Same.refl H, rfl⟩ (fun _ _ _ _ ⟨_, _, _, h, _⟩ => tx_of h) ?_ ?_
    · rintro done x todo u σ' H' ed ⟨v3, v4, rfl, eH, ef⟩ hu
      obtain ⟨m, rfl, hx⟩ := hl.mem (x := x) (by rw [ed]; simp)
      obtain ⟨y, hy, hy1, _⟩ := eN_get x
      have hun := hu
      rw [hy] at hun
      rw [lev_cons, levN_eq] at ef
      refine q_when (et_eqI (e_ixT 1 (e_var rfl hun) e_int hy1) (e_var rfl (Tp.mono (tx_of eH) hp))) (fun h1 H1 e1 => ?_) fun h1 H1 e1 => ?_
      · have h1' := of_decide_eq_true h1
        rw [if_pos h1', if_pos (by omega)] at ef
        refine s_ret e_int fun v H2 e2 hv => q v H2 ((eH.trans e1).trans e2) ?_
        rw [ef]
        exact hv
      · have h1' := of_decide_eq_false h1
        rw [if_neg h1'] at ef
        refine q_asg (e_call (r := .d (.int (lev x.kids p : Nat))) (ea_cons (E.o (e_call (ea_cons (E.o (e_var rfl (Tp.mono (tx_of e1) hu))) ea_nil) ⟨x, rfl, rfl⟩)) (ea_cons (E.o (e_var rfl (Tp.mono (tx_of (eH.trans e1)) hp))) ea_nil)) ⟨x.kids, p, rfl, hx, rfl⟩) fun v H2 e2 hv => ?_
        have eH2 := (eH.trans e1).trans e2
        refine s_if (et_cmpI (g := fun i j => decide (j < i)) (e_var rfl hv) e_int) (fun h2 H3 e3 => ?_) fun h2 H3 e3 => ?_
        · have h2' : 0 < ((lev x.kids p : Nat) : Int) := of_decide_eq_true h2
          have h3 : 0 < lev x.kids p := by omega
          rw [if_pos h3, if_pos (Nat.succ_pos _)] at ef
          refine s_ret (e_opI (g := fun i j => i + j) (e_var rfl (Tp.mono (tx_of e3) hv)) e_int) fun v' H4 e4 hv' => q v' H4 ((eH2.trans e3).trans e4) ?_
          rw [ef]
          exact hv'
        · have h2' : ¬ 0 < ((lev x.kids p : Nat) : Int) := of_decide_eq_false h2
          have h3 : ¬ 0 < lev x.kids p := by omega
          rw [if_neg h3, if_neg (Nat.lt_irrefl 0)] at ef
          exact ⟨_, _, rfl, eH2.trans e3, ef⟩
    · rintro σ' H' ⟨v3, v4, rfl, eH, ef⟩
      rw [lev_nil] at ef
      refine s_ret e_int fun v H1 e1 hv => q v H1 (eH.trans e1) ?_
      rw [ef]
      exact hv

/-- is_kid -/
def S_is_kid : List Rs → Rs → Prop := fun as r => ∃ (ks : List Node) (p : Int), as = [.d (eD ks), .d (.int p)] ∧ r = .b (decide (p ∈ ks.map Node.id))
theorem c_is_kid (T : Txt K mg) : Cl P w K mg base 1 "is_kid" ["kids", "number"] (FS S_is_kid) := by
  refine cl_fs T.d_is_kid sc_is_kid (fun as r ⟨d, p, e, _⟩ => by rw [e]; rfl) fun f cdv A outer s H vs as r Q Ew hr ha ⟨d, p, e1, e2⟩ q => ?_
  subst e1 e2
  obtain - | ⟨hd, - | ⟨hp, - | -⟩⟩ := ha
  refine ⟨_, (pss_cons (ps_for PassesOwn.never rfl (pi_tup (pv 0)) (pg_name (i := 2) sc_is_kid.nd rfl (Or.inl rfl)) (pss_one (ps_if (pt_cmpR op_eq (pe_ix ix_tup (pv 2) pe_int (fun _ _ => rfl)) (pv 1) (nomark _)) (pss_one (ps_ret pe_bl)) pss_nil)))
      (pss_one (ps_ret pe_bl))), ?_⟩
  refine q_forV (H0 := H) (xs := d) rfl hd (fun done todo σ' H' => ∃ v3, σ' = [some _, some _, v3] ∧ Same H H' ∧ (p ∈ d.map Node.id ↔ p ∈ todo.map Node.id)) ⟨_, rfl, Same.refl H, Iff.rfl⟩ (fun _ _ _ _ ⟨_, _, h, _⟩ => tx_of h) ?_ ?_
  · rintro done x todo u σ' H' ed ⟨v3, rfl, eH, ef⟩ hu
    obtain ⟨y, hy, hy1, _⟩ := eN_get x
    have hun := hu
    rw [hy] at hun
    refine s_if (et_eqI (e_ixT 1 (e_var rfl hun) e_int hy1) (e_var rfl (Tp.mono (tx_of eH) hp))) (fun h1 H1 e1 => ?_) fun h1 H1 e1 => ?_
    · have h1' := of_decide_eq_true h1
      refine s_ret e_bl fun v H2 e2 hv => q v H2 ((eH.trans e1).trans e2) ?_
      rw [decide_eq_true (ef.mpr (by simp [h1']))]
      exact hv
    · have h1' := of_decide_eq_false h1
      refine ⟨_, rfl, eH.trans e1, ef.trans ?_⟩
      rw [List.map_cons, List.mem_cons]
      exact ⟨fun z => z.resolve_left fun z => h1' z.symm, Or.inr⟩
  · rintro σ' H' ⟨v3, rfl, eH, ef⟩
    refine s_ret e_bl fun v H1 e1 hv => q v H1 (eH.trans e1) ?_
    rw [decide_eq_false (fun z => by simpa using ef.mp z)]
    exact hv
end
end VL

namespace VL
open PySem L2
section
variable {K : PySem.W.Frag} {σ : L2.St} {H H' : Hp} {ta tb te : TE} {D : Ends} {t u tz : TS}
theorem s_forNL {α : Type} {enc : α → PyData} {xs : List α} {j : Nat} (h : E te σ H (.l (xs.map enc)))
    (k : ∀ H1, Same H H1 → ∃ Pv : List α → List α → L2.St → Hp → Prop, Pv [] xs σ H1 ∧ (∀ a b σ' H', Pv a b σ' H' → Same H1 H') ∧
      (∀ done x todo u σ' H', xs = done ++ x :: todo → Pv done (x :: todo) σ' H' → Tp H' u (enc x) → t { D with nx := Pv (done ++ [x]) todo, ct := Pv (done ++ [x]) todo, bk := D.nx } (σ'.set j (some u)) H') ∧
      (∀ σ' H', Pv xs [] σ' H' → D.nx σ' H')) : tFor (iList K te) (gName j) t D σ H := q_forNL (tz := fun D => D.nx) h k
/-- a pair to two names -/
theorem g_pair {p : Str × Str} {v : V} {i j : Nat} {Q : L2.St → Hp → Prop} (hv : Tp H v (eP p)) (k : Q ((σ.set i (some (.str p.1))).set j (some (.str p.2))) H) : gTup K 2 (gCons (gName i) (gCons (gName j) gNil)) v σ H Q := by
  obtain ⟨a, xs, rfl, h1, h2⟩ := Tp.tup_inv hv
  obtain - | ⟨hx, - | ⟨hy, - | -⟩⟩ := h2
  obtain rfl := Tp.str_inv hx
  obtain rfl := Tp.str_inv hy
  exact ⟨a, _, rfl, SqT.of h1, rfl, _, _, rfl, _, _, rfl, rfl, k⟩
/-- xs[-1] -/
theorem e_last {ns : List Int} {m : Int} (h : Eo ta σ H (.l (eI ns))) (hm : ns.getLast? = some m) : E (tOp (rIxL K) ta (tUn (rU fun i => .int (-i)) (tC (.int 1)))) σ H (.d (.int m)) := fun H1 e Q q =>
  h H1 e _ fun v H2 e2 hv => by
    obtain ⟨p, rfl, vs, h1, h2⟩ := hv
    obtain rfl := h2.ints
    refine ⟨1, rfl, p, ns.map V.int, -1, .int m, rfl, rfl, SqL.of h1, ?_, q _ H2 e2 (Tp.int _)⟩
    obtain ⟨l, rfl⟩ := List.getLast?_eq_some_iff.mp hm
    unfold atI ixN
    rw [if_neg (by decide), if_pos (by simp only [List.length_map, List.length_append, List.length_cons, List.length_nil]; omega)]
    have e0 : (-1 + (((l ++ [m]).map V.int).length : Nat) : Int).toNat = l.length := by simp only [List.length_map, List.length_append, List.length_cons, List.length_nil]; omega
    rw [e0]
    simp
end
section
variable {P : Program} {w : World} {K : PySem.W.Frag} {mg : Str → Option Value} {base : Heap}
/-- partner_in -/
def S_partner : List Rs → Rs → Prop := fun as r => ∃ (ks : List Node) (n : Node), as = [.d (eD ks), .d (eN n)] ∧ r = .d (eO (partner ks n))
theorem c_partner_in (T : Txt K mg) : Cl P w K mg base 1 "partner_in" ["kids", "node"] (FS S_partner) := by
  refine cl_fs T.d_partner_in sc_partner_in (fun as r ⟨d, n, e, _⟩ => by rw [e]; rfl) fun f cdv A outer s H vs as r Q Ew hr ha ⟨d, n, e1, e2⟩ q => ?_
  subst e1 e2
  obtain - | ⟨hd, - | ⟨hn, - | -⟩⟩ := ha
  refine ⟨_, (pss_cons (ps_for PassesOwn.never rfl (pi_tup (pv 0)) (pg_name (i := 2) sc_partner_in.nd rfl (Or.inl rfl)) (pss_one (ps_if (PW.pt (pw_and (pt_cmpR op_eq (pe_ix ix_tup (pv 2) pe_int (fun _ _ => rfl)) (pe_ix ix_tup (pv 1) pe_int (fun _ _ => rfl)) (nomark _)) (pw_and (pt_cmpR op_eq (pe_ix ix_tup (pv 2) pe_int (fun _ _ => rfl)) (pe_ix ix_tup (pv 1) pe_int (fun _ _ => rfl)) (nomark _)) (pw_and1 (PW.pt (pw_or (pt_cmpR op_eq (pe_ix ix_tup (pv 2) pe_int (fun _ _ => rfl)) pe_str (nomark _)) (pw_or1 (pt_cmpR op_eq (pe_ix ix_tup (pv 2) pe_int (fun _ _ => rfl)) (pe_ix ix_tup (pv 1) pe_int (fun _ _ => rfl)) (nomark _))))))))) (pss_one (ps_ret (pv 2))) pss_nil)))
      (pss_one (ps_ret pe_non))), ?_⟩
  obtain ⟨z, hz, hz1, hz0, hz2⟩ := eN_get2 n
  rw [hz] at hn
  refine q_forV (H0 := H) (xs := d) rfl hd (fun done todo σ' H' => ∃ v3, σ' = [some _, some _, v3] ∧ Same H H' ∧ partner d n = partner todo n) ⟨_, rfl, Same.refl H, rfl⟩ (fun _ _ _ _ ⟨_, _, h, _⟩ => tx_of h) ?_ ?_
  · rintro done x todo u σ' H' ed ⟨v3, rfl, eH, ef⟩ hu
    obtain ⟨y, hy, hy1, hy0, hy2⟩ := eN_get2 x
    have hun := hu
    rw [hy] at hun
    have hn' := Tp.mono (tx_of eH) hn
    refine s_if (b := sameN x n) (ET.is (et_and (et_eqI (e_ixT 1 (e_var rfl hun) e_int hy1) (e_ixT 1 (e_var rfl hn') e_int hz1)) fun _ => et_and (et_eqS (e_ixT 0 (e_var rfl hun) e_int hy0) (e_ixT 0 (e_var rfl hn') e_int hz0)) fun _ =>
      et_or (et_eqS (e_ixT 0 (e_var rfl hun) e_int hy0) e_str) fun _ => et_eqS (e_ixT 2 (e_var rfl hun) e_int hy2) (e_ixT 2 (e_var rfl hn') e_int hz2)) (sameN_eq x n)) (fun h1 H1 e1 => ?_) fun h1 H1 e1 => ?_
    · refine s_ret (e_var rfl (Tp.mono (tx_of e1) hu)) fun v H2 e2 hv => q v H2 ((eH.trans e1).trans e2) ?_
      have : partner d n = some x := by
        rw [ef]; unfold partner; rw [List.find?_cons, h1]
      rw [this]
      exact hv
    · refine ⟨_, rfl, eH.trans e1, ef.trans ?_⟩
      unfold partner
      rw [List.find?_cons, h1]
  · rintro σ' H' ⟨v3, rfl, eH, ef⟩
    refine s_ret e_non fun v H1 e1 hv => q v H1 (eH.trans e1) ?_
    rw [ef]
    exact hv

/-- kept_ids -/
def S_kept (N : Nat) : List Rs → Rs → Prop := fun as r => ∃ old new : List Node, as = [.d (eD old), .d (eD new)] ∧ Lv N new ∧ (ids new).length ≤ 10000 ∧ r = .l (eI (keptL old new))
theorem c_kept_ids (T : Txt K mg) : ∀ N : Nat, Cl P w K mg base (N + 2) "kept_ids" ["old", "new"] (FS (S_kept N)) := by
  intro N
  induction N with
  | zero => exact go 0 (cl_no T.d_kept_ids)
  | succ N ih => exact go (N + 1) ih
where
  go (N : Nat) (C_kept_ids : Cl P w K mg base (N + 1) "kept_ids" ["old", "new"] (FS (less S_kept N))) : Cl P w K mg base (N + 2) "kept_ids" ["old", "new"] (FS (S_kept N)) := by
    have C_kids_in := c_kids_in (P := P) (w := w) (base := base) T
    have C_partner_in := c_partner_in (P := P) (w := w) (base := base) T
    refine cl_fs T.d_kept_ids sc_kept_ids (fun as r ⟨_, _, e, _⟩ => by rw [e]; rfl) fun f cdv A outer s H vs as r Q Ew hr ha ⟨old, new, e1, hl, hz, e2⟩ q => ?_
    subst e1 e2
    obtain - | ⟨ho, - | ⟨hn, - | -⟩⟩ := ha
    refine ⟨_, (pss_cons (ps_set (i := 2) sc_kept_ids.nd rfl (Or.inl rfl) (pe_lst pa_nil))
      (pss_cons (ps_for PassesOwn.never rfl (pi_tup (pv 1)) (pg_name (i := 3) sc_kept_ids.nd rfl (Or.inl rfl)) (pss_cons (ps_set (i := 4) sc_kept_ids.nd rfl (Or.inl rfl) (pe_cl C_partner_in (hr.mono (by omega)) rfl (pa_cons (pv 0) (pa_cons (pv 3) pa_nil))))
      (pss_one (ps_if (pt_cmpR op_notN1 (pv 4) pe_non (nomark _)) (pss_cons (ps_expr (pe_bm PySem.F.plainAttrs_list PySem.F.slot_list_append PySem.F.type_list_append mt_append (pv 2) (pa_cons (pe_ix ix_tup (pv 3) pe_int (fun _ _ => rfl)) pa_nil)))
      (pss_one (ps_set (i := 2) sc_kept_ids.nd rfl (Or.inl rfl) (pe_op op_cat (pv 2) (pe_cl C_kept_ids (hr.mono (by omega)) rfl (pa_cons (pe_cl C_kids_in (hr.mono (by omega)) rfl (pa_cons (pv 4) pa_nil)) (pa_cons (pe_cl C_kids_in (hr.mono (by omega)) rfl (pa_cons (pv 3) pa_nil)) pa_nil))))))) pss_nil))))
      (pss_one (ps_ret (pv 2))))), ?_⟩
    refine q_new (Same.refl H) fun l H1 e1 hlc => ?_
    refine q_forV (H0 := H) (xs := new) rfl hn (fun done todo σ' H' => ∃ l v3 v4, σ' = [some _, some _, some (.ref l), v3, v4] ∧ Lc H H' l (eI (keptL old done))) ⟨l, _, _, rfl, by rw [keptL_nil]; exact hlc⟩ (fun _ _ _ _ ⟨_, _, _, _, h⟩ => h.tx) ?_ ?_
    · rintro done x todo u σ' H' ed ⟨l, v3, v4, rfl, hlc⟩ hu
      obtain ⟨m, rfl, hx⟩ := hl.mem (x := x) (by rw [ed]; simp)
      have hz1 := keptL_len new old
      have hz2 := hz
      rw [ed, keptL_append, keptL_cons] at hz1
      rw [ed, ids_append, ids_cons, idsN_eq] at hz2
      simp only [List.length_append, List.length_cons] at hz1 hz2
      have hzd := keptL_len done old
      obtain ⟨y, hy, hy1, _⟩ := eN_get x
      have hun := hu
      rw [hy] at hun
      refine q_asg (e_call (r := .d (eO (partner old x))) (ea_cons (E.o (e_var rfl (Tp.mono hlc.tx ho))) (ea_cons (E.o (e_var rfl hu)) ea_nil)) ⟨old, x, rfl, rfl⟩) fun v H2 e2 hv => ?_
      have hlc2 := hlc.same e2
      refine s_if (et_notN (e_var rfl hv)) (fun h2 H3 e3 => ?_) fun h2 H3 e3 => ?_
      · cases hf : partner old x with
        | none => rw [hf] at h2; exact absurd h2 (by decide)
        | some z =>
          rw [hf] at hv
          have hv' : Tp H2 v (eN z) := hv
          refine q_push rfl (hlc2.same e3) (by rw [List.length_map]; omega) (e_ixT 1 (e_var rfl (Tp.mono (tx_of (e2.trans e3)) hun)) e_int hy1) fun H4 hlc4 tx4 => ?_
          have tx34 := (tx_of e3).trans tx4
          refine s_grow rfl hlc4 (E.o (e_call (r := .l (eI (keptL z.kids x.kids))) (ea_cons (E.o (e_call (ea_cons (E.o (e_var rfl (hv'.mono tx34))) ea_nil) ⟨z, rfl, rfl⟩)) (ea_cons (E.o (e_call (ea_cons (E.o (e_var rfl (Tp.mono ((tx_of e2).trans tx34) hu))) ea_nil) ⟨x, rfl, rfl⟩)) ea_nil)) ⟨z.kids, x.kids, rfl, hx, by omega, rfl⟩))
            (by have := keptL_len x.kids z.kids; simp only [List.length_append, List.length_map, List.length_cons, List.length_nil]; omega) fun l' H5 hlc5 e5 => ?_
          refine ⟨l', _, _, rfl, ?_⟩
          rw [keptL_append, keptL_one, keptN_eq, hf]
          simpa using hlc5
      · cases hf : partner old x with
        | none =>
          refine ⟨l, _, _, rfl, ?_⟩
          rw [keptL_append, keptL_one, keptN_eq, hf]
          simpa using hlc2.same e3
        | some z => rw [hf] at h2; exact absurd h2 (by rw [eO_non]; decide)
    · rintro σ' H' ⟨l, v3, v4, rfl, hlc⟩
      exact s_retO rfl (q _ H' hlc.2.1 hlc.rr)

/-- removals -/
def S_rem (N : Nat) : List Rs → Rs → Prop := fun as r => ∃ (p : Int) (old new : List Node), as = [.d (.int p), .d (eD old), .d (eD new)] ∧ Lv N old ∧ (ids old).length ≤ 10000 ∧ r = .l ((remL p new old).map eOp)
theorem c_removals (T : Txt K mg) : ∀ N : Nat, Cl P w K mg base (N + 2) "removals" ["parent", "old", "new"] (FS (S_rem N)) := by
  intro N
  induction N with
  | zero => exact go 0 (cl_no T.d_removals)
  | succ N ih => exact go (N + 1) ih
where
  go (N : Nat) (C_removals : Cl P w K mg base (N + 1) "removals" ["parent", "old", "new"] (FS (less S_rem N))) : Cl P w K mg base (N + 2) "removals" ["parent", "old", "new"] (FS (S_rem N)) := by
    have C_kids_in := c_kids_in (P := P) (w := w) (base := base) T
    have C_partner_in := c_partner_in (P := P) (w := w) (base := base) T
    refine cl_fs T.d_removals sc_removals (fun as r ⟨_, _, _, e, _⟩ => by rw [e]; rfl) fun f cdv A outer s H vs as r Q Ew hr ha ⟨p, old, new, e1, hl, hz, e2⟩ q => ?_
    subst e1 e2
    obtain - | ⟨hp, - | ⟨ho, - | ⟨hn, - | -⟩⟩⟩ := ha
    refine ⟨_, (pss_cons (ps_set (i := 3) sc_removals.nd rfl (Or.inl rfl) (pe_lst pa_nil))
      (pss_cons (ps_for PassesOwn.never rfl (pi_tup (pv 1)) (pg_name (i := 4) sc_removals.nd rfl (Or.inl rfl)) (pss_cons (ps_set (i := 5) sc_removals.nd rfl (Or.inl rfl) (pe_cl C_partner_in (hr.mono (by omega)) rfl (pa_cons (pv 2) (pa_cons (pv 4) pa_nil))))
      (pss_one (ps_if (pt_cmpR op_isN1 (pv 5) pe_non (nomark _)) (pss_one (ps_expr (pe_bm PySem.F.plainAttrs_list PySem.F.slot_list_append PySem.F.type_list_append mt_append (pv 3) (pa_cons (pe_tup (pa_cons pe_str (pa_cons (pv 0) (pa_cons (pe_ix ix_tup (pv 4) pe_int (fun _ _ => rfl)) pa_nil)))) pa_nil)))) (pss_one (ps_set (i := 3) sc_removals.nd rfl (Or.inl rfl) (pe_op op_cat (pv 3) (pe_cl C_removals (hr.mono (by omega)) rfl (pa_cons (pe_ix ix_tup (pv 4) pe_int (fun _ _ => rfl)) (pa_cons (pe_cl C_kids_in (hr.mono (by omega)) rfl (pa_cons (pv 4) pa_nil)) (pa_cons (pe_cl C_kids_in (hr.mono (by omega)) rfl (pa_cons (pv 5) pa_nil)) pa_nil)))))))))))
      (pss_one (ps_ret (pv 3))))), ?_⟩
    refine q_new (Same.refl H) fun l H1 e1 hlc => ?_
    refine q_forV (H0 := H) (xs := old) rfl ho (fun done todo σ' H' => ∃ l v3 v4, σ' = [some _, some _, some _, some (.ref l), v3, v4] ∧ Lc H H' l ((remL p new done).map eOp)) ⟨l, _, _, rfl, by rw [remL_nil]; exact hlc⟩ (fun _ _ _ _ ⟨_, _, _, _, h⟩ => h.tx) ?_ ?_
    · rintro done x todo u σ' H' ed ⟨l, v3, v4, rfl, hlc⟩ hu
      obtain ⟨m, rfl, hx⟩ := hl.mem (x := x) (by rw [ed]; simp)
      have hz2 := hz
      rw [ed, ids_append, ids_cons, idsN_eq] at hz2
      simp only [List.length_append, List.length_cons] at hz2
      have hzd := remL_len done new p
      obtain ⟨y, hy, hy1, _⟩ := eN_get x
      have hun := hu
      rw [hy] at hun
      refine q_asg (e_call (r := .d (eO (partner new x))) (ea_cons (E.o (e_var rfl (Tp.mono hlc.tx hn))) (ea_cons (E.o (e_var rfl hu)) ea_nil)) ⟨new, x, rfl, rfl⟩) fun v H2 e2 hv => ?_
      have hlc2 := hlc.same e2
      refine s_if (et_isN (e_var rfl hv)) (fun h2 H3 e3 => ?_) fun h2 H3 e3 => ?_
      · cases hf : partner new x with
        | some z => rw [hf] at h2; exact absurd h2 (by rw [eO_non]; decide)
        | none =>
          refine s_push rfl (hlc2.same e3) (by rw [List.length_map]; omega) (e_tup (ds := [.str "remove", .int p, .int x.id]) (ea_cons (E.o e_str) (ea_cons (E.o (e_var rfl (Tp.mono (hlc2.same e3).tx hp))) (ea_cons (E.o (e_ixT 1 (e_var rfl (Tp.mono (tx_of (e2.trans e3)) hun)) e_int hy1)) ea_nil))) (by show 3 ≤ 100000; decide)) fun H4 hlc4 tx4 => ?_
          refine ⟨l, _, _, rfl, ?_⟩
          rw [remL_append, remL_one, remN_eq, hf]
          simpa [eOp] using hlc4
      · cases hf : partner new x with
        | none => rw [hf] at h2; exact absurd h2 (by decide)
        | some z =>
          rw [hf] at hv
          have hv' : Tp H2 v (eN z) := hv
          have hlc3 := hlc2.same e3
          have t3 := tx_of (e2.trans e3)
          refine s_grow rfl hlc3 (E.o (e_call (r := .l ((remL x.id z.kids x.kids).map eOp)) (ea_cons (E.o (e_ixT 1 (e_var rfl (Tp.mono t3 hun)) e_int hy1)) (ea_cons (E.o (e_call (ea_cons (E.o (e_var rfl (Tp.mono t3 hu))) ea_nil) ⟨x, rfl, rfl⟩)) (ea_cons (E.o (e_call (ea_cons (E.o (e_var rfl (hv'.mono (tx_of e3)))) ea_nil) ⟨z, rfl, rfl⟩)) ea_nil))) ⟨x.id, x.kids, z.kids, rfl, hx, by omega, rfl⟩))
            (by have := remL_len x.kids z.kids x.id; simp only [List.length_map]; omega) fun l' H5 hlc5 e5 => ?_
          refine ⟨l', _, _, rfl, ?_⟩
          rw [remL_append, remL_one, remN_eq, hf]
          simpa using hlc5
    · rintro σ' H' ⟨l, v3, v4, rfl, hlc⟩
      exact s_retO rfl (q _ H' hlc.2.1 hlc.rr)

/-- own_changes -/
def CN (n : Node) : Prop := PyData.canLay0 (eN n) = true
def CL (d : List Node) : Prop := PyData.canLayAll0 (d.map eN) = true
theorem cn_elem {i : Int} {t : Str} {a : Attrs} {k : List Node} (h : CN (.elem i t a k)) : CA a ∧ CL k := by
  unfold CN at h
  rw [eN_elem] at h
  simp only [PyData.canLay0, PyData.canLayAll0, Bool.and_eq_true, Bool.and_true] at h
  exact ⟨h.2.2.2.1, h.2.2.2.2⟩
theorem cl_mem : ∀ {d : List Node} {n : Node}, CL d → n ∈ d → CN n
  | q :: a, p, h, hp => by
    unfold CL at h
    rw [List.map_cons, PyData.canLayAll0, Bool.and_eq_true] at h
    rcases List.mem_cons.mp hp with e | hp
    · rw [e]; exact h.1
    · exact cl_mem (d := a) h.2 hp
theorem cl_kids {n : Node} (h : CN n) : CL n.kids := by
  cases n with
  | text i s => rfl
  | elem i t a k => exact (cn_elem h).2
def S_own : List Rs → Rs → Prop := fun as r => ∃ x y : Node, as = [.d (eN x), .d (eN y)] ∧ sameN x y = true ∧ CN x ∧ CN y ∧ AtN (fun a => a.length ≤ 1000) x ∧ AtN (fun a => a.length ≤ 1000) y ∧ r = .l ((own x y).map eOp)
theorem filterMap_some {α β : Type} (f : α → β) (l : List α) : l.filterMap (fun x => some (f x)) = l.map f := by rw [← List.filterMap_eq_map]; rfl
theorem filterMap_if {α β : Type} (p : α → Bool) (f : α → β) : ∀ l : List α, l.filterMap (fun x => if p x = true then some (f x) else none) = (l.filter p).map f
  | [] => rfl
  | x :: l => by
    rw [List.filterMap_cons, List.filter_cons, filterMap_if p f l]
    cases h : p x <;> simp
theorem c_own_changes (T : Txt K mg) : Cl P w K mg base 1 "own_changes" ["old", "new"] (FS S_own) := by
  refine cl_fs T.d_own_changes sc_own_changes (fun as r ⟨_, _, e, _⟩ => by rw [e]; rfl) fun f cdv A outer s H vs as r Q Ew hr ha ⟨x, y, e1, hs, cx, cy, lx, ly, e2⟩ q => ?_
  subst e1 e2
  obtain - | ⟨hx, - | ⟨hy, - | -⟩⟩ := ha
  refine ⟨_, (pss_cons (ps_if (pt_cmpR op_eq (pe_ix ix_tup (pv 0) pe_int (fun _ _ => rfl)) pe_str (nomark _)) (pss_cons (ps_if (pt_cmpR op_eq (pe_ix ix_tup (pv 0) pe_int (fun _ _ => rfl)) (pe_ix ix_tup (pv 1) pe_int (fun _ _ => rfl)) (nomark _)) (pss_one (ps_ret (pe_lst pa_nil))) pss_nil)
      (pss_one (ps_ret (pe_lst (pa_cons (pe_tup (pa_cons pe_str (pa_cons (pe_ix ix_tup (pv 0) pe_int (fun _ _ => rfl)) (pa_cons (pe_ix ix_tup (pv 1) pe_int (fun _ _ => rfl)) pa_nil)))) pa_nil))))) pss_nil)
      (pss_cons (ps_set (i := 2) sc_own_changes.nd rfl (Or.inr rfl) (pe_lc (own := [("name", 4), ("_", 5)]) (g := (gTup K 2 (gCons (gName 4) (gCons (gName 5) gNil)))) (tt := tYes) (te := (tVar 4)) rfl sc_own_changes.nd (pi_tup (pe_ix ix_tup (pv 1) pe_int (fun _ _ => rfl))) (blkOk_by (own := [("name", 4), ("_", 5)]) (N := ["old", "new", "names", "found", "name", "_", "text"]) (sc := defScope s_own_changes) (by decide +kernel)) (fun _ _ _ _ _ => (pg_tup (by rfl) (pgs_cons (pg_name (i := 4) sc_own_changes.nd rfl (Or.inl rfl)) (pgs_cons (pg_name (i := 5) sc_own_changes.nd rfl (Or.inl rfl)) pgs_nil)))) (fun _ _ _ _ _ => pts_nil) (fun _ _ _ _ _ => (pv 4))))
      (pss_cons (ps_setLc (i := 3) (own := [("name", 4), ("_", 5)]) (g := (gTup K 2 (gCons (gName 4) (gCons (gName 5) gNil)))) (tt := (tTest (tOp (rIn K true) (tVar 4) (tVar 2)))) (te := (tTup (tCons (tC _) (tCons (tOp (rIxT K) (tVar 0) (tC _)) (tCons (tVar 4) tNil))))) rfl sc_own_changes.nd rfl rfl (sw_true rfl rfl rfl (by decide +kernel)) (pi_tup (pe_ix ix_tup (pv 0) pe_int (fun _ _ => rfl))) (blkOk_by (own := [("name", 4), ("_", 5)]) (N := ["old", "new", "names", "found", "name", "_", "text"]) (sc := defScope s_own_changes) (by decide +kernel)) (fun _ _ _ _ _ => (pg_tup (by rfl) (pgs_cons (pg_name (i := 4) sc_own_changes.nd rfl (Or.inl rfl)) (pgs_cons (pg_name (i := 5) sc_own_changes.nd rfl (Or.inl rfl)) pgs_nil)))) (fun _ _ _ _ _ => (pts_one (pt_cmpR op_notIn_seq (pv 4) (pv 2) rfl))) (fun _ _ _ _ _ => (pe_tup (pa_cons pe_str (pa_cons (pe_ix ix_tup (pv 0) pe_int (fun _ _ => rfl)) (pa_cons (pv 4) pa_nil))))))
      (pss_one (ps_ret (pe_op op_cat (pv 3) (pe_lc (own := [("name", 4), ("text", 6)]) (g := (gTup K 2 (gCons (gName 4) (gCons (gName 6) gNil)))) (tt := (tTest (tOp (rNotInDT K) (tTup (tCons (tVar 4) (tCons (tVar 6) tNil))) (tOp (rIxT K) (tVar 0) (tC _))))) (te := (tTup (tCons (tC _) (tCons (tOp (rIxT K) (tVar 0) (tC _)) (tCons (tVar 4) (tCons (tVar 6) tNil)))))) rfl sc_own_changes.nd (pi_tup (pe_ix ix_tup (pv 1) pe_int (fun _ _ => rfl))) (blkOk_by (own := [("name", 4), ("text", 6)]) (N := ["old", "new", "names", "found", "name", "_", "text"]) (sc := defScope s_own_changes) (by decide +kernel)) (fun _ _ _ _ _ => (pg_tup (by rfl) (pgs_cons (pg_name (i := 4) sc_own_changes.nd rfl (Or.inl rfl)) (pgs_cons (pg_name (i := 6) sc_own_changes.nd rfl (Or.inl rfl)) pgs_nil)))) (fun _ _ _ _ _ => (pts_one (pt_cmpR (op_notInDT (hu_in hr)) (pe_tup (pa_cons (pv 4) (pa_cons (pv 6) pa_nil))) (pe_ix ix_tup (pv 0) pe_int (fun _ _ => rfl)) rfl))) (fun _ _ _ _ _ => (pe_tup (pa_cons pe_str (pa_cons (pe_ix ix_tup (pv 0) pe_int (fun _ _ => rfl)) (pa_cons (pv 4) (pa_cons (pv 6) pa_nil))))))))))))), ?_⟩
  cases x with
  | text i s' =>
    cases y with
    | elem => simp [sameN] at hs
    | text j s2 =>
      rw [eN_text] at hx hy
      refine q_if (et_eqS (e_ixT 0 (e_var rfl hx) e_int rfl) e_str) (fun _ H1 e1 => ?_) (fun h => absurd h (by decide +kernel))
      refine q_when (et_eqS (e_ixT 2 (e_var rfl (Tp.mono (tx_of e1) hx)) e_int rfl) (e_ixT 2 (e_var rfl (Tp.mono (tx_of e1) hy)) e_int rfl)) (fun h H2 e2 => ?_) fun h H2 e2 => ?_
      · have h' := of_decide_eq_true h
        refine s_ret (e_lst (ds := []) ea_nil) fun v H3 e3 hv => q v H3 ((e1.trans e2).trans e3) ?_
        rw [own, if_pos h']
        exact hv.back (e1.trans e2)
      · have h' := of_decide_eq_false h
        have e12 := tx_of (e1.trans e2)
        refine s_ret (e_lst (ds := [.tuple [.str "text", .int i, .str s2]]) (ea_cons (E.o (e_tup (ds := [.str "text", .int i, .str s2]) (ea_cons (E.o e_str) (ea_cons (E.o (e_ixT 1 (e_var rfl (Tp.mono e12 hx)) e_int rfl)) (ea_cons (E.o (e_ixT 2 (e_var rfl (Tp.mono e12 hy)) e_int rfl)) ea_nil))))) ea_nil)) fun v H3 e3 hv => q v H3 ((e1.trans e2).trans e3) ?_
        rw [own, if_neg h']
        exact hv.back (e1.trans e2)
  | elem i t a k =>
    cases y with
    | text => simp [sameN] at hs
    | elem j t2 a2 k2 =>
      rw [eN_elem] at hx hy
      have cax := (cn_elem cx).1
      have cay := (cn_elem cy).1
      simp only [AtN] at lx ly
      refine q_if (et_eqS (e_ixT 0 (e_var rfl hx) e_int rfl) e_str) (fun h => absurd h (by decide +kernel)) fun _ H1 e1 => ?_
      have hx1 := Tp.mono (tx_of e1) hx
      have hy1 := Tp.mono (tx_of e1) hy
      -- names
      refine q_asg (E.is (e_lcT (enc := eP) (xs := a2) (fun p => some (PyData.str p.1)) (e_ixT 3 (e_var rfl hy1) e_int rfl) (by omega) (fun p _ v H2 _ hv Q' k' => g_pair hv (k' _ H2 (Same.refl H2) rfl ⟨true, et_yes, _, rfl, e_var rfl (Tp.str p.1)⟩))) (r' := .l ((a2.map (·.1)).map .str)) (by rw [filterMap_some, List.map_map]; rfl)) fun v H2 e2 hv => ?_
      obtain ⟨ln, rfl, _, hln⟩ := hv
      have e12 := e1.trans e2
      have hx2 := Tp.mono (tx_of e12) hx
      have hy2 := Tp.mono (tx_of e12) hy
      -- the unsets
      refine q_asg (E.is (e_lcT (enc := eP) (xs := a) (fun p => if (!(a2.map (·.1)).contains p.1) = true then some (eOp (.unset i p.1)) else none) (e_ixT 3 (e_var rfl hx2) e_int rfl) (by omega) (fun p _ v H3 e3 hv Q' k' => g_pair hv (k' _ H3 (Same.refl H3) rfl ⟨_, et_niS (e_var rfl (Tp.str p.1)) (eo_lst rfl (hln.mono e3)), ?_⟩))) (r' := .l (((a.filter fun p => !(a2.map (·.1)).contains p.1).map fun p => Op.unset i p.1).map eOp)) (by rw [filterMap_if (fun p : Str × Str => !(a2.map (·.1)).contains p.1) (fun p => eOp (.unset i p.1)), List.map_map]; rfl)) fun v H3 e3 hv => ?_
      · cases hc : (!(a2.map (·.1)).contains p.1) with
        | true =>
          rw [if_pos rfl]
          exact ⟨_, if_pos rfl, e_tup (ds := [.str "unset", .int i, .str p.1]) (ea_cons (E.o e_str) (ea_cons (E.o (e_ixT 1 (e_var rfl (Tp.mono (tx_of e3) hx2)) e_int rfl)) (ea_cons (E.o (e_var rfl (Tp.str p.1))) ea_nil)))⟩
        | false =>
          rw [if_neg Bool.false_ne_true, if_neg Bool.false_ne_true]
      obtain ⟨lf, rfl, _, hlf⟩ := hv
      have e13 := e12.trans e3
      have hx3 := Tp.mono (tx_of e13) hx
      have hy3 := Tp.mono (tx_of e13) hy
      -- the sets
      refine s_ret (e_cat (eo_lst rfl hlf) (E.o (E.is (e_lcT (enc := eP) (xs := a2) (fun p => if (!a.contains p) = true then some (eOp (.set i p.1 p.2)) else none) (e_ixT 3 (e_var rfl hy3) e_int rfl) (by omega) (fun p hp v H4 e4 hv Q' k' => g_pair hv (k' _ H4 (Same.refl H4) rfl ⟨_, et_notInDT (p := p) (e_tup (ds := [.str p.1, .str p.2]) (ea_cons (E.o (e_var rfl (Tp.str p.1))) (ea_cons (E.o (e_var rfl (Tp.str p.2))) ea_nil))) (e_ixT 3 (e_var rfl (Tp.mono (tx_of e4) hx3)) e_int rfl) (ca_mem cay hp) cax, ?_⟩))) (r' := .l (((a2.filter fun p => !a.contains p).map fun p => Op.set i p.1 p.2).map eOp)) (by rw [filterMap_if (fun p : Str × Str => !a.contains p) (fun p => eOp (.set i p.1 p.2)), List.map_map]; rfl))) ?_) fun v H4 e4 hv => q v H4 (e13.trans e4) ?_
      · cases hc : (!a.contains p) with
        | true =>
          rw [if_pos rfl]
          exact ⟨_, if_pos rfl, e_tup (ds := [.str "set", .int i, .str p.1, .str p.2]) (ea_cons (E.o e_str) (ea_cons (E.o (e_ixT 1 (e_var rfl (Tp.mono (tx_of e4) hx3)) e_int rfl)) (ea_cons (E.o (e_var rfl (Tp.str p.1))) (ea_cons (E.o (e_var rfl (Tp.str p.2))) ea_nil))))⟩
        | false =>
          rw [if_neg Bool.false_ne_true, if_neg Bool.false_ne_true]
      · have h1 := List.length_filter_le (fun p : Str × Str => !(a2.map (·.1)).contains p.1) a
        have h2 := List.length_filter_le (fun p : Str × Str => !a.contains p) a2
        simp only [List.length_map]
        omega
      · rw [own, List.map_append]
        exact hv.back e13
end
end VL

namespace VL
open PySem L2
section
variable {P : Program} {w : World} {K : PySem.W.Frag} {mg : Str → Option Value} {base : Heap}
theorem q_is {H0 H1 H2 : Hp} {v : V} {r : Rs} (e : Same H0 H1) (h : RR H1 H2 v r) : RR H0 H2 v r := h.back e
/-- lengths_from -/
def S_lens : List Rs → Rs → Prop := fun as r => ∃ xs : List Int, as = [.l (eI xs)] ∧ xs.length ≤ 10000 ∧ r = .l (eI (lens xs))
theorem get_int {ns : List Int} {k : Nat} {x : Int} (h : ns[k]? = some x) : (eI ns)[k]? = some (.int x) := by
  rw [List.getElem?_map, h]; rfl
theorem c_lengths_from (T : Txt K mg) : Cl P w K mg base 1 "lengths_from" ["numbers"] (FS S_lens) := by
  refine cl_fs T.d_lengths_from sc_lengths_from (fun as r ⟨_, e, _⟩ => by rw [e]; rfl) fun f cdv A outer s H vs as r Q Ew hr ha ⟨xs, e1, hz, e2⟩ q => ?_
  subst e1 e2
  obtain - | ⟨hx, - | -⟩ := ha
  obtain ⟨px, rfl, hx⟩ := hx
  refine ⟨_, (pss_cons (ps_setLc (i := 1) (own := [("_", 4)]) (g := (gName 4)) (tt := tYes) (te := (tC _)) rfl sc_lengths_from.nd rfl rfl (sw_true rfl rfl rfl (by decide +kernel)) (pi_list (pv 0)) (blkOk_by (own := [("_", 4)]) (N := ["numbers", "lengths", "index", "later", "_"]) (sc := defScope s_lengths_from) (by decide +kernel)) (fun _ _ _ _ _ => (pg_name (i := 4) sc_lengths_from.nd rfl (Or.inl rfl))) (fun _ _ _ _ _ => pts_nil) (fun _ _ _ _ _ => pe_int))
      (pss_cons (ps_for PassesOwn.never rfl (pi_revR rfl T.n_reversed (prg_1 rfl T.n_range (pe_callB call_ln rfl T.n_len bt_len (pa_cons (pv 0) pa_nil)))) (pg_name (i := 2) sc_lengths_from.nd rfl (Or.inl rfl)) (pss_one (ps_for PassesOwn.never rfl (pi_range2 rfl T.n_range (pa_cons (pe_op op_add (pv 2) pe_int) (pa_cons (pe_callB call_ln rfl T.n_len bt_len (pa_cons (pv 0) pa_nil)) pa_nil))) (pg_name (i := 3) sc_lengths_from.nd rfl (Or.inl rfl)) (pss_one (ps_if (pt_cmpR op_gt (pe_ix ix_list (pv 0) (pv 3) (fun _ _ => rfl)) (pe_ix ix_list (pv 0) (pv 2) (fun _ _ => rfl)) (nomark _)) (pss_one (ps_asg (pe_callB (call_mx rfl) rfl T.n_max bt_max (pa_cons (pe_ix ix_list (pv 1) (pv 2) (fun _ _ => rfl)) (pa_cons (pe_op op_add (pe_ix ix_list (pv 1) (pv 3) (fun _ _ => rfl)) pe_int) pa_nil))) (pg_sub (pv 1) (pv 2) set_list))) pss_nil)))))
      (pss_one (ps_ret (pv 1))))), ?_⟩
  refine q_asg (E.is (e_lcL (enc := PyData.int) (xs := xs) (fun _ => some (PyData.int 1)) (eo_lst rfl hx) (by omega) (fun p _ v H2 _ hv Q' k' => k' _ H2 (Same.refl H2) rfl ⟨true, et_yes, _, rfl, e_int⟩)) (r' := .l (eI (List.replicate xs.length 1))) (by rw [filterMap_some, List.map_const']; simp)) fun v H1 e1 hv => ?_
  obtain ⟨l, rfl, hlc⟩ := lc_of (Same.refl H) e1 hv
  refine q_revR (e_lenL (eo_lst rfl (hx.mono e1))) (by rw [List.length_map]; omega) fun H2 e2 => ⟨fun k σ' H' => ∃ v2 v3 v4, σ' = [some (.ref px), some (.ref l), v2, v3, v4] ∧ k ≤ xs.length ∧ Lc H H' l (eI (List.replicate k 1 ++ lens (xs.drop k))), ⟨_, _, _, rfl, by rw [List.length_map]; omega, ?_⟩, ?_, ?_⟩
  · rw [List.length_map, List.drop_length, lens, List.append_nil]
    exact hlc.same e2
  · rintro k σ' H' hk ⟨v2, v3, v4, rfl, hk1, hlc'⟩
    rw [List.length_map] at hk
    obtain ⟨x, r, hd⟩ : ∃ x r, xs.drop k = x :: r := ⟨xs[k], xs.drop (k + 1), List.drop_eq_getElem_cons hk⟩
    have hr1 : xs.drop (k + 1) = r := by rw [List.drop_eq_getElem_cons hk, List.cons.injEq] at hd; exact hd.2
    have hxk : xs[k]? = some x := by rw [List.drop_eq_getElem_cons hk, List.cons.injEq] at hd; rw [List.getElem?_eq_getElem hk, hd.1]
    have hrl : r.length = xs.length - (k + 1) := by rw [← hr1, List.length_drop]
    have hll : (lens r).length = r.length := lens_len r
    rw [hr1] at hlc'
    -- later: k + 1 ..
    have er : List.replicate (k + 1) (1 : Int) ++ lens r = List.replicate k 1 ++ (1 :: lens r) := by rw [List.replicate_succ', List.append_assoc]; rfl
    rw [er] at hlc'
    have e0 : ((k : Nat) : Int) + 1 = ((k + 1 : Nat) : Int) := by omega
    have e1 : ((xs.map PyData.int).length : Int) = ((k + 1 + r.length : Nat) : Int) := by rw [List.length_map]; omega
    refine s_rng2 (lo := k + 1) (n := r.length) (ea_cons (E.o (E.is (e_opI (g := fun i j => i + j) (e_var rfl (Tp.int _)) e_int) (by rw [e0]))) (ea_cons (E.o (E.is (e_lenL (eo_lst rfl (hx.mono hlc'.2.1))) (by rw [e1]))) ea_nil)) (by omega) fun H3 e3 =>
      ⟨fun i σ' H' => ∃ v3 v4, σ' = [some (.ref px), some (.ref l), some (.int (k : Int)), v3, v4] ∧ Lc H H' l (eI (List.replicate k 1 ++ (lenAt x (r.take i) ((lens r).take i) 1 :: lens r))), ⟨_, _, rfl, by simpa [lenAt] using hlc'.same e3⟩, ?_, ?_⟩
    · rintro i σ' H' hi ⟨v3, v4, rfl, hlc3⟩
      obtain ⟨y, hy⟩ : ∃ y, r[i]? = some y := ⟨r[i], List.getElem?_eq_getElem hi⟩
      obtain ⟨m, hm⟩ : ∃ m, (lens r)[i]? = some m := ⟨(lens r)[i]'(by omega), List.getElem?_eq_getElem _⟩
      have hxy : xs[k + 1 + i]? = some y := by rw [← List.getElem?_drop, hr1]; exact hy
      have hx3 := hx.mono hlc3.2.1
      have step : lenAt x (r.take (i + 1)) ((lens r).take (i + 1)) 1 = if y > x then (if m + 1 > lenAt x (r.take i) ((lens r).take i) 1 then m + 1 else lenAt x (r.take i) ((lens r).take i) 1) else lenAt x (r.take i) ((lens r).take i) 1 := by
        rw [List.take_add_one, List.take_add_one, hy, hm]
        exact lenAt_snoc x _ _ y m 1 (by rw [List.length_take, List.length_take]; omega)
      refine s_if (et_cmpI (g := fun i j => decide (j < i)) (e_ixL (k + 1 + i) (eo_lst rfl hx3) (e_var rfl (Tp.int _)) (get_int hxy)) (e_ixL k (eo_lst rfl hx3) (e_var rfl (Tp.int _)) (get_int hxk))) (fun h1 H4 e4 => ?_) fun h1 H4 e4 => ?_
      · have h1' : x < y := of_decide_eq_true h1
        have hlc4 := hlc3.same e4
        have g1 : (List.replicate k (1 : Int) ++ (lenAt x (r.take i) ((lens r).take i) 1 :: lens r))[k]? = some (lenAt x (r.take i) ((lens r).take i) 1) := by
          rw [List.getElem?_append_right (by simp)]; simp
        have g2 : (List.replicate k (1 : Int) ++ (lenAt x (r.take i) ((lens r).take i) 1 :: lens r))[k + 1 + i]? = some m := by
          rw [List.getElem?_append_right (by rw [List.length_replicate]; omega), List.length_replicate]
          have : k + 1 + i - k = i + 1 := by omega
          rw [this, List.getElem?_cons_succ]
          exact hm
        refine s_setL (k := k) rfl hlc4 (by rw [List.length_map, List.length_append, List.length_replicate, List.length_cons]; omega) (e_mx (e_ixL k (eo_lst rfl hlc4.2.2) (e_var rfl (Tp.int _)) (get_int g1)) (e_opI (g := fun i j => i + j) (e_ixL (k + 1 + i) (eo_lst rfl hlc4.2.2) (e_var rfl (Tp.int _)) (get_int g2)) e_int)) (e_var rfl (Tp.int _)) fun H5 hlc5 tx5 => ?_
        refine ⟨_, _, rfl, ?_⟩
        rw [step, if_pos (show y > x from h1')]
        have es : (eI (List.replicate k (1 : Int) ++ (lenAt x (r.take i) ((lens r).take i) 1 :: lens r))).set k (.int (if m + 1 > lenAt x (r.take i) ((lens r).take i) 1 then m + 1 else lenAt x (r.take i) ((lens r).take i) 1)) = eI (List.replicate k 1 ++ ((if m + 1 > lenAt x (r.take i) ((lens r).take i) 1 then m + 1 else lenAt x (r.take i) ((lens r).take i) 1) :: lens r)) := by
          rw [← List.map_set]
          congr 1
          rw [List.set_append_right _ _ (by simp)]
          simp
        rw [← es]
        exact hlc5
      · have h1' : ¬ x < y := of_decide_eq_false h1
        refine ⟨_, _, rfl, ?_⟩
        rw [step, if_neg (show ¬ y > x from h1')]
        exact hlc3.same e4
    · rintro σ' H' ⟨v3, v4, rfl, hlc3⟩
      refine ⟨_, _, _, rfl, by omega, ?_⟩
      rw [hd, lens]
      rw [List.take_length, List.take_of_length_le (by omega)] at hlc3
      exact hlc3
  · rintro σ' H' ⟨v2, v3, v4, rfl, _, hlc'⟩
    rw [List.drop_zero, List.replicate_zero, List.nil_append] at hlc'
    exact s_retO rfl (q _ H' hlc'.2.1 hlc'.rr)

/-- best_row -/
def S_best : List Rs → Rs → Prop := fun as r => ∃ xs : List Int, as = [.l (eI xs)] ∧ xs.length ≤ 10000 ∧ r = .l (eI (best xs))
theorem canLay_ints : ∀ ns : List Int, PyData.canLayAll0 (eI ns) = true
  | [] => by simp [PyData.canLayAll0]
  | n :: ns => by
    show PyData.canLayAll0 (.int n :: eI ns) = true
    rw [PyData.canLayAll0, canLay_ints ns]
    simp [PyData.canLay0]
theorem depth_ints : ∀ ns : List Int, PyData.depthAll (eI ns) = 0
  | [] => by simp [PyData.depthAll]
  | n :: ns => by
    show PyData.depthAll (.int n :: eI ns) = 0
    rw [PyData.depthAll, depth_ints ns]
    simp [PyData.depth]
theorem shaped_ints (ns : List Int) : SeqAt.shaped (.list (eI ns)) = true := by
  unfold SeqAt.shaped
  rw [PyData.canLay0, canLay_ints, PyData.depth, depth_ints]
  rfl
theorem eqv_nil (ns : List Int) : PyData.eqv (.list (eI ns)) (.list []) = ns.isEmpty := by
  cases ns <;> simp [PyData.eqv, PyData.eqvAll]
theorem above_eq (row : List Int) (x : Int) (m : Int) (hm : row ≠ [] → row.getLast? = some m) : (row.isEmpty || decide (m < x)) = above row x := by
  unfold above
  cases row with
  | nil => rfl
  | cons y r => rw [hm (by simp)]; rfl
theorem pick_drop {xs ls : List Int} {k : Nat} {x m w : Int} {row : List Int} (hx : xs[k]? = some x) (hm : ls[k]? = some m) : pick (xs.drop k) (ls.drop k) w row = if (decide (m = w) && above row x) = true then pick (xs.drop (k + 1)) (ls.drop (k + 1)) (w - 1) (row ++ [x]) else pick (xs.drop (k + 1)) (ls.drop (k + 1)) w row := by
  obtain ⟨h1, e1⟩ := List.getElem?_eq_some_iff.mp hx
  obtain ⟨h2, e2⟩ := List.getElem?_eq_some_iff.mp hm
  rw [List.drop_eq_getElem_cons h1, List.drop_eq_getElem_cons h2, e1, e2, pick]
theorem c_best_row (T : Txt K mg) : Cl P w K mg base 2 "best_row" ["numbers"] (FS S_best) := by
  have C_lengths_from := c_lengths_from (P := P) (w := w) (base := base) T
  refine cl_fs T.d_best_row sc_best_row (fun as r ⟨_, e, _⟩ => by rw [e]; rfl) fun f cdv A outer s H vs as r Q Ew hr ha ⟨xs, e1, hz, e2⟩ q => ?_
  subst e1 e2
  obtain - | ⟨hx, - | -⟩ := ha
  obtain ⟨px, rfl, hx⟩ := hx
  refine ⟨_, (pss_cons (ps_set (i := 1) sc_best_row.nd rfl (Or.inl rfl) (pe_cl C_lengths_from (hr.mono (by omega)) rfl (pa_cons (pv 0) pa_nil)))
      (pss_cons (ps_set (i := 2) sc_best_row.nd rfl (Or.inl rfl) (pe_callB (cr_max rfl) rfl T.n_max bt_max (pa_cons (pe_op op_cat (pe_lst (pa_cons pe_int pa_nil)) (pv 1)) pa_nil)))
      (pss_cons (ps_set (i := 3) sc_best_row.nd rfl (Or.inl rfl) (pe_lst pa_nil))
      (pss_cons (ps_for PassesOwn.never rfl (pi_enum rfl T.n_enumerate (pa_cons (pv 0) pa_nil)) (pg_tup rfl (pgs_cons (pg_name (i := 4) sc_best_row.nd rfl (Or.inl rfl)) (pgs_cons (pg_name (i := 5) sc_best_row.nd rfl (Or.inl rfl)) pgs_nil))) (pss_one (ps_if (PW.pt (pw_and (pt_cmpR op_eq (pe_ix ix_list (pv 1) (pv 4) (fun _ _ => rfl)) (pv 2) (nomark _)) (pw_and1 (PW.pt (pw_or (pt_cmpR (op_eqD hr.units) (pv 3) (pe_lst pa_nil) (nomark _)) (pw_or1 (pt_cmpR op_gt (pv 5) (pe_ix ix_list (pv 3) (pe_un un_neg pe_int) (fun _ _ => rfl)) (nomark _)))))))) (pss_cons (ps_expr (pe_bm PySem.F.plainAttrs_list PySem.F.slot_list_append PySem.F.type_list_append mt_append (pv 3) (pa_cons (pv 5) pa_nil)))
      (pss_one (ps_set (i := 2) sc_best_row.nd rfl (Or.inl rfl) (pe_op op_sub (pv 2) pe_int)))) pss_nil)))
      (pss_one (ps_ret (pv 3))))))), ?_⟩
  refine q_asg (e_call (r := .l (eI (lens xs))) (ea_cons (eo_lst rfl hx) ea_nil) ⟨xs, rfl, hz, rfl⟩) fun v H1 e1 hv => ?_
  obtain ⟨pl, rfl, hl⟩ := lc_of (Same.refl H) e1 hv
  have hll := lens_len xs
  obtain ⟨f1, f2⟩ := foldMax (lens xs) 0
  refine q_asg (e_max (ns := 0 :: lens xs) (E.o (E.is (e_cat (xs := [.int 0]) (ys := eI (lens xs)) (E.o (e_lst (ds := [.int 0]) (ea_cons (E.o e_int) ea_nil))) (eo_lst rfl hl.2.2) (by rw [List.length_map, hll]; simp only [List.length_cons, List.length_nil]; omega)) rfl)) f1 f2) fun v H2 e2 hv => ?_
  obtain rfl := Tp.int_inv hv
  have e12 := e1.trans e2
  refine q_new (Same.refl H2) fun l H3 e3 hlc => ?_
  have hx2 := hx.mono e12
  have hl2 := hl.2.2.mono e2
  refine q_enum (H0 := H2) (xs := eI xs) (p := px) rfl hx2 (fun k σ' H' => ∃ (wd : Int) (row : List Int) (v4 v5 : Option V), σ' = [some (.ref px), some (.ref pl), some (.int wd), some (.ref l), v4, v5] ∧ Lc H2 H' l (eI row) ∧ row.length ≤ k ∧ pick (xs.drop k) ((lens xs).drop k) wd row = best xs)
    ⟨_, [], _, _, rfl, hlc, Nat.le_refl _, rfl⟩ (fun k σ' H' ⟨wd, row, v4, v5, _, h1, _⟩ => ⟨h1.tx, fun vs hv => h1.2.1 _ _ hv⟩) ?_ ?_
  · rintro k x u σ' H' H4 hxk ⟨wd, row, v4, v5, rfl, hlc', hk, hp⟩ e4 hu
    rw [List.getElem?_map] at hxk
    cases ex : xs[k]? with
    | none => rw [ex] at hxk; cases hxk
    | some z =>
      rw [ex] at hxk
      have exz : PyData.int z = x := Option.some.inj hxk
      subst exz
      obtain rfl := Tp.int_inv hu
      have hkl := (List.getElem?_eq_some_iff.mp ex).1
      obtain ⟨m, hm⟩ : ∃ m, (lens xs)[k]? = some m := ⟨(lens xs)[k]'(by omega), List.getElem?_eq_getElem _⟩
      rw [pick_drop ex hm] at hp
      have hlc4 := hlc'.same e4
      have hL := hl2.mono hlc4.2.1
      refine s_if (b := decide (m = wd) && above row z) (et_and (et_eqI (e_ixL k (eo_lst rfl hL) (e_var rfl (Tp.int _)) (get_int hm)) (e_var rfl (Tp.int _))) fun _ => ?_) (fun h1 H5 e5 => ?_) fun h1 H5 e5 => ?_
      · cases hr : row.getLast? with
        | none =>
          have er : row = [] := List.getLast?_eq_none_iff.mp hr
          subst er
          exact ET.is (et_or (b' := true) (et_eqL (eo_lst rfl hlc4.2.2) (E.o (e_lst (ds := []) ea_nil)) (shaped_ints []) (shaped_ints [])) (fun z => absurd z (by simp [PyData.eqv, PyData.eqvAll]))) (by simp [above, PyData.eqv, PyData.eqvAll])
        | some y =>
          refine ET.is (et_or (et_eqL (eo_lst rfl hlc4.2.2) (E.o (e_lst (ds := []) ea_nil)) (shaped_ints row) (shaped_ints [])) (fun _ => et_cmpI (g := fun i j => decide (j < i)) (e_var rfl (Tp.int z)) (e_last (eo_lst rfl hlc4.2.2) hr))) ?_
          rw [eqv_nil]
          exact above_eq row z y fun _ => hr
      · rw [h1, if_pos rfl] at hp
        refine q_push rfl (hlc4.same e5) (by rw [List.length_map]; omega) (e_var rfl (Tp.int z)) fun H6 hlc6 tx6 => ?_
        refine s_asg (e_opI (g := fun i j => i - j) (e_var rfl (Tp.int wd)) e_int) fun v H7 e7 hv => ?_
        obtain rfl := Tp.int_inv hv
        refine ⟨_, row ++ [z], _, _, rfl, ?_, by rw [List.length_append, List.length_cons, List.length_nil]; omega, hp⟩
        have := hlc6.same e7
        simpa using this
      · rw [h1, if_neg Bool.false_ne_true] at hp
        exact ⟨_, row, _, _, rfl, hlc4.same e5, by omega, hp⟩
  · rintro σ' H' ⟨wd, row, v4, v5, rfl, hlc', hk, hp⟩
    rw [List.length_map, List.drop_length] at hp
    have ep : row = best xs := by
      rw [← hp]
      cases (lens xs).drop xs.length <;> rfl
    rw [← ep] at q
    exact s_retO rfl (q _ H' (e12.trans hlc'.2.1) (hlc'.rr.back e12))

/-- placings -/
def S_placings : List Rs → Rs → Prop := fun as r => ∃ (p : Int) (old new : List Node), as = [.d (.int p), .d (eD old), .d (eD new)] ∧ old.length ≤ 10000 ∧ new.length ≤ 10000 ∧ r = .l ((placings p old new).map eOp)
theorem places_in {kept : List Int} {new : List Node} {k : Int} (h : k ∈ best (places kept new)) : ∃ n : Nat, k = (n : Int) ∧ kept[n]? = some (kept.getD k.toNat 0) := by
  have hm := (best_sub _).subset h
  unfold places at hm
  obtain ⟨x, hx, rfl⟩ := List.mem_map.mp hm
  have hc : x.id ∈ kept := by simpa using (List.mem_filter.mp hx).2
  have hlt := List.idxOf_lt_length_of_mem hc
  refine ⟨_, rfl, ?_⟩
  rw [Int.toNat_natCast, List.getD_eq_getElem?_getD, List.getElem?_eq_getElem hlt]
  rfl
theorem c_placings (T : Txt K mg) : Cl P w K mg base 3 "placings" ["parent", "old", "new"] (FS S_placings) := by
  have C_partner_in := c_partner_in (P := P) (w := w) (base := base) T
  have C_best_row := c_best_row (P := P) (w := w) (base := base) T
  refine cl_fs T.d_placings sc_placings (fun as r ⟨_, _, _, e, _⟩ => by rw [e]; rfl) fun f cdv A outer s H vs as r Q Ew hr ha ⟨p, old, new, e1, ho1, hn1, e2⟩ q => ?_
  subst e1 e2
  obtain - | ⟨hp, - | ⟨ho, - | ⟨hn, - | -⟩⟩⟩ := ha
  refine ⟨_, (pss_cons (ps_set (i := 4) sc_placings.nd rfl (Or.inr rfl) (pe_lc (own := [("node", 3)]) (g := (gName 3)) (tt := (tTest (tOp rNotN (tCall _ [] E0 (tCons (tVar 2) (tCons (tVar 3) tNil))) (tC .non)))) (te := (tOp (rIxT K) (tVar 3) (tC _))) rfl sc_placings.nd (pi_tup (pv 1)) (blkOk_by (own := [("node", 3)]) (N := ["parent", "old", "new", "node", "kept", "places", "staying", "found", "ahead", "place"]) (sc := defScope s_placings) (by decide +kernel)) (fun _ _ _ _ _ => (pg_name (i := 3) sc_placings.nd rfl (Or.inl rfl))) (fun _ _ _ _ _ => (pts_one (pt_cmpR op_notN1 (pe_cl C_partner_in (hr.mono (by omega)) rfl (pa_cons (pv 2) (pa_cons (pv 3) pa_nil))) pe_non (nomark _)))) (fun _ _ _ _ _ => (pe_ix ix_tup (pv 3) pe_int (fun _ _ => rfl)))))
      (pss_cons (ps_setLc (i := 5) (own := [("node", 3)]) (g := (gName 3)) (tt := (tTest (tOp (rIn K false) (tOp (rIxT K) (tVar 3) (tC _)) (tVar 4)))) (te := (tBM K "list" (rIndex K) (tVar 4) (tCons (tOp (rIxT K) (tVar 3) (tC _)) tNil))) rfl sc_placings.nd rfl rfl (sw_true rfl rfl rfl (by decide +kernel)) (pi_tup (pv 2)) (blkOk_by (own := [("node", 3)]) (N := ["parent", "old", "new", "node", "kept", "places", "staying", "found", "ahead", "place"]) (sc := defScope s_placings) (by decide +kernel)) (fun _ _ _ _ _ => (pg_name (i := 3) sc_placings.nd rfl (Or.inl rfl))) (fun _ _ _ _ _ => (pts_one (pt_cmpR op_in_seq (pe_ix ix_tup (pv 3) pe_int (fun _ _ => rfl)) (pv 4) rfl))) (fun _ _ _ _ _ => (pe_bm PySem.F.plainAttrs_list PySem.F.slot_list_index PySem.F.type_list_index mt_index (pv 4) (pa_cons (pe_ix ix_tup (pv 3) pe_int (fun _ _ => rfl)) pa_nil))))
      (pss_cons (ps_setLc (i := 6) (own := [("place", 9)]) (g := (gName 9)) (tt := tYes) (te := (tOp (rIxL K) (tVar 4) (tVar 9))) rfl sc_placings.nd rfl rfl (sw_true rfl rfl rfl (by decide +kernel)) (pi_list (pe_cl C_best_row (hr.mono (by omega)) rfl (pa_cons (pv 5) pa_nil))) (blkOk_by (own := [("place", 9)]) (N := ["parent", "old", "new", "node", "kept", "places", "staying", "found", "ahead", "place"]) (sc := defScope s_placings) (by decide +kernel)) (fun _ _ _ _ _ => (pg_name (i := 9) sc_placings.nd rfl (Or.inl rfl))) (fun _ _ _ _ _ => pts_nil) (fun _ _ _ _ _ => (pe_ix ix_list (pv 4) (pv 9) (fun _ _ => rfl))))
      (pss_cons (ps_set (i := 7) sc_placings.nd rfl (Or.inl rfl) (pe_lst pa_nil))
      (pss_cons (ps_set (i := 8) sc_placings.nd rfl (Or.inl rfl) pe_non)
      (pss_cons (ps_for PassesOwn.never rfl (RT.pi_revA rfl T.n_reversed (pv 2)) (pg_name (i := 3) sc_placings.nd rfl (Or.inl rfl)) (pss_cons (ps_if (pt_cmpR op_notIn_seq (pe_ix ix_tup (pv 3) pe_int (fun _ _ => rfl)) (pv 4) rfl) (pss_one (ps_expr (pe_bm PySem.F.plainAttrs_list PySem.F.slot_list_append PySem.F.type_list_append mt_append (pv 7) (pa_cons (pe_tup (pa_cons pe_str (pa_cons (pv 0) (pa_cons (pv 3) (pa_cons (pv 8) pa_nil))))) pa_nil)))) (pss_one (ps_if (pt_cmpR op_notIn_seq (pe_ix ix_tup (pv 3) pe_int (fun _ _ => rfl)) (pv 6) rfl) (pss_one (ps_expr (pe_bm PySem.F.plainAttrs_list PySem.F.slot_list_append PySem.F.type_list_append mt_append (pv 7) (pa_cons (pe_tup (pa_cons pe_str (pa_cons (pv 0) (pa_cons (pe_ix ix_tup (pv 3) pe_int (fun _ _ => rfl)) (pa_cons (pv 8) pa_nil))))) pa_nil)))) pss_nil)))
      (pss_one (ps_set (i := 8) sc_placings.nd rfl (Or.inl rfl) (pe_ix ix_tup (pv 3) pe_int (fun _ _ => rfl))))))
      (pss_one (ps_ret (pv 7))))))))), ?_⟩
  obtain rfl := Tp.int_inv hp
  -- kept
  refine q_asg (E.is (e_lcT (enc := eN) (xs := old) (fun n => if (partner new n).isSome = true then some (PyData.int n.id) else none) (e_var rfl ho) (by omega) (fun n _ v H2 e2 hv Q' k' => k' _ H2 (Same.refl H2) rfl ?_)) (r' := .l (eI (keptHere old new))) (by rw [filterMap_if (fun n => (partner new n).isSome) (fun n : Node => PyData.int n.id)]; unfold keptHere; show Rs.l _ = Rs.l (List.map PyData.int (List.map _ _)); rw [List.map_map]; rfl)) fun v H1 e1 hv => ?_
  · obtain ⟨y, hy, hy1, _⟩ := eN_get n
    have hvn := hv
    rw [hy] at hvn
    refine ⟨_, et_notN (e_call (r := .d (eO (partner new n))) (ea_cons (E.o (e_var rfl (Tp.mono (tx_of e2) hn))) (ea_cons (E.o (e_var rfl hv)) ea_nil)) ⟨new, n, rfl, rfl⟩), ?_⟩
    cases hf : partner new n with
    | none => rfl
    | some z =>
      rw [eO_non]
      exact ⟨_, rfl, e_ixT 1 (e_var rfl hvn) e_int hy1⟩
  obtain ⟨lk, rfl, _, hlk⟩ := hv
  -- places
  have hkl : (keptHere old new).length ≤ 10000 := by
    unfold keptHere
    rw [List.length_map]
    exact Nat.le_trans (List.length_filter_le _ _) ho1
  refine q_asg (E.is (e_lcT (enc := eN) (xs := new) (fun n => if (keptHere old new).contains n.id = true then some (PyData.int (((keptHere old new).idxOf n.id : Nat) : Int)) else none) (e_var rfl (Tp.mono (tx_of e1) hn)) (by omega) (fun n _ v H2 e2 hv Q' k' => k' _ H2 (Same.refl H2) rfl ?_)) (r' := .l (eI (places (keptHere old new) new))) (by rw [filterMap_if (fun n : Node => (keptHere old new).contains n.id) (fun n : Node => PyData.int (((keptHere old new).idxOf n.id : Nat) : Int))]; unfold places; show Rs.l _ = Rs.l (List.map PyData.int (List.map _ _)); rw [List.map_map]; rfl)) fun v H2 e2 hv => ?_
  · obtain ⟨y, hy, hy1, _⟩ := eN_get n
    have hvn := hv
    rw [hy] at hvn
    refine ⟨_, et_yiI (e_ixT 1 (e_var rfl hvn) e_int hy1) (eo_lst rfl (hlk.mono e2)), ?_⟩
    cases hc : (keptHere old new).contains n.id with
    | false => rfl
    | true => exact ⟨_, rfl, e_index (eo_lst rfl (hlk.mono e2)) (e_ixT 1 (e_var rfl hvn) e_int hy1) (List.contains_iff_mem.mp hc)⟩
  obtain ⟨lp, rfl, _, hlp⟩ := hv
  have hpl : (places (keptHere old new) new).length ≤ 10000 := by
    unfold places
    rw [List.length_map]
    exact Nat.le_trans (List.length_filter_le _ _) hn1
  have hbl : (best (places (keptHere old new) new)).length ≤ 10000 := Nat.le_trans (best_sub _).length_le hpl
  have e12 := e1.trans e2
  have hlk2 := hlk.mono e2
  -- staying
  refine q_asg (E.is (e_lcL (enc := PyData.int) (xs := best (places (keptHere old new) new)) (fun k => some (PyData.int ((keptHere old new).getD k.toNat 0))) (E.o (e_call (r := .l (eI (best (places (keptHere old new) new)))) (ea_cons (eo_lst rfl hlp) ea_nil) ⟨_, rfl, hpl, rfl⟩)) (by omega) (fun k hk v H3 e3 hv Q' k' => k' _ H3 (Same.refl H3) rfl ⟨true, et_yes, _, rfl, ?_⟩)) (r' := .l (eI (staying (keptHere old new) new))) (by rw [filterMap_some]; unfold staying; show Rs.l _ = Rs.l (List.map PyData.int (List.map _ _)); rw [List.map_map]; rfl)) fun v H3 e3 hv => ?_
  · obtain ⟨n, rfl, hg⟩ := places_in hk
    exact e_ixL n (eo_lst rfl (hlk2.mono e3)) (e_var rfl hv) (get_int hg)
  obtain ⟨ls, rfl, _, hls⟩ := hv
  have e13 := e12.trans e3
  have hlk3 := hlk2.mono e3
  refine q_new (Same.refl H3) fun l H4 e4 hlc => ?_
  refine q_asg e_non fun v H5 e5 hv => ?_
  obtain rfl := Tp.non_inv hv
  refine q_rev (H0 := H3) (xs := new) rfl (Tp.mono (tx_of e13) hn) (fun todo done σ' H' => ∃ (acc : List Op) (v3 v9 : Option V) (v8 : V) (ah : Option Int), σ' = [some (.int p), some _, some _, v3, some (.ref lk), some (.ref lp), some (.ref ls), some (.ref l), some v8, v9] ∧ Lc H3 H' l (acc.map eOp) ∧ Tp H' v8 (eAh ah) ∧ acc ++ placeGo p (keptHere old new) (staying (keptHere old new) new) todo ah = placings p old new)
    ⟨[], _, _, _, none, rfl, hlc.same e5, .non, rfl⟩ (fun _ _ _ _ ⟨_, _, _, _, _, _, h, _⟩ => h.tx) ?_ ?_
  · rintro todo x done u σ' H' ed ⟨acc, v3, v9, v8, ah, rfl, hlc', h8, hg⟩ hu
    have hal : acc.length ≤ 10000 := by
      have h1 := placings_len p old new
      rw [← hg, List.length_append] at h1
      omega
    rw [placeGo] at hg
    obtain ⟨y, hy, hy1, _⟩ := eN_get x
    have hun := hu
    rw [hy] at hun
    have hk' := hlk3.mono hlc'.2.1
    have hs' := hls.mono hlc'.2.1
    refine q_if (et_niI (e_ixT 1 (e_var rfl hun) e_int hy1) (eo_lst rfl hk')) (fun h1 H6 e6 => ?_) fun h1 H6 e6 => ?_
    · rw [if_pos h1] at hg
      refine s_push rfl (hlc'.same e6) (by rw [List.length_map]; omega) (e_tup (ds := [.str "insert", .int p, eN x, eAh ah]) (ea_cons (E.o e_str) (ea_cons (E.o (e_var rfl (Tp.int p))) (ea_cons (E.o (e_var rfl (Tp.mono (tx_of e6) hu))) (ea_cons (E.o (e_var rfl (h8.mono (tx_of e6)))) ea_nil))))) fun H7 hlc7 tx7 => ?_
      refine s_asg (e_ixT 1 (e_var rfl (Tp.mono ((tx_of e6).trans tx7) hun)) e_int hy1) fun v H8 e8 hv => ?_
      refine ⟨acc ++ [.insert p x ah], _, _, _, some x.id, rfl, ?_, hv, by rw [List.append_assoc]; exact hg⟩
      have := hlc7.same e8
      simpa [eOp] using this
    · rw [if_neg (by rw [h1]; exact Bool.false_ne_true)] at hg
      refine s_if (et_niI (e_ixT 1 (e_var rfl (Tp.mono (tx_of e6) hun)) e_int hy1) (eo_lst rfl (hs'.mono e6))) (fun h2 H7 e7 => ?_) fun h2 H7 e7 => ?_
      · rw [if_pos h2] at hg
        have e67 := e6.trans e7
        refine s_push rfl (hlc'.same e67) (by rw [List.length_map]; omega) (e_tup (ds := [.str "move", .int p, .int x.id, eAh ah]) (ea_cons (E.o e_str) (ea_cons (E.o (e_var rfl (Tp.int p))) (ea_cons (E.o (e_ixT 1 (e_var rfl (Tp.mono (tx_of e67) hun)) e_int hy1)) (ea_cons (E.o (e_var rfl (h8.mono (tx_of e67)))) ea_nil))))) fun H8 hlc8 tx8 => ?_
        refine s_asg (e_ixT 1 (e_var rfl (Tp.mono ((tx_of e67).trans tx8) hun)) e_int hy1) fun v H9 e9 hv => ?_
        refine ⟨acc ++ [.move p x.id ah], _, _, _, some x.id, rfl, ?_, hv, by rw [List.append_assoc]; exact hg⟩
        have := hlc8.same e9
        simpa [eOp] using this
      · rw [if_neg (by rw [h2]; exact Bool.false_ne_true)] at hg
        have e67 := e6.trans e7
        refine s_asg (e_ixT 1 (e_var rfl (Tp.mono (tx_of e67) hun)) e_int hy1) fun v H8 e8 hv => ?_
        exact ⟨acc, _, _, _, some x.id, rfl, hlc'.same (e67.trans e8), hv, hg⟩
  · rintro σ' H' ⟨acc, v3, v9, v8, ah, rfl, hlc', h8, hg⟩
    rw [placeGo, List.append_nil] at hg
    rw [← hg] at q
    exact s_retO rfl (q _ H' (e13.trans hlc'.2.1) (hlc'.rr.back e13))

/-- changes -/
abbrev AL : Attrs → Prop := fun a => a.length ≤ 1000
def S_changes (N : Nat) : List Rs → Rs → Prop := fun as r => ∃ (p : Int) (old new : List Node), as = [.d (.int p), .d (eD old), .d (eD new)] ∧ Lv N old ∧ CL old ∧ CL new ∧ At AL old ∧ At AL new ∧ (ids old).length ≤ 10000 ∧ (ids new).length ≤ 10000 ∧ (changes p old new).length ≤ 40000 ∧ r = .l ((changes p old new).map eOp)
theorem c_changes (T : Txt K mg) : ∀ N : Nat, Cl P w K mg base (N + 4) "changes" ["parent", "old", "new"] (FS (S_changes N)) := by
  intro N
  induction N with
  | zero => exact go 0 (cl_no T.d_changes)
  | succ N ih => exact go (N + 1) ih
where
  go (N : Nat) (C_changes : Cl P w K mg base (N + 3) "changes" ["parent", "old", "new"] (FS (less S_changes N))) : Cl P w K mg base (N + 4) "changes" ["parent", "old", "new"] (FS (S_changes N)) := by
    have C_partner_in := c_partner_in (P := P) (w := w) (base := base) T
    have C_own_changes := c_own_changes (P := P) (w := w) (base := base) T
    have C_placings := c_placings (P := P) (w := w) (base := base) T
    refine cl_fs T.d_changes sc_changes (fun as r ⟨_, _, _, e, _⟩ => by rw [e]; rfl) fun f cdv A outer s H vs as r Q Ew hr ha ⟨p, old, new, e1, hl, co, cn, ao, an, zo, zn, zc, e2⟩ q => ?_
    subst e1 e2
    obtain - | ⟨hp, - | ⟨ho, - | ⟨hn, - | -⟩⟩⟩ := ha
    refine ⟨_, (pss_cons (ps_set (i := 3) sc_changes.nd rfl (Or.inl rfl) (pe_lst pa_nil))
      (pss_cons (ps_for PassesOwn.never rfl (pi_tup (pv 1)) (pg_name (i := 4) sc_changes.nd rfl (Or.inl rfl)) (pss_cons (ps_set (i := 5) sc_changes.nd rfl (Or.inl rfl) (pe_cl C_partner_in (hr.mono (by omega)) rfl (pa_cons (pv 2) (pa_cons (pv 4) pa_nil))))
      (pss_one (ps_if (pt_cmpR op_notN1 (pv 5) pe_non (nomark _)) (pss_cons (ps_set (i := 3) sc_changes.nd rfl (Or.inl rfl) (pe_op op_cat (pv 3) (pe_cl C_own_changes (hr.mono (by omega)) rfl (pa_cons (pv 4) (pa_cons (pv 5) pa_nil)))))
      (pss_one (ps_if (pt_cmpR op_eq (pe_ix ix_tup (pv 4) pe_int (fun _ _ => rfl)) pe_str (nomark _)) (pss_one (ps_set (i := 3) sc_changes.nd rfl (Or.inl rfl) (pe_op op_cat (pv 3) (pe_cl C_changes (hr.mono (by omega)) rfl (pa_cons (pe_ix ix_tup (pv 4) pe_int (fun _ _ => rfl)) (pa_cons (pe_ix ix_tup (pv 4) pe_int (fun _ _ => rfl)) (pa_cons (pe_ix ix_tup (pv 5) pe_int (fun _ _ => rfl)) pa_nil))))))) pss_nil))) pss_nil))))
      (pss_one (ps_ret (pe_op op_cat (pv 3) (pe_cl C_placings (hr.mono (by omega)) rfl (pa_cons (pv 0) (pa_cons (pv 1) (pa_cons (pv 2) pa_nil))))))))), ?_⟩
    have zc2 := zc
    unfold changes at zc2
    rw [List.length_append] at zc2
    have znl := len_ids new
    have zol := len_ids old
    refine q_new (Same.refl H) fun l H1 e1 hlc => ?_
    refine q_forV (H0 := H) (xs := old) rfl ho (fun done todo σ' H' => ∃ l v3 v4, σ' = [some _, some _, some _, some (.ref l), v3, v4] ∧ Lc H H' l ((chgL new done).map eOp)) ⟨l, _, _, rfl, by rw [chgL_nil]; exact hlc⟩ (fun _ _ _ _ ⟨_, _, _, _, h⟩ => h.tx) ?_ ?_
    · rintro done x todo u σ' H' ed ⟨l, v3, v4, rfl, hlc⟩ hu
      have hxo : x ∈ old := by rw [ed]; simp
      have zx : (chgL new (done ++ x :: todo)).length + (placings p old new).length ≤ 40000 := by rw [← ed]; exact zc2
      rw [chgL_append, chgL_cons, chgN_eq, List.length_append, List.length_append] at zx
      refine q_asg (e_call (r := .d (eO (partner new x))) (ea_cons (E.o (e_var rfl (Tp.mono hlc.tx hn))) (ea_cons (E.o (e_var rfl hu)) ea_nil)) ⟨new, x, rfl, rfl⟩) fun v H2 e2 hv => ?_
      have hlc2 := hlc.same e2
      refine s_if (et_notN (e_var rfl hv)) (fun h2 H3 e3 => ?_) fun h2 H3 e3 => ?_
      · cases hf : partner new x with
        | none => rw [hf] at h2; exact absurd h2 (by decide)
        | some z =>
          rw [hf] at hv zx
          have hv' : Tp H2 v (eN z) := hv
          obtain ⟨hz1, hz2⟩ := partner_mem hf
          simp only [List.length_append] at zx
          have hlc3 := hlc2.same e3
          have t3 := tx_of (e2.trans e3)
          refine q_grow rfl hlc3 (E.o (e_call (r := .l ((own x z).map eOp)) (ea_cons (E.o (e_var rfl (Tp.mono t3 hu))) (ea_cons (E.o (e_var rfl (hv'.mono (tx_of e3)))) ea_nil)) ⟨x, z, rfl, by rw [sameN_comm]; exact hz2, cl_mem co hxo, cl_mem cn hz1, at_mem.mp ao x hxo, at_mem.mp an z hz1, rfl⟩)) (by simp only [List.length_map]; omega) fun l4 H4 hlc4 e4 => ?_
          cases x with
          | text i s' =>
            have hut := Tp.mono (t3.trans (tx_of e4)) hu
            rw [eN_text] at hut
            refine s_if (et_eqS (e_ixT 0 (e_var rfl hut) e_int rfl) e_str) (fun z => absurd z (by decide +kernel)) fun _ H5 e5 => ?_
            refine ⟨l4, _, _, rfl, ?_⟩
            rw [chgL_append, chgL_one, chgN_eq, hf]
            have := hlc4.same e5
            simpa using this
          | elem i t a k =>
            cases z with
            | text => simp [sameN] at hz2
            | elem j t2 a2 k2 =>
              have hut := Tp.mono (t3.trans (tx_of e4)) hu
              have hvt := hv'.mono ((tx_of e3).trans (tx_of e4))
              rw [eN_elem] at hut hvt
              refine s_if (et_eqS (e_ixT 0 (e_var rfl hut) e_int rfl) e_str) (fun _ H5 e5 => ?_) fun z => absurd z (by decide +kernel)
              obtain ⟨m, rfl, hm⟩ := hl.mem hxo
              have hox := at_mem.mp ao _ hxo
              have hnz := at_mem.mp an _ hz1
              have kx := kids_len hxo
              have kz := kids_len hz1
              have zx2 : (chgL new done).length + ((own (.elem i t a k) (.elem j t2 a2 k2)).length + (changes i k k2).length + (chgL new todo).length) + (placings p old new).length ≤ 40000 := by
                unfold changes
                exact zx
              have zch : (changes i k k2).length ≤ 40000 := by omega
              refine s_grow rfl (hlc4.same e5) (E.o (e_call (r := .l ((changes i k k2).map eOp)) (ea_cons (E.o (e_ixT 1 (e_var rfl (Tp.mono (tx_of e5) hut)) e_int rfl)) (ea_cons (E.o (e_ixT 4 (e_var rfl (Tp.mono (tx_of e5) hut)) e_int rfl)) (ea_cons (E.o (e_ixT 4 (e_var rfl (Tp.mono (tx_of e5) hvt)) e_int rfl)) ea_nil))) ⟨i, k, k2, rfl, hm, cl_kids (cl_mem co hxo), cl_kids (cl_mem cn hz1), atN_kids hox, atN_kids hnz, by exact Nat.le_trans kx zo, by exact Nat.le_trans kz zn, zch, rfl⟩)) (by simp only [List.length_append, List.length_map]; omega) fun l6 H6 hlc6 e6 => ?_
              refine ⟨l6, _, _, rfl, ?_⟩
              rw [chgL_append, chgL_one, chgN_eq, hf]
              simpa [changes, Node.kids] using hlc6
      · cases hf : partner new x with
        | some z => rw [hf] at h2; exact absurd h2 (by rw [eO_non]; decide)
        | none =>
          refine ⟨l, _, _, rfl, ?_⟩
          rw [chgL_append, chgL_one, chgN_eq, hf]
          simpa using hlc2.same e3
    · rintro σ' H' ⟨l, v3, v4, rfl, hlc⟩
      refine s_ret (e_cat (eo_lst rfl hlc.2.2) (E.o (e_call (r := .l ((placings p old new).map eOp)) (ea_cons (E.o (e_var rfl (Tp.mono hlc.tx hp))) (ea_cons (E.o (e_var rfl (Tp.mono hlc.tx ho))) (ea_cons (E.o (e_var rfl (Tp.mono hlc.tx hn))) ea_nil))) ⟨p, old, new, rfl, by omega, by omega, rfl⟩)) (by simp only [List.length_map]; omega)) fun v H2 e2 hv => q v H2 (hlc.2.1.trans e2) ?_
      rw [← List.map_append] at hv
      exact hv.back hlc.2.1

/-- patch -/
def S_patch (N : Nat) : List Rs → Rs → Prop := fun as r => ∃ old new : List Node, as = [.d (eD old), .d (eD new)] ∧ Lv N old ∧ CL old ∧ CL new ∧ At AL old ∧ At AL new ∧ (ids old).length ≤ 10000 ∧ (ids new).length ≤ 10000 ∧ (changes 0 old new).length ≤ 40000 ∧ r = .l ((patch old new).map eOp)
theorem c_patch (T : Txt K mg) (N : Nat) : Cl P w K mg base (N + 5) "patch" ["old", "new"] (FS (S_patch N)) := by
  have C_removals := c_removals (P := P) (w := w) (base := base) T N
  have C_changes := c_changes (P := P) (w := w) (base := base) T N
  refine cl_fs T.d_patch sc_patch (fun as r ⟨_, _, e, _⟩ => by rw [e]; rfl) fun f cdv A outer s H vs as r Q Ew hr ha ⟨old, new, e1, hl, co, cn, ao, an, zo, zn, zc, e2⟩ q => ?_
  subst e1 e2
  obtain - | ⟨ho, - | ⟨hn, - | -⟩⟩ := ha
  refine ⟨_, (pss_one (ps_ret (pe_op op_cat (pe_cl C_removals (hr.mono (by omega)) rfl (pa_cons pe_int (pa_cons (pv 0) (pa_cons (pv 1) pa_nil)))) (pe_cl C_changes (hr.mono (by omega)) rfl (pa_cons pe_int (pa_cons (pv 0) (pa_cons (pv 1) pa_nil))))))), ?_⟩
  have hrl := remL_len old new 0
  refine s_ret (e_cat (E.o (e_call (r := .l ((remL 0 new old).map eOp)) (ea_cons (E.o e_int) (ea_cons (E.o (e_var rfl ho)) (ea_cons (E.o (e_var rfl hn)) ea_nil))) ⟨0, old, new, rfl, hl, zo, rfl⟩)) (E.o (e_call (r := .l ((changes 0 old new).map eOp)) (ea_cons (E.o e_int) (ea_cons (E.o (e_var rfl ho)) (ea_cons (E.o (e_var rfl hn)) ea_nil))) ⟨0, old, new, rfl, hl, co, cn, ao, an, zo, zn, zc, rfl⟩)) (by simp only [List.length_map]; omega)) fun v H2 e2 hv => q v H2 e2 ?_
  rw [← List.map_append] at hv
  exact hv

/-- is_careful -/
def S_careful (N : Nat) : List Rs → Rs → Prop := fun as r => ∃ (old new : List Node) (ops : List Op), as = [.d (eD old), .d (eD new), .l (ops.map eOp)] ∧ Lv N new ∧ (ids new).length ≤ 10000 ∧ (∀ q i, Op.remove q i ∈ ops → i ∉ keptL old new) ∧
  (∀ q x a, Op.insert q x a ∈ ops → Lv N [x] ∧ (ids [x]).length ≤ 10000 ∧ ∀ j ∈ idsN x, j ∉ keptL old new) ∧ r = .b true
def opW : Op → Str
  | .remove _ _ => "remove"
  | .insert _ _ _ => "insert"
  | .move _ _ _ => "move"
  | .text _ _ => "text"
  | .set _ _ _ => "set"
  | .unset _ _ => "unset"
theorem eOp_get (o : Op) : ∃ y, eOp o = .tuple y ∧ y[0]? = some (.str (opW o)) := by cases o <;> simp [eOp, opW]
def isIns : Op → Bool
  | .insert _ _ _ => true
  | _ => false
theorem opW_rem (o : Op) : decide (opW o = Str.ofString "remove") = isRem o := by
  cases o with
  | remove => exact (show decide ((Str.ofString "remove" : Str) = Str.ofString "remove") = true by decide +kernel)
  | insert => exact (show decide ((Str.ofString "insert" : Str) = Str.ofString "remove") = false by decide +kernel)
  | move => exact (show decide ((Str.ofString "move" : Str) = Str.ofString "remove") = false by decide +kernel)
  | text => exact (show decide ((Str.ofString "text" : Str) = Str.ofString "remove") = false by decide +kernel)
  | set => exact (show decide ((Str.ofString "set" : Str) = Str.ofString "remove") = false by decide +kernel)
  | unset => exact (show decide ((Str.ofString "unset" : Str) = Str.ofString "remove") = false by decide +kernel)
theorem opW_ins (o : Op) : decide (opW o = Str.ofString "insert") = isIns o := by
  cases o with
  | remove => exact (show decide ((Str.ofString "remove" : Str) = Str.ofString "insert") = false by decide +kernel)
  | insert => exact (show decide ((Str.ofString "insert" : Str) = Str.ofString "insert") = true by decide +kernel)
  | move => exact (show decide ((Str.ofString "move" : Str) = Str.ofString "insert") = false by decide +kernel)
  | text => exact (show decide ((Str.ofString "text" : Str) = Str.ofString "insert") = false by decide +kernel)
  | set => exact (show decide ((Str.ofString "set" : Str) = Str.ofString "insert") = false by decide +kernel)
  | unset => exact (show decide ((Str.ofString "unset" : Str) = Str.ofString "insert") = false by decide +kernel)
theorem c_is_careful (T : Txt K mg) (N : Nat) : Cl P w K mg base (N + 3) "is_careful" ["old", "new", "operations"] (FS (S_careful N)) := by
  have C_kept_ids := c_kept_ids (P := P) (w := w) (base := base) T N
  have C_ids_of := c_ids_of (P := P) (w := w) (base := base) T N
  refine cl_fs T.d_is_careful sc_is_careful (fun as r ⟨_, _, _, e, _⟩ => by rw [e]; rfl) fun f cdv A outer s H vs as r Q Ew hr ha ⟨old, new, ops, e1, hl, zn, hrm, hin, e2⟩ q => ?_
  subst e1 e2
  obtain - | ⟨ho, - | ⟨hn, - | ⟨hops, - | -⟩⟩⟩ := ha
  obtain ⟨po, rfl, hops⟩ := hops
  refine ⟨_, (pss_cons (ps_set (i := 3) sc_is_careful.nd rfl (Or.inl rfl) (pe_cl C_kept_ids (hr.mono (by omega)) rfl (pa_cons (pv 0) (pa_cons (pv 1) pa_nil))))
      (pss_cons (ps_for PassesOwn.never rfl (pi_list (pv 2)) (pg_name (i := 4) sc_is_careful.nd rfl (Or.inl rfl)) (pss_cons (ps_if (PW.pt (pw_and (pt_cmpR op_eq (pe_ix ix_tup (pv 4) pe_int (fun _ _ => rfl)) pe_str (nomark _)) (pw_and1 (pt_cmpR op_in_seq (pe_ix ix_tup (pv 4) pe_int (fun _ _ => rfl)) (pv 3) rfl)))) (pss_one (ps_ret pe_bl)) pss_nil)
      (pss_one (ps_if (pt_cmpR op_eq (pe_ix ix_tup (pv 4) pe_int (fun _ _ => rfl)) pe_str (nomark _)) (pss_one (ps_for PassesOwn.never rfl (pi_list (pe_cl C_ids_of (hr.mono (by omega)) rfl (pa_cons (pe_tup (pa_cons (pe_ix ix_tup (pv 4) pe_int (fun _ _ => rfl)) pa_nil)) pa_nil))) (pg_name (i := 5) sc_is_careful.nd rfl (Or.inl rfl)) (pss_one (ps_if (pt_cmpR op_in_seq (pv 5) (pv 3) rfl) (pss_one (ps_ret pe_bl)) pss_nil)))) pss_nil))))
      (pss_one (ps_ret pe_bl)))), ?_⟩
  refine q_asg (e_call (r := .l (eI (keptL old new))) (ea_cons (E.o (e_var rfl ho)) (ea_cons (E.o (e_var rfl hn)) ea_nil)) ⟨old, new, rfl, hl, zn, rfl⟩) fun v H1 e1 hv => ?_
  obtain ⟨lk, rfl, _, hlk⟩ := hv
  refine q_forLV (H0 := H1) (xs := ops) rfl (hops.mono e1) (fun done todo σ' H' => ∃ v4 v5, σ' = [some _, some _, some (.ref po), some (.ref lk), v4, v5] ∧ Same H1 H') ⟨_, _, rfl, Same.refl H1⟩ (fun _ _ _ _ ⟨_, _, _, h⟩ => ⟨tx_of h, fun vs hv => h _ _ hv⟩) ?_ ?_
  · rintro done o todo u σ' H' ed ⟨v4, v5, rfl, eH⟩ hu
    have hoo : o ∈ ops := by rw [ed]; simp
    obtain ⟨y, hy, hy0⟩ := eOp_get o
    have hun := hu
    rw [hy] at hun
    have hlk' := hlk.mono eH
    -- not a remove of a kept one
    refine q_when (b := false) ?_ (fun z => absurd z (by decide)) fun _ H2 e2 => ?_
    · cases o with
      | remove q' i =>
        have hun : Tp H' u (.tuple [.str "remove", .int q', .int i]) := hu
        have hne := hrm q' i hoo
        refine ET.is (et_and (b := true) (b' := false) (ET.is (et_eqS (e_ixT 0 (e_var rfl hun) e_int rfl) e_str) (by decide +kernel)) fun _ => ET.is (et_yiI (e_ixT 2 (e_var rfl hun) e_int rfl) (eo_lst rfl hlk')) ?_) rfl
        rw [← Bool.not_eq_true, List.contains_iff_mem]
        exact hne
      | _ =>
        refine ET.is (et_and (b := false) (b' := false) (ET.is (et_eqS (e_ixT 0 (e_var rfl hun) e_int hy0) e_str) (by rw [opW_rem]; rfl)) fun z => absurd z (by decide)) rfl
    -- an insert
    have eH2 := eH.trans e2
    cases o with
    | insert q' x a =>
      have hun : Tp H' u (.tuple [.str "insert", .int q', eN x, eAh a]) := hu
      have hun2 := hun.mono (tx_of e2)
      obtain ⟨i1, i2, i3⟩ := hin q' x a hoo
      refine s_if (et_eqS (e_ixT 0 (e_var rfl hun2) e_int rfl) e_str) (fun _ H3 e3 => ?_) fun z => absurd z (by decide +kernel)
      refine s_forNL (enc := PyData.int) (xs := ids [x]) (e_call (r := .l (eI (ids [x]))) (ea_cons (E.o (e_tup (ds := [eN x]) (ea_cons (E.o (e_ixT 2 (e_var rfl (hun2.mono (tx_of e3))) e_int rfl)) ea_nil))) ea_nil) ⟨[x], rfl, i1, i2, rfl⟩) fun H4 e4 => ⟨fun done todo σ' H' => ∃ v4 v5, σ' = [some _, some _, some (.ref po), some (.ref lk), v4, v5] ∧ Same H4 H', ⟨_, _, rfl, Same.refl H4⟩, (fun _ _ _ _ ⟨_, _, _, h⟩ => h), ?_, ?_⟩
      · rintro done2 j todo2 u2 σ2 H5 ed2 ⟨v4', v5', rfl, eH5⟩ hu2
        have hj : j ∈ idsN x := by
          have : j ∈ ids [x] := by rw [ed2]; simp
          rw [ids_cons, ids_nil, List.append_nil] at this
          exact this
        refine s_if (b := false) (ET.is (et_yiI (e_var rfl hu2) (eo_lst rfl (hlk.mono (((eH2.trans e3).trans e4).trans eH5)))) ?_) (fun z => absurd z (by decide)) fun _ H6 e6 => ⟨_, _, rfl, eH5.trans e6⟩
        rw [← Bool.not_eq_true, List.contains_iff_mem]
        exact i3 j hj
      · rintro σ2 H5 ⟨v4', v5', rfl, eH5⟩
        exact ⟨_, _, rfl, ((eH2.trans e3).trans e4).trans eH5⟩
    | _ =>
      refine s_if (b := false) (ET.is (et_eqS (e_ixT 0 (e_var rfl (Tp.mono (tx_of e2) hun)) e_int hy0) e_str) (by rw [opW_ins]; rfl)) (fun z => absurd z (by decide)) fun _ H3 e3 => ⟨_, _, rfl, eH2.trans e3⟩
  · rintro σ' H' ⟨v4, v5, rfl, eH⟩
    exact s_ret e_bl fun v H2 e2 hv => q v H2 ((e1.trans eH).trans e2) hv
end
end VL

namespace VL
open PySem L2
section
variable {P : Program} {w : World} {K : PySem.W.Frag} {mg : Str → Option Value} {base : Heap}
/-- what a document of the walk is held to -/
structure Wk (d : List Node) : Prop where
  lv : Lv 40 d
  len : (ids d).length ≤ 10000
  att : At AL d
theorem et_notN' {σ : L2.St} {H : Hp} {te : TE} {x : PyData} (h : E te σ H (.d x)) (hx : isNon x = false) : ET (tTest (tOp rNotN te (tC .non))) σ H true := ET.is (et_notN h) (by rw [hx]; rfl)
theorem et_isN' {σ : L2.St} {H : Hp} {te : TE} {x : PyData} (h : E te σ H (.d x)) (hx : isNon x = false) : ET (tTest (tOp rIsN te (tC .non))) σ H false := ET.is (et_isN h) hx
theorem s_nextRet {σ : L2.St} {D : Ends} {te : TE} {H : Hp} (h : tRet te D σ H) : tNext { D with nx := tRet te D } σ H := h
/-- insert_fault -/
def S_ins : List Rs → Rs → Prop := fun as r => ∃ (d : List Node) (p : Int) (x : Node) (ah : Option Int), as = [.d (eD d), .d (.int p), .d (eN x), .d (eAh ah)] ∧ Lv 40 d ∧ (ids d).length ≤ 10000 ∧ (ids [x]).length ≤ 10000 ∧ OpOk d (.insert p x ah) ∧ r = .d .none
theorem c_insert_fault (T : Txt K mg) : Cl P w K mg base 50 "insert_fault" ["document", "parent", "node", "ahead"] (FS S_ins) := by
  have C_kids_of := c_kids_of (P := P) (w := w) (base := base) T 40
  have C_ids_of := c_ids_of (P := P) (w := w) (base := base) T 40
  have C_is_kid := c_is_kid (P := P) (w := w) (base := base) T
  have C_level_of := c_level_of (P := P) (w := w) (base := base) T 40
  have C_fits_levels := c_fits_levels (P := P) (w := w) (base := base) T 40
  obtain ⟨t40, h_MOST_LEVELS⟩ := T.m_MOST_LEVELS
  refine cl_fs T.d_insert_fault sc_insert_fault (fun as r ⟨_, _, _, _, e, _⟩ => by rw [e]; rfl) fun f cdv A outer s H vs as r Q Ew hr ha ⟨d, p, x, ah, e1, hl, hz, hzx, ⟨ks, hks, hid, hah, n, hn, hlx⟩, e2⟩ q => ?_
  subst e1 e2
  obtain - | ⟨hd, - | ⟨hp, - | ⟨hx, - | ⟨hh, - | -⟩⟩⟩⟩ := ha
  refine ⟨_, (pss_cons (ps_set (i := 4) sc_insert_fault.nd rfl (Or.inl rfl) (pe_cl C_kids_of (hr.mono (by omega)) rfl (pa_cons (pv 0) (pa_cons (pv 1) pa_nil))))
      (pss_cons (ps_if (pt_cmpR op_isN1 (pv 4) pe_non (nomark _)) (pss_one (ps_ret pe_str)) pss_nil)
      (pss_cons (ps_set (i := 5) sc_insert_fault.nd rfl (Or.inl rfl) (pe_cl C_ids_of (hr.mono (by omega)) rfl (pa_cons (pv 0) pa_nil)))
      (pss_cons (ps_for PassesOwn.never rfl (pi_list (pe_cl C_ids_of (hr.mono (by omega)) rfl (pa_cons (pe_tup (pa_cons (pv 2) pa_nil)) pa_nil))) (pg_name (i := 6) sc_insert_fault.nd rfl (Or.inl rfl)) (pss_one (ps_if (pt_cmpR op_in_seq (pv 6) (pv 5) rfl) (pss_one (ps_ret pe_str)) pss_nil)))
      (pss_cons (ps_if (PW.pt (pw_and (pt_cmpR op_notN1 (pv 3) pe_non (nomark _)) (pw_and1 (pt_not (pt_val (pe_cl C_is_kid (hr.mono (by omega)) rfl (pa_cons (pv 4) (pa_cons (pv 3) pa_nil)))))))) (pss_one (ps_ret pe_str)) pss_nil)
      (pss_cons (ps_set (i := 7) sc_insert_fault.nd rfl (Or.inl rfl) pe_int)
      (pss_cons (ps_if (pt_cmpR op_ne (pv 1) pe_int (nomark _)) (pss_one (ps_set (i := 7) sc_insert_fault.nd rfl (Or.inl rfl) (pe_cl C_level_of (hr.mono (by omega)) rfl (pa_cons (pv 0) (pa_cons (pv 1) pa_nil))))) pss_nil)
      (pss_cons (ps_if (pt_not (pt_val (pe_cl C_fits_levels (hr.mono (by omega)) rfl (pa_cons (pe_tup (pa_cons (pv 2) pa_nil)) (pa_cons (pe_op op_sub (pe_glob (v := .int 40) rfl h_MOST_LEVELS ⟨_, rfl⟩) (pv 7)) pa_nil))))) (pss_one (ps_ret pe_str)) pss_nil)
      (pss_one (ps_ret pe_non)))))))))), ?_⟩
  refine q_asg (e_call (r := .d (eD ks)) (ea_cons (E.o (e_var rfl hd)) (ea_cons (E.o (e_var rfl hp)) ea_nil)) ⟨d, p, rfl, hl, by rw [hks]; rfl⟩) fun v H1 e1 hk => ?_
  refine q_when (et_isN' (e_var rfl hk) rfl) (fun z => absurd z (by decide)) fun _ H2 e2 => ?_
  have e02 := e1.trans e2
  refine q_asg (e_call (r := .l (eI (ids d))) (ea_cons (E.o (e_var rfl (Tp.mono (tx_of e02) hd))) ea_nil) ⟨d, rfl, hl, hz, rfl⟩) fun v3 H3 e3 hv => ?_
  obtain ⟨lt, rfl, _, hlt⟩ := hv
  have e03 := e02.trans e3
  have hx40 : Lv 40 [x] := hlx.mono (by omega)
  refine q_forNL (enc := PyData.int) (xs := ids [x]) (e_call (r := .l (eI (ids [x]))) (ea_cons (E.o (e_tup (ds := [eN x]) (ea_cons (E.o (e_var rfl (Tp.mono (tx_of e03) hx))) ea_nil))) ea_nil) ⟨[x], rfl, hx40, hzx, rfl⟩) fun H4 e4 => ⟨fun done todo σ' H' => ∃ v6, σ' = [some _, some _, some _, some _, some v, some (.ref lt), v6, none] ∧ Same H4 H', ⟨_, rfl, Same.refl H4⟩, (fun _ _ _ _ ⟨_, _, h⟩ => h), ?_, ?_⟩
  · rintro done j todo u σ' H' ed ⟨v6, rfl, eH⟩ hu
    have hj : j ∈ idsN x := by
      have : j ∈ ids [x] := by rw [ed]; simp
      rw [ids_cons, ids_nil, List.append_nil] at this
      exact this
    refine s_if (b := false) (ET.is (et_yiI (e_var rfl hu) (eo_lst rfl (hlt.mono (e4.trans eH)))) ?_) (fun z => absurd z (by decide)) fun _ H6 e6 => ⟨_, rfl, eH.trans e6⟩
    rw [← Bool.not_eq_true, List.contains_iff_mem]
    exact hid j hj
  · rintro σ' H5 ⟨v6, rfl, eH⟩
    have e05 := (e03.trans e4).trans eH
    have hk5 := Tp.mono (tx_of (((e2.trans e3).trans e4).trans eH)) hk
    refine q_when (b := false) ?_ (fun z => absurd z (by decide)) fun _ H6 e6 => ?_
    · cases ah with
      | none => exact ET.is (et_and (b' := true) (et_notN (e_var rfl (Tp.mono (tx_of e05) hh))) (fun z => absurd z (by decide))) rfl
      | some a =>
        refine ET.is (et_and (et_notN (e_var rfl (Tp.mono (tx_of e05) hh))) (fun _ => et_not (et_B (e_call (r := .b (decide (a ∈ ks.map Node.id))) (ea_cons (E.o (e_var rfl hk5)) (ea_cons (E.o (e_var rfl (Tp.mono (tx_of e05) hh))) ea_nil)) ⟨ks, a, rfl, rfl⟩)))) ?_
        rw [decide_eq_true (hah a rfl)]
        rfl
    have e06 := e05.trans e6
    refine q_asg e_int fun v7 H7 e7 hv7 => ?_
    obtain rfl := Tp.int_inv hv7
    have e07 := e06.trans e7

    refine q_if (et_neI (e_var rfl (Tp.mono (tx_of e07) hp)) e_int) (fun h8 H8 e8 => ?_) fun h8 H8 e8 => ?_
    · have hp0 : ¬ p = 0 := by simpa using h8
      have e08 := e07.trans e8
      refine s_asg (e_call (r := .d (.int (lev d p : Nat))) (ea_cons (E.o (e_var rfl (Tp.mono (tx_of e08) hd))) (ea_cons (E.o (e_var rfl (Tp.mono (tx_of e08) hp))) ea_nil)) ⟨d, p, rfl, hl, rfl⟩) fun v9 H9 e9 hv9 => ?_
      have e09 := e08.trans e9
      rw [if_neg hp0] at hn
      have em : (40 : Int) - ((lev d p : Nat) : Int) = ((40 - lev d p : Nat) : Int) := by omega
      refine q_when (b := false) (ET.is (et_not (et_B (e_call (r := .b true) (ea_cons (E.o (e_tup (ds := [eN x]) (ea_cons (E.o (e_var rfl (Tp.mono (tx_of e09) hx))) ea_nil))) (ea_cons (E.o (E.is (e_opI (g := fun i j => i - j) e_int (e_var rfl hv9)) (by rw [em]))) ea_nil)) ⟨40 - lev d p, [x], by omega, rfl, hlx.mono (by omega), rfl⟩))) rfl) (fun z => absurd z (by decide)) fun _ H10 e10 => ?_
      exact s_ret e_non fun v' H11 e11 hv => q v' H11 ((e09.trans e10).trans e11) hv
    · have hp0 : p = 0 := by simpa using h8
      have e08 := e07.trans e8
      rw [if_pos hp0] at hn
      refine q_when (b := false) (ET.is (et_not (et_B (e_call (r := .b true) (ea_cons (E.o (e_tup (ds := [eN x]) (ea_cons (E.o (e_var rfl (Tp.mono (tx_of e08) hx))) ea_nil))) (ea_cons (E.o (E.is (e_opI (g := fun i j => i - j) e_int (e_var rfl (Tp.int 0))) (r' := .d (.int ((40 : Nat) : Int))) rfl)) ea_nil)) ⟨40, [x], by omega, rfl, hx40, rfl⟩))) rfl) (fun z => absurd z (by decide)) fun _ H10 e10 => ?_
      exact s_ret e_non fun v' H11 e11 hv => q v' H11 ((e08.trans e10).trans e11) hv

/-- kid_fault -/
def isKid : Op → Bool
  | .remove _ _ => true
  | .move _ _ _ => true
  | _ => false
def S_kidf : List Rs → Rs → Prop := fun as r => ∃ (d : List Node) (op : Op), as = [.d (eD d), .d (eOp op)] ∧ Lv 40 d ∧ isKid op = true ∧ OpOk d op ∧ r = .d .none
theorem c_kid_fault (T : Txt K mg) : Cl P w K mg base 50 "kid_fault" ["document", "operation"] (FS S_kidf) := by
  have C_kids_of := c_kids_of (P := P) (w := w) (base := base) T 40
  have C_is_kid := c_is_kid (P := P) (w := w) (base := base) T
  refine cl_fs T.d_kid_fault sc_kid_fault (fun as r ⟨_, _, e, _⟩ => by rw [e]; rfl) fun f cdv A outer s H vs as r Q Ew hr ha ⟨d, op, e1, hl, hk, hok, e2⟩ q => ?_
  subst e1 e2
  obtain - | ⟨hd, - | ⟨ho, - | -⟩⟩ := ha
  refine ⟨_, (pss_cons (ps_set (i := 2) sc_kid_fault.nd rfl (Or.inl rfl) (pe_cl C_kids_of (hr.mono (by omega)) rfl (pa_cons (pv 0) (pa_cons (pe_ix ix_tup (pv 1) pe_int (fun _ _ => rfl)) pa_nil))))
      (pss_cons (ps_if (pt_cmpR op_isN1 (pv 2) pe_non (nomark _)) (pss_one (ps_ret pe_str)) pss_nil)
      (pss_cons (ps_if (pt_not (pt_val (pe_cl C_is_kid (hr.mono (by omega)) rfl (pa_cons (pv 2) (pa_cons (pe_ix ix_tup (pv 1) pe_int (fun _ _ => rfl)) pa_nil))))) (pss_one (ps_ret pe_str)) pss_nil)
      (pss_cons (ps_if (PW.pt (pw_and (pt_cmpR op_eq (pe_ix ix_tup (pv 1) pe_int (fun _ _ => rfl)) pe_str (nomark _)) (pw_and1 (pt_cmpR op_notN1 (pe_ix ix_tup (pv 1) pe_int (fun _ _ => rfl)) pe_non (nomark _))))) (pss_one (ps_if (PW.pt (pw_or (pt_cmpR op_eq (pe_ix ix_tup (pv 1) pe_int (fun _ _ => rfl)) (pe_ix ix_tup (pv 1) pe_int (fun _ _ => rfl)) (nomark _)) (pw_or1 (pt_not (pt_val (pe_cl C_is_kid (hr.mono (by omega)) rfl (pa_cons (pv 2) (pa_cons (pe_ix ix_tup (pv 1) pe_int (fun _ _ => rfl)) pa_nil)))))))) (pss_one (ps_ret pe_str)) pss_nil)) pss_nil)
      (pss_one (ps_ret pe_non)))))), ?_⟩
  cases op with
  | remove p i =>
    obtain ⟨ks, hks, hi⟩ := hok
    have ho : Tp H _ (.tuple [.str "remove", .int p, .int i]) := ho
    refine q_asg (e_call (r := .d (eD ks)) (ea_cons (E.o (e_var rfl hd)) (ea_cons (E.o (e_ixT 1 (e_var rfl ho) e_int rfl)) ea_nil)) ⟨d, p, rfl, hl, by rw [hks]; rfl⟩) fun v H1 e1 hv => ?_
    refine q_when (et_isN' (e_var rfl hv) rfl) (fun z => absurd z (by decide)) fun _ H2 e2 => ?_
    have e02 := tx_of (e1.trans e2)
    refine q_when (b := false) (ET.is (et_not (et_B (e_call (r := .b (decide (i ∈ ks.map Node.id))) (ea_cons (E.o (e_var rfl (Tp.mono (tx_of e2) hv))) (ea_cons (E.o (e_ixT 2 (e_var rfl (ho.mono e02)) e_int rfl)) ea_nil)) ⟨ks, i, rfl, rfl⟩))) (by rw [decide_eq_true hi]; rfl)) (fun z => absurd z (by decide)) fun _ H3 e3 => ?_
    have e03 := (e1.trans e2).trans e3
    refine q_when (b := false) (ET.is (et_and (b := false) (b' := true) (ET.is (et_eqS (e_ixT 0 (e_var rfl (ho.mono (tx_of e03))) e_int rfl) e_str) (by decide +kernel)) (fun z => absurd z (by decide))) rfl) (fun z => absurd z (by decide)) fun _ H4 e4 => ?_
    exact s_ret e_non fun v' H5 e5 hv => q v' H5 ((e03.trans e4).trans e5) hv
  | move p i ah =>
    obtain ⟨ks, hks, hi, hah⟩ := hok
    have ho : Tp H _ (.tuple [.str "move", .int p, .int i, eAh ah]) := ho
    refine q_asg (e_call (r := .d (eD ks)) (ea_cons (E.o (e_var rfl hd)) (ea_cons (E.o (e_ixT 1 (e_var rfl ho) e_int rfl)) ea_nil)) ⟨d, p, rfl, hl, by rw [hks]; rfl⟩) fun v H1 e1 hv => ?_
    refine q_when (et_isN' (e_var rfl hv) rfl) (fun z => absurd z (by decide)) fun _ H2 e2 => ?_
    have e02 := tx_of (e1.trans e2)
    refine q_when (b := false) (ET.is (et_not (et_B (e_call (r := .b (decide (i ∈ ks.map Node.id))) (ea_cons (E.o (e_var rfl (Tp.mono (tx_of e2) hv))) (ea_cons (E.o (e_ixT 2 (e_var rfl (ho.mono e02)) e_int rfl)) ea_nil)) ⟨ks, i, rfl, rfl⟩))) (by rw [decide_eq_true hi]; rfl)) (fun z => absurd z (by decide)) fun _ H3 e3 => ?_
    have e03 := (e1.trans e2).trans e3
    have ho3 := ho.mono (tx_of e03)
    have hv3 := Tp.mono (tx_of (e2.trans e3)) hv
    cases ah with
    | none =>
      refine q_when (b := false) (ET.is (et_and (b := true) (b' := false) (ET.is (et_eqS (e_ixT 0 (e_var rfl ho3) e_int rfl) e_str) (by decide +kernel)) (fun _ => et_notN (e_ixT (x := .none) 3 (e_var rfl ho3) e_int rfl))) rfl) (fun z => absurd z (by decide)) fun _ H4 e4 => ?_
      exact s_ret e_non fun v' H5 e5 hv => q v' H5 ((e03.trans e4).trans e5) hv
    | some a =>
      obtain ⟨a1, a2⟩ := hah a rfl
      refine q_if (b := true) (ET.is (et_and (b := true) (b' := true) (ET.is (et_eqS (e_ixT 0 (e_var rfl ho3) e_int rfl) e_str) (by decide +kernel)) (fun _ => et_notN (e_ixT (x := .int a) 3 (e_var rfl ho3) e_int rfl))) rfl) (fun _ H4 e4 => ?_) (fun z => absurd z (by decide))
      have ho4 := ho3.mono (tx_of e4)
      refine s_if (b := false) (ET.is (et_or (b := false) (b' := false) (ET.is (et_eqI (e_ixT (x := .int a) 3 (e_var rfl ho4) e_int rfl) (e_ixT 2 (e_var rfl ho4) e_int rfl)) (decide_eq_false a1)) (fun _ => ET.is (et_not (et_B (e_call (r := .b (decide (a ∈ ks.map Node.id))) (ea_cons (E.o (e_var rfl (Tp.mono (tx_of e4) hv3))) (ea_cons (E.o (e_ixT (x := .int a) 3 (e_var rfl ho4) e_int rfl)) ea_nil)) ⟨ks, a, rfl, rfl⟩))) (by rw [decide_eq_true a2]; rfl))) rfl) (fun z => absurd z (by decide)) fun _ H5 e5 => ?_
      refine s_nextRet (s_ret e_non fun v' H6 e6 hv => q v' H6 (((e03.trans e4).trans e5).trans e6) hv)
  | _ => cases hk

/-- attribute_fault -/
def isAtt : Op → Bool
  | .set _ _ _ => true
  | .unset _ _ => true
  | _ => false
def S_attf : List Rs → Rs → Prop := fun as r => ∃ (d : List Node) (op : Op), as = [.d (eD d), .d (eOp op)] ∧ Wk d ∧ isAtt op = true ∧ OpOk d op ∧ r = .d .none
theorem find_mem : ∀ (d : List Node) (p : Int) (x : Node), find d p = some x → At AL d → AtN AL x := by
  intro d
  induction d using forest with
  | nil => intro p x h; rw [find_nil] at h; cases h
  | cons n r h1 h2 =>
    intro p x h ha
    obtain ⟨hn, hr⟩ := at_cons.mp ha
    rw [find_cons, findN_eq] at h
    by_cases hp : n.id = p
    · rw [if_pos hp] at h
      cases h
      exact hn
    · rw [if_neg hp] at h
      cases e : find n.kids p with
      | none => rw [e] at h; exact h2 p x h hr
      | some z =>
        rw [e] at h
        cases h
        exact h1 p _ e (atN_kids hn)
theorem c_attribute_fault (T : Txt K mg) : Cl P w K mg base 50 "attribute_fault" ["document", "operation"] (FS S_attf) := by
  have C_find_node := c_find_node (P := P) (w := w) (base := base) T 40
  refine cl_fs T.d_attribute_fault sc_attribute_fault (fun as r ⟨_, _, e, _⟩ => by rw [e]; rfl) fun f cdv A outer s H vs as r Q Ew hr ha ⟨d, op, e1, hw, hk, hok, e2⟩ q => ?_
  subst e1 e2
  obtain - | ⟨hd, - | ⟨ho, - | -⟩⟩ := ha
  refine ⟨_, (pss_cons (ps_set (i := 2) sc_attribute_fault.nd rfl (Or.inl rfl) (pe_cl C_find_node (hr.mono (by omega)) rfl (pa_cons (pv 0) (pa_cons (pe_ix ix_tup (pv 1) pe_int (fun _ _ => rfl)) pa_nil))))
      (pss_cons (ps_if (PW.pt (pw_or (pt_cmpR op_isN1 (pv 2) pe_non (nomark _)) (pw_or1 (pt_cmpR op_ne (pe_ix ix_tup (pv 2) pe_int (fun _ _ => rfl)) pe_str (nomark _))))) (pss_one (ps_ret pe_str)) pss_nil)
      (pss_cons (ps_if (PW.pt (pw_and (pt_cmpR op_eq (pe_ix ix_tup (pv 1) pe_int (fun _ _ => rfl)) pe_str (nomark _)) (pw_and1 (pt_cmpR op_notIn_seq (pe_ix ix_tup (pv 1) pe_int (fun _ _ => rfl)) (pe_lc (own := [("name", 3), ("_", 4)]) (g := (gTup K 2 (gCons (gName 3) (gCons (gName 4) gNil)))) (tt := tYes) (te := (tVar 3)) rfl sc_attribute_fault.nd (pi_tup (pe_ix ix_tup (pv 2) pe_int (fun _ _ => rfl))) (blkOk_by (own := [("name", 3), ("_", 4)]) (N := ["document", "operation", "node", "name", "_"]) (sc := defScope s_attribute_fault) (by decide +kernel)) (fun _ _ _ _ _ => (pg_tup (by rfl) (pgs_cons (pg_name (i := 3) sc_attribute_fault.nd rfl (Or.inl rfl)) (pgs_cons (pg_name (i := 4) sc_attribute_fault.nd rfl (Or.inl rfl)) pgs_nil)))) (fun _ _ _ _ _ => pts_nil) (fun _ _ _ _ _ => (pv 3))) rfl)))) (pss_one (ps_ret pe_str)) pss_nil)
      (pss_one (ps_ret pe_non))))), ?_⟩
  cases op with
  | set i n' t' =>
    obtain ⟨g, a, k, hf⟩ := hok
    have ho : Tp H _ (.tuple [.str "set", .int i, .str n', .str t']) := ho
    refine q_asg (e_call (r := .d (eN (.elem i g a k))) (ea_cons (E.o (e_var rfl hd)) (ea_cons (E.o (e_ixT 1 (e_var rfl ho) e_int rfl)) ea_nil)) ⟨d, i, rfl, hw.lv, by rw [hf]; rfl⟩) fun v H1 e1 hv => ?_
    rw [eN_elem] at hv
    have hv : Tp H1 v (.tuple [.str "element", .int i, .str g, .tuple (a.map eP), eD k]) := hv
    refine q_when (b := false) (ET.is (et_or (b' := false) (et_isN (e_var rfl hv)) (fun _ => ET.is (et_neS (e_ixT 0 (e_var rfl hv) e_int rfl) e_str) (by decide +kernel))) rfl) (fun z => absurd z (by decide)) fun _ H2 e2 => ?_
    refine q_when (b := false) (ET.is (et_and (b := false) (b' := true) (ET.is (et_eqS (e_ixT 0 (e_var rfl (ho.mono (tx_of (e1.trans e2)))) e_int rfl) e_str) (by decide +kernel)) (fun z => absurd z (by decide))) rfl) (fun z => absurd z (by decide)) fun _ H3 e3 => ?_
    exact s_ret e_non fun v' H4 e4 hv => q v' H4 (((e1.trans e2).trans e3).trans e4) hv
  | unset i n' =>
    obtain ⟨g, a, k, hf, hn'⟩ := hok
    have ho : Tp H _ (.tuple [.str "unset", .int i, .str n']) := ho
    refine q_asg (e_call (r := .d (eN (.elem i g a k))) (ea_cons (E.o (e_var rfl hd)) (ea_cons (E.o (e_ixT 1 (e_var rfl ho) e_int rfl)) ea_nil)) ⟨d, i, rfl, hw.lv, by rw [hf]; rfl⟩) fun v H1 e1 hv => ?_
    have hal := find_mem d i _ hf hw.att
    simp only [AtN] at hal
    rw [eN_elem] at hv
    have hv : Tp H1 v (.tuple [.str "element", .int i, .str g, .tuple (a.map eP), eD k]) := hv
    refine q_when (b := false) (ET.is (et_or (b' := false) (et_isN (e_var rfl hv)) (fun _ => ET.is (et_neS (e_ixT 0 (e_var rfl hv) e_int rfl) e_str) (by decide +kernel))) rfl) (fun z => absurd z (by decide)) fun _ H2 e2 => ?_
    have hv2 := hv.mono (tx_of e2)
    refine q_when (b := false) (ET.is (et_and (b := true) (b' := false) (ET.is (et_eqS (e_ixT 0 (e_var rfl (ho.mono (tx_of (e1.trans e2)))) e_int rfl) e_str) (by decide +kernel)) (fun _ => ET.is (et_niS (ns := a.map (·.1)) (e_ixT 2 (e_var rfl (ho.mono (tx_of (e1.trans e2)))) e_int rfl)
      (E.o (E.is (e_lcT (enc := eP) (xs := a) (fun p => some (PyData.str p.1)) (e_ixT 3 (e_var rfl hv2) e_int rfl) (by omega) (fun p _ v H3 _ hv Q' k' => g_pair hv (k' _ H3 (Same.refl H3) rfl ⟨true, et_yes, _, rfl, e_var rfl (Tp.str p.1)⟩))) (by rw [filterMap_some, List.map_map]; rfl)))) (by rw [List.contains_iff_mem.mpr hn']; rfl))) rfl) (fun z => absurd z (by decide)) fun _ H3 e3 => ?_
    exact s_ret e_non fun v' H4 e4 hv => q v' H4 (((e1.trans e2).trans e3).trans e4) hv
  | _ => cases hk

/-- fault_of -/
def insLen (op : Op) : Prop := ∀ q x a, op = .insert q x a → (ids [x]).length ≤ 10000
def S_fault : List Rs → Rs → Prop := fun as r => ∃ (d : List Node) (op : Op), as = [.d (eD d), .d (eOp op)] ∧ Wk d ∧ insLen op ∧ OpOk d op ∧ r = .d .none
theorem c_fault_of (T : Txt K mg) : Cl P w K mg base 51 "fault_of" ["document", "operation"] (FS S_fault) := by
  have C_insert_fault := c_insert_fault (P := P) (w := w) (base := base) T
  have C_kid_fault := c_kid_fault (P := P) (w := w) (base := base) T
  have C_attribute_fault := c_attribute_fault (P := P) (w := w) (base := base) T
  have C_find_node := c_find_node (P := P) (w := w) (base := base) T 40
  refine cl_fs T.d_fault_of sc_fault_of (fun as r ⟨_, _, e, _⟩ => by rw [e]; rfl) fun f cdv A outer s H vs as r Q Ew hr ha ⟨d, op, e1, hw, hil, hok, e2⟩ q => ?_
  subst e1 e2
  obtain - | ⟨hd, - | ⟨ho, - | -⟩⟩ := ha
  refine ⟨_, (pss_cons (ps_set (i := 2) sc_fault_of.nd rfl (Or.inl rfl) (pe_ix ix_tup (pv 1) pe_int (fun _ _ => rfl)))
      (pss_cons (ps_if (pt_cmpR op_eq (pv 2) pe_str (nomark _)) (pss_one (ps_ret (pe_cl C_insert_fault (hr.mono (by omega)) rfl (pa_cons (pv 0) (pa_cons (pe_ix ix_tup (pv 1) pe_int (fun _ _ => rfl)) (pa_cons (pe_ix ix_tup (pv 1) pe_int (fun _ _ => rfl)) (pa_cons (pe_ix ix_tup (pv 1) pe_int (fun _ _ => rfl)) pa_nil))))))) pss_nil)
      (pss_cons (ps_if (PW.pt (pw_or (pt_cmpR op_eq (pv 2) pe_str (nomark _)) (pw_or1 (pt_cmpR op_eq (pv 2) pe_str (nomark _))))) (pss_one (ps_ret (pe_cl C_kid_fault (hr.mono (by omega)) rfl (pa_cons (pv 0) (pa_cons (pv 1) pa_nil))))) pss_nil)
      (pss_cons (ps_if (pt_cmpR op_eq (pv 2) pe_str (nomark _)) (pss_cons (ps_set (i := 3) sc_fault_of.nd rfl (Or.inl rfl) (pe_cl C_find_node (hr.mono (by omega)) rfl (pa_cons (pv 0) (pa_cons (pe_ix ix_tup (pv 1) pe_int (fun _ _ => rfl)) pa_nil))))
      (pss_cons (ps_if (PW.pt (pw_or (pt_cmpR op_isN1 (pv 3) pe_non (nomark _)) (pw_or1 (pt_cmpR op_ne (pe_ix ix_tup (pv 3) pe_int (fun _ _ => rfl)) pe_str (nomark _))))) (pss_one (ps_ret pe_str)) pss_nil)
      (pss_one (ps_ret pe_non)))) pss_nil)
      (pss_one (ps_ret (pe_cl C_attribute_fault (hr.mono (by omega)) rfl (pa_cons (pv 0) (pa_cons (pv 1) pa_nil))))))))), ?_⟩
  obtain ⟨y, hy, hy0⟩ := eOp_get op
  have hon := ho
  rw [hy] at hon
  refine q_asg (e_ixT 0 (e_var rfl hon) e_int hy0) fun v H1 e1 hv => ?_
  obtain rfl := Tp.str_inv hv
  have hd1 := Tp.mono (tx_of e1) hd
  have ho1 := Tp.mono (tx_of e1) ho
  have dec : ∀ (s1 s2 : Str) (b : Bool) (H' : Hp) (σ : L2.St) (i : Nat), σ[i]? = some (some (.str s1)) → decide (s1 = s2) = b → ET (tTest (tOp rEq (tVar i) (tC (.str s2)))) σ H' b := fun s1 s2 b H' σ i h e => ET.is (et_eqS (e_var h (Tp.str s1)) e_str) e
  cases op with
  | insert p x ah =>
    have ho2 : Tp H1 _ (.tuple [.str "insert", .int p, eN x, eAh ah]) := ho1
    refine q_when (dec "insert" _ true H1 _ _ rfl (by decide +kernel)) (fun _ H2 e2 => ?_) (fun z => absurd z (by decide))
    have ho3 := ho2.mono (tx_of e2)
    exact s_ret (e_call (r := .d .none) (ea_cons (E.o (e_var rfl (Tp.mono (tx_of e2) hd1))) (ea_cons (E.o (e_ixT 1 (e_var rfl ho3) e_int rfl)) (ea_cons (E.o (e_ixT 2 (e_var rfl ho3) e_int rfl)) (ea_cons (E.o (e_ixT 3 (e_var rfl ho3) e_int rfl)) ea_nil)))) ⟨d, p, x, ah, rfl, hw.lv, hw.len, hil p x ah rfl, hok, rfl⟩) fun v' H3 e3 hv => q v' H3 ((e1.trans e2).trans e3) hv
  | remove p i =>
    refine q_when (dec "remove" _ false H1 _ _ rfl (by decide +kernel)) (fun z => absurd z (by decide)) fun _ H2 e2 => ?_
    refine q_when (ET.is (et_or (b := true) (b' := true) (dec "remove" _ true H2 _ _ rfl (by decide +kernel)) (fun z => absurd z (by decide))) rfl) (fun _ H3 e3 => ?_) (fun z => absurd z (by decide))
    have e23 := tx_of (e2.trans e3)
    exact s_ret (e_call (r := .d .none) (ea_cons (E.o (e_var rfl (Tp.mono e23 hd1))) (ea_cons (E.o (e_var rfl (Tp.mono e23 ho1))) ea_nil)) ⟨d, _, rfl, hw.lv, rfl, hok, rfl⟩) fun v' H4 e4 hv => q v' H4 (((e1.trans e2).trans e3).trans e4) hv
  | move p i ah =>
    refine q_when (dec "move" _ false H1 _ _ rfl (by decide +kernel)) (fun z => absurd z (by decide)) fun _ H2 e2 => ?_
    refine q_when (ET.is (et_or (b := false) (b' := true) (dec "move" _ false H2 _ _ rfl (by decide +kernel)) (fun _ => dec "move" _ true H2 _ _ rfl (by decide +kernel))) rfl) (fun _ H3 e3 => ?_) (fun z => absurd z (by decide))
    have e23 := tx_of (e2.trans e3)
    exact s_ret (e_call (r := .d .none) (ea_cons (E.o (e_var rfl (Tp.mono e23 hd1))) (ea_cons (E.o (e_var rfl (Tp.mono e23 ho1))) ea_nil)) ⟨d, _, rfl, hw.lv, rfl, hok, rfl⟩) fun v' H4 e4 hv => q v' H4 (((e1.trans e2).trans e3).trans e4) hv
  | text i s' =>
    obtain ⟨s0, hf⟩ := hok
    have ho2 : Tp H1 _ (.tuple [.str "text", .int i, .str s']) := ho1
    refine q_when (dec "text" _ false H1 _ _ rfl (by decide +kernel)) (fun z => absurd z (by decide)) fun _ H2 e2 => ?_
    refine q_when (ET.is (et_or (b := false) (b' := false) (dec "text" _ false H2 _ _ rfl (by decide +kernel)) (fun _ => dec "text" _ false H2 _ _ rfl (by decide +kernel))) rfl) (fun z => absurd z (by decide)) fun _ H3 e3 => ?_
    refine q_if (dec "text" _ true H3 _ _ rfl (by decide +kernel)) (fun _ H4 e4 => ?_) (fun z => absurd z (by decide))
    have e24 := (e2.trans e3).trans e4
    refine q_asg (e_call (r := .d (eN (.text i s0))) (ea_cons (E.o (e_var rfl (Tp.mono (tx_of e24) hd1))) (ea_cons (E.o (e_ixT 1 (e_var rfl (ho2.mono (tx_of e24))) e_int rfl)) ea_nil)) ⟨d, i, rfl, hw.lv, by rw [hf]; rfl⟩) fun v5 H5 e5 hv5 => ?_
    rw [eN_text] at hv5
    have hv5 : Tp H5 v5 (.tuple [.str "text", .int i, .str s0]) := hv5
    refine q_when (b := false) (ET.is (et_or (b' := false) (et_isN (e_var rfl hv5)) (fun _ => ET.is (et_neS (e_ixT 0 (e_var rfl hv5) e_int rfl) e_str) (by decide +kernel))) rfl) (fun z => absurd z (by decide)) fun _ H6 e6 => ?_
    exact s_ret e_non fun v' H7 e7 hv => q v' H7 (((e1.trans (e24.trans e5)).trans e6).trans e7) hv
  | set i n' t' =>
    refine q_when (dec "set" _ false H1 _ _ rfl (by decide +kernel)) (fun z => absurd z (by decide)) fun _ H2 e2 => ?_
    refine q_when (ET.is (et_or (b := false) (b' := false) (dec "set" _ false H2 _ _ rfl (by decide +kernel)) (fun _ => dec "set" _ false H2 _ _ rfl (by decide +kernel))) rfl) (fun z => absurd z (by decide)) fun _ H3 e3 => ?_
    refine q_if (dec "set" _ false H3 _ _ rfl (by decide +kernel)) (fun z => absurd z (by decide)) fun _ H4 e4 => ?_
    have e24 := (e2.trans e3).trans e4
    exact s_ret (e_call (r := .d .none) (ea_cons (E.o (e_var rfl (Tp.mono (tx_of e24) hd1))) (ea_cons (E.o (e_var rfl (Tp.mono (tx_of e24) ho1))) ea_nil)) ⟨d, _, rfl, hw, rfl, hok, rfl⟩) fun v' H5 e5 hv => q v' H5 ((e1.trans e24).trans e5) hv
  | unset i n' =>
    refine q_when (dec "unset" _ false H1 _ _ rfl (by decide +kernel)) (fun z => absurd z (by decide)) fun _ H2 e2 => ?_
    refine q_when (ET.is (et_or (b := false) (b' := false) (dec "unset" _ false H2 _ _ rfl (by decide +kernel)) (fun _ => dec "unset" _ false H2 _ _ rfl (by decide +kernel))) rfl) (fun z => absurd z (by decide)) fun _ H3 e3 => ?_
    refine q_if (dec "unset" _ false H3 _ _ rfl (by decide +kernel)) (fun z => absurd z (by decide)) fun _ H4 e4 => ?_
    have e24 := (e2.trans e3).trans e4
    exact s_ret (e_call (r := .d .none) (ea_cons (E.o (e_var rfl (Tp.mono (tx_of e24) hd1))) (ea_cons (E.o (e_var rfl (Tp.mono (tx_of e24) ho1))) ea_nil)) ⟨d, _, rfl, hw, rfl, hok, rfl⟩) fun v' H5 e5 hv => q v' H5 ((e1.trans e24).trans e5) hv
end
end VL

namespace VL
open PySem L2
theorem wk_map (p : Int) (ks : List Node) : ∀ d : List Node, wk p ks d = d.map (wkN p ks)
  | [] => by simp [wk]
  | n :: r => by rw [wk, wk_map p ks r]; rfl
theorem wn_append1 (p : Int) (x : Node) (a : List Node) (n : Node) : wn p x (a ++ [n]) = wn p x a ++ [wnN p x n] := by
  rw [wn_append]; simp [wn]
theorem filterMap_map {α β : Type} (f : α → β) (l : List α) : l.filterMap (fun x => some (f x)) = l.map f := filterMap_some f l
theorem wn_len (p : Int) (x : Node) : ∀ d : List Node, (wn p x d).length = d.length
  | [] => by simp [wn]
  | n :: r => by rw [wn, List.length_cons, List.length_cons, wn_len p x r]
section
variable {P : Program} {w : World} {K : PySem.W.Frag} {mg : Str → Option Value} {base : Heap}
/-- with_kids, node_with_kids -/
def S_wk (N : Nat) : List Rs → Rs → Prop := fun as r => ∃ (d : List Node) (p : Int) (ks : List Node), as = [.d (eD d), .d (.int p), .d (eD ks)] ∧ Lv N d ∧ (ids d).length ≤ 10000 ∧ r = .d (eD (withKids d p ks))
def S_nwk (N : Nat) : List Rs → Rs → Prop := fun as r => ∃ (x : Node) (p : Int) (ks : List Node), as = [.d (eN x), .d (.int p), .d (eD ks)] ∧ p ≠ 0 ∧ Lv N x.kids ∧ (ids x.kids).length ≤ 10000 ∧ r = .d (eN (wkN p ks x))
theorem c_nwk (T : Txt K mg) (N k : Nat) (C_with_kids : Cl P w K mg base k "with_kids" ["document", "parent", "kids"] (FS (S_wk N))) : Cl P w K mg base (k + 1) "node_with_kids" ["node", "parent", "kids"] (FS (S_nwk N)) := by
  refine cl_fs T.d_node_with_kids sc_node_with_kids (fun as r ⟨_, _, _, e, _⟩ => by rw [e]; rfl) fun f cdv A outer s H vs as r Q Ew hr ha ⟨x, p, ks, e1, hp0, hl, hz, e2⟩ q => ?_
  subst e1 e2
  obtain - | ⟨hx, - | ⟨hp, - | ⟨hk, - | -⟩⟩⟩ := ha
  refine ⟨_, (pss_cons (ps_if (pt_cmpR op_ne (pe_ix ix_tup (pv 0) pe_int (fun _ _ => rfl)) pe_str (nomark _)) (pss_one (ps_ret (pv 0))) pss_nil)
      (pss_cons (ps_if (pt_cmpR op_eq (pe_ix ix_tup (pv 0) pe_int (fun _ _ => rfl)) (pv 1) (nomark _)) (pss_one (ps_ret (pe_op op_catA (pe_slice sl_tupA (pv 0) po_none (po_some pe_int)) (pe_tup (pa_cons (pv 2) pa_nil))))) pss_nil)
      (pss_one (ps_ret (pe_op op_catA (pe_slice sl_tupA (pv 0) po_none (po_some pe_int)) (pe_tup (pa_cons (pe_cl C_with_kids (hr.mono (by omega)) rfl (pa_cons (pe_ix ix_tup (pv 0) pe_int (fun _ _ => rfl)) (pa_cons (pv 1) (pa_cons (pv 2) pa_nil)))) pa_nil))))))), ?_⟩
  cases x with
  | text i s' =>
    have hxt := hx
    rw [eN_text] at hxt
    refine q_when (ET.is (b' := true) (et_neS (e_ixT 0 (e_var rfl hxt) e_int rfl) e_str) (by decide +kernel)) (fun _ H1 e1 => ?_) (fun z => absurd z (by decide))
    refine s_ret (e_var rfl (Tp.mono (tx_of e1) hx)) fun v H2 e2 hv => q v H2 (e1.trans e2) ?_
    rw [wkN]
    exact hv
  | elem i t a k =>
    rw [eN_elem] at hx
    refine q_when (ET.is (b' := false) (et_neS (e_ixT 0 (e_var rfl hx) e_int rfl) e_str) (by decide +kernel)) (fun z => absurd z (by decide)) fun _ H1 e1 => ?_
    have hx1 := Tp.mono (tx_of e1) hx
    rw [wkN] at q
    refine q_when (et_eqI (e_ixT 1 (e_var rfl hx1) e_int rfl) (e_var rfl (Tp.mono (tx_of e1) hp))) (fun h2 H2 e2 => ?_) fun h2 H2 e2 => ?_
    · rw [if_pos (of_decide_eq_true h2)] at q
      have e02 := e1.trans e2
      refine s_ret (e_catT (xs := [.str "element", .int i, .str t, .tuple (a.map eP)]) (ys := [eD ks]) (E.is (e_slT (e_var rfl (Tp.mono (tx_of e02) hx)) eo_no (eo_part (i := ((4 : Nat) : Int)) e_int)) (by rw [cutD_to]; rfl)) (e_tup (ds := [eD ks]) (ea_cons (E.o (e_var rfl (Tp.mono (tx_of e02) hk))) ea_nil)) (by exact Nat.le_of_ble_eq_true rfl)) fun v H3 e3 hv => q v H3 (e02.trans e3) ?_
      rw [eN_elem]
      exact hv
    · rw [if_neg (of_decide_eq_false h2)] at q
      have e02 := e1.trans e2
      have ew : withKids k p ks = wk p ks k := by unfold withKids; rw [if_neg hp0]
      refine s_ret (e_catT (xs := [.str "element", .int i, .str t, .tuple (a.map eP)]) (ys := [eD (wk p ks k)]) (E.is (e_slT (e_var rfl (Tp.mono (tx_of e02) hx)) eo_no (eo_part (i := ((4 : Nat) : Int)) e_int)) (by rw [cutD_to]; rfl)) (e_tup (ds := [eD (wk p ks k)]) (ea_cons (E.o (e_call (r := .d (eD (wk p ks k))) (ea_cons (E.o (e_ixT 4 (e_var rfl (Tp.mono (tx_of e02) hx)) e_int rfl)) (ea_cons (E.o (e_var rfl (Tp.mono (tx_of e02) hp))) (ea_cons (E.o (e_var rfl (Tp.mono (tx_of e02) hk))) ea_nil))) ⟨k, p, ks, rfl, hl, hz, by rw [ew]⟩)) ea_nil)) (by exact Nat.le_of_ble_eq_true rfl)) fun v H3 e3 hv => q v H3 (e02.trans e3) ?_
      rw [eN_elem]
      exact hv
theorem c_with_kids (T : Txt K mg) : ∀ N : Nat, Cl P w K mg base (2 * N + 2) "with_kids" ["document", "parent", "kids"] (FS (S_wk N)) := by
  intro N
  induction N with
  | zero => exact go 0 (cl_no T.d_node_with_kids)
  | succ N ih => exact go (N + 1) (c_nwk T N (2 * N + 2) ih)
where
  go (N : Nat) (C_node_with_kids : Cl P w K mg base (2 * N + 1) "node_with_kids" ["node", "parent", "kids"] (FS (less S_nwk N))) : Cl P w K mg base (2 * N + 2) "with_kids" ["document", "parent", "kids"] (FS (S_wk N)) := by
    refine cl_fs T.d_with_kids sc_with_kids (fun as r ⟨_, _, _, e, _⟩ => by rw [e]; rfl) fun f cdv A outer s H vs as r Q Ew hr ha ⟨d, p, ks, e1, hl, hz, e2⟩ q => ?_
    subst e1 e2
    obtain - | ⟨hd, - | ⟨hp, - | ⟨hk, - | -⟩⟩⟩ := ha
    refine ⟨_, (pss_cons (ps_if (pt_cmpR op_eq (pv 1) pe_int (nomark _)) (pss_one (ps_ret (pv 2))) pss_nil)
      (pss_one (ps_ret (pe_callTy call_to rfl T.n_tuple bt_tuple (pa_cons (pe_lc (own := [("node", 3)]) (g := (gName 3)) (tt := tYes) (te := (tCall _ [] E0 (tCons (tVar 3) (tCons (tVar 1) (tCons (tVar 2) tNil))))) rfl sc_with_kids.nd (pi_tup (pv 0)) (blkOk_by (own := [("node", 3)]) (N := ["document", "parent", "kids", "node"]) (sc := defScope s_with_kids) (by decide +kernel)) (fun _ _ _ _ _ => (pg_name (i := 3) sc_with_kids.nd rfl (Or.inl rfl))) (fun _ _ _ _ _ => pts_nil) (fun _ _ _ _ _ => (pe_cl C_node_with_kids (hr.mono (by omega)) rfl (pa_cons (pv 3) (pa_cons (pv 1) (pa_cons (pv 2) pa_nil)))))) pa_nil))))), ?_⟩
    have hdl := len_ids d
    unfold withKids at q
    refine q_when (et_eqI (e_var rfl hp) e_int) (fun h1 H1 e1 => ?_) fun h1 H1 e1 => ?_
    · rw [if_pos (of_decide_eq_true h1)] at q
      exact s_ret (e_var rfl (Tp.mono (tx_of e1) hk)) fun v H2 e2 hv => q v H2 (e1.trans e2) hv
    · have hp0 := of_decide_eq_false h1
      rw [if_neg hp0] at q
      obtain rfl := Tp.int_inv hp
      refine s_ret (e_to (xs := (wk p ks d).map eN) (E.o (E.is (e_lcT (enc := eN) (xs := d) (fun x => some (eN (wkN p ks x))) (e_var rfl (Tp.mono (tx_of e1) hd)) (by omega) (fun x hx v H2 e2 hv Q' k' => k' _ H2 (Same.refl H2) rfl ⟨true, et_yes, _, rfl, ?_⟩)) (by rw [filterMap_some, wk_map, List.map_map]; rfl)))) fun v H3 e3 hv => q v H3 (e1.trans e3) hv
      obtain ⟨m, rfl, hm⟩ := hl.mem hx
      exact e_call (ea_cons (E.o (e_var rfl hv)) (ea_cons (E.o (e_var rfl (Tp.int p))) (ea_cons (E.o (e_var rfl (Tp.mono (tx_of (e1.trans e2)) hk))) ea_nil))) ⟨x, p, ks, rfl, hp0, hm, Nat.le_trans (kids_len hx) hz, rfl⟩

/-- with_node -/
def S_wn (N : Nat) : List Rs → Rs → Prop := fun as r => ∃ (d : List Node) (p : Int) (x : Node), as = [.d (eD d), .d (.int p), .d (eN x)] ∧ Lv N d ∧ (ids d).length ≤ 10000 ∧ r = .d (eD (wn p x d))
theorem c_with_node (T : Txt K mg) : ∀ N : Nat, Cl P w K mg base (N + 2) "with_node" ["document", "number", "node"] (FS (S_wn N)) := by
  intro N
  induction N with
  | zero => exact go 0 (cl_no T.d_with_node)
  | succ N ih => exact go (N + 1) ih
where
  go (N : Nat) (C_with_node : Cl P w K mg base (N + 1) "with_node" ["document", "number", "node"] (FS (less S_wn N))) : Cl P w K mg base (N + 2) "with_node" ["document", "number", "node"] (FS (S_wn N)) := by
    refine cl_fs T.d_with_node sc_with_node (fun as r ⟨_, _, _, e, _⟩ => by rw [e]; rfl) fun f cdv A outer s H vs as r Q Ew hr ha ⟨d, p, x, e1, hl, hz, e2⟩ q => ?_
    subst e1 e2
    obtain - | ⟨hd, - | ⟨hp, - | ⟨hx, - | -⟩⟩⟩ := ha
    refine ⟨_, (pss_cons (ps_set (i := 3) sc_with_node.nd rfl (Or.inl rfl) (pe_lst pa_nil))
      (pss_cons (ps_for PassesOwn.never rfl (pi_tup (pv 0)) (pg_name (i := 4) sc_with_node.nd rfl (Or.inl rfl)) (pss_one (ps_if (pt_cmpR op_eq (pe_ix ix_tup (pv 4) pe_int (fun _ _ => rfl)) (pv 1) (nomark _)) (pss_one (ps_expr (pe_bm PySem.F.plainAttrs_list PySem.F.slot_list_append PySem.F.type_list_append mt_append (pv 3) (pa_cons (pv 2) pa_nil)))) (pss_one (ps_if (pt_cmpR op_eq (pe_ix ix_tup (pv 4) pe_int (fun _ _ => rfl)) pe_str (nomark _)) (pss_one (ps_expr (pe_bm PySem.F.plainAttrs_list PySem.F.slot_list_append PySem.F.type_list_append mt_append (pv 3) (pa_cons (pe_op op_catA (pe_slice sl_tupA (pv 4) po_none (po_some pe_int)) (pe_tup (pa_cons (pe_cl C_with_node (hr.mono (by omega)) rfl (pa_cons (pe_ix ix_tup (pv 4) pe_int (fun _ _ => rfl)) (pa_cons (pv 1) (pa_cons (pv 2) pa_nil)))) pa_nil))) pa_nil)))) (pss_one (ps_expr (pe_bm PySem.F.plainAttrs_list PySem.F.slot_list_append PySem.F.type_list_append mt_append (pv 3) (pa_cons (pv 4) pa_nil)))))))))
      (pss_one (ps_ret (pe_callTy call_to rfl T.n_tuple bt_tuple (pa_cons (pv 3) pa_nil)))))), ?_⟩
    have hdl := len_ids d
    refine q_new (Same.refl H) fun l H1 e1 hlc => ?_
    refine q_forV (H0 := H) (xs := d) rfl hd (fun done todo σ' H' => ∃ v4, σ' = [some _, some _, some _, some (.ref l), v4] ∧ Lc H H' l ((wn p x done).map eN)) ⟨_, rfl, by simpa [wn] using hlc⟩ (fun _ _ _ _ ⟨_, _, h⟩ => h.tx) ?_ ?_
    · rintro done n todo u σ' H' ed ⟨v4, rfl, hlc⟩ hu
      have hn : n ∈ d := by rw [ed]; simp
      have hdn : (wn p x done).length < 10000 := by
        rw [wn_len]
        have : d.length = done.length + (todo.length + 1) := by rw [ed]; simp
        omega
      have hlen : ((wn p x done).map eN).length < 100000 := by rw [List.length_map]; omega
      cases n with
      | text i s' =>
        have hut := hu
        rw [eN_text] at hut
        refine s_if (et_eqI (e_ixT 1 (e_var rfl hut) e_int rfl) (e_var rfl (Tp.mono hlc.tx hp))) (fun h1 H2 e2 => ?_) fun h1 H2 e2 => ?_
        · refine s_push rfl (hlc.same e2) hlen (e_var rfl (Tp.mono (hlc.same e2).tx hx)) fun H3 hlc3 tx3 => ⟨_, rfl, ?_⟩
          rw [wn_append1, wnN, if_pos (of_decide_eq_true h1)]
          simpa using hlc3
        · refine s_if (ET.is (b' := false) (et_eqS (e_ixT 0 (e_var rfl (Tp.mono (tx_of e2) hut)) e_int rfl) e_str) (by decide +kernel)) (fun z => absurd z (by decide)) fun _ H3 e3 => ?_
          refine s_push rfl (hlc.same (e2.trans e3)) hlen (e_var rfl (Tp.mono (tx_of (e2.trans e3)) hu)) fun H4 hlc4 tx4 => ⟨_, rfl, ?_⟩
          rw [wn_append1, wnN, if_neg (of_decide_eq_false h1)]
          simpa using hlc4
      | elem i t a k =>
        rw [eN_elem] at hu
        obtain ⟨m, rfl, hm⟩ := hl.mem hn
        refine s_if (et_eqI (e_ixT 1 (e_var rfl hu) e_int rfl) (e_var rfl (Tp.mono hlc.tx hp))) (fun h1 H2 e2 => ?_) fun h1 H2 e2 => ?_
        · refine s_push rfl (hlc.same e2) hlen (e_var rfl (Tp.mono (hlc.same e2).tx hx)) fun H3 hlc3 tx3 => ⟨_, rfl, ?_⟩
          rw [wn_append1, wnN, if_pos (of_decide_eq_true h1)]
          simpa using hlc3
        · refine s_if (ET.is (b' := true) (et_eqS (e_ixT 0 (e_var rfl (Tp.mono (tx_of e2) hu)) e_int rfl) e_str) (by decide +kernel)) (fun _ H3 e3 => ?_) (fun z => absurd z (by decide))
          have hlc3 := hlc.same (e2.trans e3)
          have hu3 := Tp.mono (tx_of (e2.trans e3)) hu
          refine s_push rfl hlc3 hlen (E.is (e_catT (xs := [.str "element", .int i, .str t, .tuple (a.map eP)]) (ys := [eD (wn p x k)]) (E.is (e_slT (e_var rfl hu3) eo_no (eo_part (i := ((4 : Nat) : Int)) e_int)) (by rw [cutD_to]; rfl)) (e_tup (ds := [eD (wn p x k)]) (ea_cons (E.o (e_call (r := .d (eD (wn p x k))) (ea_cons (E.o (e_ixT 4 (e_var rfl hu3) e_int rfl)) (ea_cons (E.o (e_var rfl (Tp.mono hlc3.tx hp))) (ea_cons (E.o (e_var rfl (Tp.mono hlc3.tx hx))) ea_nil))) ⟨k, p, x, rfl, hm, Nat.le_trans (kids_len hn) hz, rfl⟩)) ea_nil)) (by exact Nat.le_of_ble_eq_true rfl)) (r' := .d (eN (.elem i t a (wn p x k)))) (by rw [eN_elem]; rfl)) fun H4 hlc4 tx4 => ⟨_, rfl, ?_⟩
          rw [wn_append1, wnN, if_neg (of_decide_eq_false h1)]
          simpa using hlc4
    · rintro σ' H' ⟨v4, rfl, hlc⟩
      exact s_ret (e_to (eo_lst rfl hlc.2.2)) fun v H2 e2 hv => q v H2 (hlc.2.1.trans e2) hv

/-- put -/
def S_put : List Rs → Rs → Prop := fun as r => ∃ (ks : List Node) (x : Node) (ah : Option Int), as = [.d (eD ks), .d (eN x), .d (eAh ah)] ∧ ks.length ≤ 10000 ∧ r = .d (eD (put ks x ah))
theorem c_put (T : Txt K mg) : Cl P w K mg base 1 "put" ["kids", "node", "ahead"] (FS S_put) := by
  refine cl_fs T.d_put sc_put (fun as r ⟨_, _, _, e, _⟩ => by rw [e]; rfl) fun f cdv A outer s H vs as r Q Ew hr ha ⟨ks, x, ah, e1, hz, e2⟩ q => ?_
  subst e1 e2
  obtain - | ⟨hk, - | ⟨hx, - | ⟨hh, - | -⟩⟩⟩ := ha
  refine ⟨_, (pss_cons (ps_if (pt_cmpR op_isN1 (pv 2) pe_non (nomark _)) (pss_one (ps_ret (pe_op op_catA (pv 0) (pe_tup (pa_cons (pv 1) pa_nil))))) pss_nil)
      (pss_cons (ps_set (i := 3) sc_put.nd rfl (Or.inl rfl) (pe_lst pa_nil))
      (pss_cons (ps_for PassesOwn.never rfl (pi_tup (pv 0)) (pg_name (i := 4) sc_put.nd rfl (Or.inl rfl)) (pss_cons (ps_if (pt_cmpR op_eq (pe_ix ix_tup (pv 4) pe_int (fun _ _ => rfl)) (pv 2) (nomark _)) (pss_one (ps_expr (pe_bm PySem.F.plainAttrs_list PySem.F.slot_list_append PySem.F.type_list_append mt_append (pv 3) (pa_cons (pv 1) pa_nil)))) pss_nil)
      (pss_one (ps_expr (pe_bm PySem.F.plainAttrs_list PySem.F.slot_list_append PySem.F.type_list_append mt_append (pv 3) (pa_cons (pv 4) pa_nil))))))
      (pss_one (ps_ret (pe_callTy call_to rfl T.n_tuple bt_tuple (pa_cons (pv 3) pa_nil))))))), ?_⟩
  cases ah with
  | none =>
    refine q_when (b := true) (et_isN (e_var rfl hh)) (fun _ H1 e1 => ?_) (fun z => absurd z (by decide))
    refine s_ret (e_catT (ys := [eN x]) (e_var rfl (Tp.mono (tx_of e1) hk)) (e_tup (ds := [eN x]) (ea_cons (E.o (e_var rfl (Tp.mono (tx_of e1) hx))) ea_nil)) (by rw [List.length_map, List.length_cons, List.length_nil]; omega)) fun v H2 e2 hv => q v H2 (e1.trans e2) ?_
    rw [put_nil]
    have e : (ks ++ [x]).map eN = ks.map eN ++ [eN x] := by simp
    show RR _ _ _ (.d (.tuple ((ks ++ [x]).map eN)))
    rw [e]
    exact hv
  | some a =>
    refine q_when (b := false) (et_isN (e_var rfl hh)) (fun z => absurd z (by decide)) fun _ H1 e1 => ?_
    refine q_new e1 fun l H2 e2 hlc => ?_
    refine q_forV (H0 := H) (xs := ks) rfl hk (fun done todo σ' H' => ∃ v4, σ' = [some _, some _, some _, some (.ref l), v4] ∧ Lc H H' l ((put done x (some a)).map eN)) ⟨_, rfl, by simpa [put] using hlc⟩ (fun _ _ _ _ ⟨_, _, h⟩ => h.tx) ?_ ?_
    · rintro done n todo u σ' H' ed ⟨v4, rfl, hlc⟩ hu
      obtain ⟨y, hy, hy1, _⟩ := eN_get n
      have hun := hu
      rw [hy] at hun
      have hpl : ∀ l : List Node, (put l x (some a)).length ≤ 2 * l.length := by
        intro l
        show (l.flatMap fun k => if k.id = a then [x, k] else [k]).length ≤ _
        induction l with
        | nil => simp
        | cons z l ih =>
          rw [List.flatMap_cons, List.length_append, List.length_cons]
          by_cases hz : z.id = a
          · rw [if_pos hz]; simp only [List.length_cons, List.length_nil]; omega
          · rw [if_neg hz]; simp only [List.length_cons, List.length_nil]; omega
      have hdl := hpl done
      have hdd : done.length ≤ 10000 := by
        have : ks.length = done.length + (todo.length + 1) := by rw [ed]; simp
        omega
      have epu : put (done ++ [n]) x (some a) = put done x (some a) ++ (if n.id = a then [x, n] else [n]) := by
        show (done ++ [n]).flatMap _ = _
        rw [List.flatMap_append, List.flatMap_cons, List.flatMap_nil, List.append_nil]
        rfl
      refine q_if (et_eqI (e_ixT 1 (e_var rfl hun) e_int hy1) (e_var rfl (Tp.mono hlc.tx hh))) (fun h1 H3 e3 => ?_) fun h1 H3 e3 => ?_
      · refine s_push rfl (hlc.same e3) (by rw [List.length_map]; omega) (e_var rfl (Tp.mono (hlc.same e3).tx hx)) fun H4 hlc4 tx4 => ?_
        refine s_push rfl hlc4 (by rw [List.length_append, List.length_map, List.length_cons, List.length_nil]; omega) (e_var rfl (Tp.mono ((tx_of e3).trans tx4) hu)) fun H5 hlc5 tx5 => ⟨_, rfl, ?_⟩
        rw [epu, if_pos (of_decide_eq_true h1)]
        simpa using hlc5
      · refine s_push rfl (hlc.same e3) (by rw [List.length_map]; omega) (e_var rfl (Tp.mono (tx_of e3) hu)) fun H4 hlc4 tx4 => ⟨_, rfl, ?_⟩
        rw [epu, if_neg (of_decide_eq_false h1)]
        simpa using hlc4
    · rintro σ' H' ⟨v4, rfl, hlc⟩
      exact s_ret (e_to (eo_lst rfl hlc.2.2)) fun v H2 e2 hv => q v H2 (hlc.2.1.trans e2) hv

/-- changed_attributes -/
def eT : Option Str → PyData
  | none => .none
  | some t => .str t
def S_cha : List Rs → Rs → Prop := fun as r => ∃ (a : Attrs) (n : Str) (t : Option Str), as = [.d (.tuple (a.map eP)), .d (.str n), .d (eT t)] ∧ a.length ≤ 10000 ∧ r = .d (.tuple ((chAttrs a n t).map eP))
theorem c_changed_attributes (T : Txt K mg) : Cl P w K mg base 1 "changed_attributes" ["attributes", "name", "text"] (FS S_cha) := by
  refine cl_fs T.d_changed_attributes sc_changed_attributes (fun as r ⟨_, _, _, e, _⟩ => by rw [e]; rfl) fun f cdv A outer s H vs as r Q Ew hr ha ⟨a, n, t, e1, hz, e2⟩ q => ?_
  subst e1 e2
  obtain - | ⟨hk, - | ⟨hn, - | ⟨ht, - | -⟩⟩⟩ := ha
  refine ⟨_, (pss_cons (ps_setLc (i := 3) (own := [("pair", 4)]) (g := (gName 4)) (tt := (tTest (tOp rNe (tOp (rIxT K) (tVar 4) (tC _)) (tVar 1)))) (te := (tVar 4)) rfl sc_changed_attributes.nd rfl rfl (sw_true rfl rfl rfl (by decide +kernel)) (pi_tup (pv 0)) (blkOk_by (own := [("pair", 4)]) (N := ["attributes", "name", "text", "found", "pair"]) (sc := defScope s_changed_attributes) (by decide +kernel)) (fun _ _ _ _ _ => (pg_name (i := 4) sc_changed_attributes.nd rfl (Or.inl rfl))) (fun _ _ _ _ _ => (pts_one (pt_cmpR op_ne (pe_ix ix_tup (pv 4) pe_int (fun _ _ => rfl)) (pv 1) (nomark _)))) (fun _ _ _ _ _ => (pv 4)))
      (pss_cons (ps_if (pt_cmpR op_notN1 (pv 2) pe_non (nomark _)) (pss_one (ps_expr (pe_bm PySem.F.plainAttrs_list PySem.F.slot_list_append PySem.F.type_list_append mt_append (pv 3) (pa_cons (pe_tup (pa_cons (pv 1) (pa_cons (pv 2) pa_nil))) pa_nil)))) pss_nil)
      (pss_one (ps_ret (pe_callTy call_to rfl T.n_tuple bt_tuple (pa_cons (pe_callB (cr_sortedA hr) rfl T.n_sorted bt_sorted (pa_cons (pv 3) pa_nil)) pa_nil)))))), ?_⟩
  refine q_asg (E.is (e_lcT (enc := eP) (xs := a) (fun p => if (p.1 != n) = true then some (eP p) else none) (e_var rfl hk) (by omega) (fun p _ v H2 e2 hv Q' k' => k' _ H2 (Same.refl H2) rfl ⟨_, et_neS (e_ixT (ds := [.str p.1, .str p.2]) 0 (e_var rfl hv) e_int rfl) (e_var rfl (Tp.mono (tx_of e2) hn)), ?_⟩)) (r' := .l ((a.filter fun p => p.1 != n).map eP)) (by rw [filterMap_if (fun p : Str × Str => p.1 != n) eP])) fun v H1 e1 hv => ?_
  · have e : (!decide (p.1 = n)) = (p.1 != n) := by simp [bne, Bool.beq_eq_decide_eq]
    cases hc : (p.1 != n) with
    | true =>
      rw [e, hc, if_pos rfl]
      exact ⟨_, if_pos rfl, e_var rfl hv⟩
    | false =>
      rw [e, hc, if_neg Bool.false_ne_true, if_neg Bool.false_ne_true]
  obtain ⟨l, rfl, hlc⟩ := lc_of (Same.refl H) e1 hv
  have hfl := List.length_filter_le (fun p : Str × Str => p.1 != n) a
  cases t with
  | none =>
    refine q_when (b := false) (ET.is (et_notN (e_var rfl (Tp.mono hlc.tx ht))) rfl) (fun z => absurd z (by decide)) fun _ H2 e2 => ?_
    have hlc2 := hlc.same e2
    refine s_ret (e_to (E.o (e_sortedA (eo_lst rfl hlc2.2.2)))) fun v H3 e3 hv => q v H3 (hlc2.2.1.trans e3) ?_
    unfold chAttrs
    rw [List.append_nil]
    exact hv
  | some t =>
    refine q_if (b := true) (ET.is (et_notN (e_var rfl (Tp.mono hlc.tx ht))) rfl) (fun _ H2 e2 => ?_) (fun z => absurd z (by decide))
    have hlc2 := hlc.same e2
    refine s_push rfl hlc2 (by rw [List.length_map]; omega) (e_tup (ds := [.str n, .str t]) (ea_cons (E.o (e_var rfl (Tp.mono hlc2.tx hn))) (ea_cons (E.o (e_var rfl (Tp.mono hlc2.tx ht))) ea_nil))) fun H3 hlc3 tx3 => ?_
    have hl3 : Ls H3 l (((a.filter fun p => p.1 != n) ++ [(n, t)]).map eP) := by
      have := hlc3.2.2
      simpa [eP] using this
    refine s_ret (e_to (E.o (e_sortedA (eo_lst rfl hl3)))) fun v H4 e4 hv => q v H4 (hlc3.2.1.trans e4) hv

/-- made_operation -/
theorem find_id : ∀ (d : List Node) (p : Int) (x : Node), find d p = some x → x.id = p := by
  intro d
  induction d using forest with
  | nil => intro p x h; rw [find_nil] at h; cases h
  | cons n r h1 h2 =>
    intro p x h
    rw [find_cons, findN_eq] at h
    by_cases hp : n.id = p
    · rw [if_pos hp] at h
      cases h
      exact hp
    · rw [if_neg hp] at h
      cases e : find n.kids p with
      | none => rw [e] at h; exact h2 p x h
      | some z =>
        rw [e] at h
        cases h
        exact h1 p _ e
theorem find_lv : ∀ (d : List Node) (p : Int) (x : Node) (N : Nat), find d p = some x → Lv N d → Lv N x.kids ∧ (ids x.kids).length ≤ (ids d).length := by
  intro d
  induction d using forest with
  | nil => intro p x N h; rw [find_nil] at h; cases h
  | cons n r h1 h2 =>
    intro p x N h hl
    obtain ⟨m, rfl, hn⟩ := hl.mem (x := n) (by simp)
    rw [find_cons, findN_eq] at h
    have en := kids_len (l := n :: r) (x := n) (by simp)
    by_cases hp : n.id = p
    · rw [if_pos hp] at h
      cases h
      exact ⟨hn.mono (by omega), en⟩
    · rw [if_neg hp] at h
      cases e : find n.kids p with
      | none =>
        rw [e] at h
        have := h2 p x (m + 1) h (hl.sub fun z hz => by simp [hz])
        refine ⟨this.1, ?_⟩
        rw [ids_cons, List.length_append]
        omega
      | some z =>
        rw [e] at h
        cases h
        have := h1 p _ m e hn
        exact ⟨this.1.mono (by omega), by omega⟩
theorem kids_lv {d ks : List Node} {p : Int} {N : Nat} (h : kidsOf d p = some ks) (hl : Lv N d) : Lv N ks ∧ (ids ks).length ≤ (ids d).length := by
  unfold kidsOf at h
  by_cases hp : p = 0
  · rw [if_pos hp] at h
    cases h
    exact ⟨hl, Nat.le_refl _⟩
  · rw [if_neg hp] at h
    cases e : find d p with
    | none => rw [e] at h; cases h
    | some x =>
      rw [e] at h
      cases x with
      | text => cases h
      | elem i t a k =>
        cases h
        exact find_lv d p _ N e hl
def S_made : List Rs → Rs → Prop := fun as r => ∃ (d : List Node) (op : Op), as = [.d (eD d), .d (eOp op)] ∧ Wk d ∧ OpOk d op ∧ (∀ p i ah, op = .move p i ah → ∃ ks x, kidsOf d p = some ks ∧ find ks i = some x) ∧ r = .d (eD (made d op))
theorem c_made_operation (T : Txt K mg) : Cl P w K mg base 90 "made_operation" ["document", "operation"] (FS S_made) := by
  have C_kids_of := c_kids_of (P := P) (w := w) (base := base) T 40
  have C_find_node := c_find_node (P := P) (w := w) (base := base) T 40
  have C_with_node := c_with_node (P := P) (w := w) (base := base) T 40
  have C_with_kids := c_with_kids (P := P) (w := w) (base := base) T 40
  have C_put := c_put (P := P) (w := w) (base := base) T
  have C_changed_attributes := c_changed_attributes (P := P) (w := w) (base := base) T
  refine cl_fs T.d_made_operation sc_made_operation (fun as r ⟨_, _, e, _⟩ => by rw [e]; rfl) fun f cdv A outer s H vs as r Q Ew hr ha ⟨d, op, e1, hw, hok, hmv, e2⟩ q => ?_
  subst e1 e2
  obtain - | ⟨hd, - | ⟨ho, - | -⟩⟩ := ha
  refine ⟨_, (pss_cons (ps_set (i := 2) sc_made_operation.nd rfl (Or.inl rfl) (pe_ix ix_tup (pv 1) pe_int (fun _ _ => rfl)))
      (pss_cons (ps_if (pt_cmpR op_eq (pv 2) pe_str (nomark _)) (pss_one (ps_ret (pe_cl C_with_node (hr.mono (by omega)) rfl (pa_cons (pv 0) (pa_cons (pe_ix ix_tup (pv 1) pe_int (fun _ _ => rfl)) (pa_cons (pe_tup (pa_cons pe_str (pa_cons (pe_ix ix_tup (pv 1) pe_int (fun _ _ => rfl)) (pa_cons (pe_ix ix_tup (pv 1) pe_int (fun _ _ => rfl)) pa_nil)))) pa_nil)))))) pss_nil)
      (pss_cons (ps_if (PW.pt (pw_or (pt_cmpR op_eq (pv 2) pe_str (nomark _)) (pw_or1 (pt_cmpR op_eq (pv 2) pe_str (nomark _))))) (pss_cons (ps_set (i := 3) sc_made_operation.nd rfl (Or.inl rfl) (pe_cl C_find_node (hr.mono (by omega)) rfl (pa_cons (pv 0) (pa_cons (pe_ix ix_tup (pv 1) pe_int (fun _ _ => rfl)) pa_nil))))
      (pss_cons (ps_set (i := 4) sc_made_operation.nd rfl (Or.inl rfl) pe_non)
      (pss_cons (ps_if (pt_cmpR op_eq (pv 2) pe_str (nomark _)) (pss_one (ps_set (i := 4) sc_made_operation.nd rfl (Or.inl rfl) (pe_ix ix_tup (pv 1) pe_int (fun _ _ => rfl)))) pss_nil)
      (pss_cons (ps_set (i := 5) sc_made_operation.nd rfl (Or.inl rfl) (pe_cl C_changed_attributes (hr.mono (by omega)) rfl (pa_cons (pe_ix ix_tup (pv 3) pe_int (fun _ _ => rfl)) (pa_cons (pe_ix ix_tup (pv 1) pe_int (fun _ _ => rfl)) (pa_cons (pv 4) pa_nil)))))
      (pss_one (ps_ret (pe_cl C_with_node (hr.mono (by omega)) rfl (pa_cons (pv 0) (pa_cons (pe_ix ix_tup (pv 1) pe_int (fun _ _ => rfl)) (pa_cons (pe_op op_catA (pe_slice sl_tupA (pv 3) po_none (po_some pe_int)) (pe_tup (pa_cons (pv 5) (pa_cons (pe_ix ix_tup (pv 3) pe_int (fun _ _ => rfl)) pa_nil)))) pa_nil)))))))))) pss_nil)
      (pss_cons (ps_set (i := 6) sc_made_operation.nd rfl (Or.inl rfl) (pe_cl C_kids_of (hr.mono (by omega)) rfl (pa_cons (pv 0) (pa_cons (pe_ix ix_tup (pv 1) pe_int (fun _ _ => rfl)) pa_nil))))
      (pss_cons (ps_if (pt_cmpR op_eq (pv 2) pe_str (nomark _)) (pss_one (ps_ret (pe_cl C_with_kids (hr.mono (by omega)) rfl (pa_cons (pv 0) (pa_cons (pe_ix ix_tup (pv 1) pe_int (fun _ _ => rfl)) (pa_cons (pe_cl C_put (hr.mono (by omega)) rfl (pa_cons (pv 6) (pa_cons (pe_ix ix_tup (pv 1) pe_int (fun _ _ => rfl)) (pa_cons (pe_ix ix_tup (pv 1) pe_int (fun _ _ => rfl)) pa_nil)))) pa_nil)))))) pss_nil)
      (pss_cons (ps_set (i := 7) sc_made_operation.nd rfl (Or.inl rfl) (pe_callTy call_to rfl T.n_tuple bt_tuple (pa_cons (pe_lc (own := [("kid", 8)]) (g := (gName 8)) (tt := (tTest (tOp rNe (tOp (rIxT K) (tVar 8) (tC _)) (tOp (rIxT K) (tVar 1) (tC _))))) (te := (tVar 8)) rfl sc_made_operation.nd (pi_tup (pv 6)) (blkOk_by (own := [("kid", 8)]) (N := ["document", "operation", "word", "node", "text", "attributes", "kids", "others", "kid"]) (sc := defScope s_made_operation) (by decide +kernel)) (fun _ _ _ _ _ => (pg_name (i := 8) sc_made_operation.nd rfl (Or.inl rfl))) (fun _ _ _ _ _ => (pts_one (pt_cmpR op_ne (pe_ix ix_tup (pv 8) pe_int (fun _ _ => rfl)) (pe_ix ix_tup (pv 1) pe_int (fun _ _ => rfl)) (nomark _)))) (fun _ _ _ _ _ => (pv 8))) pa_nil)))
      (pss_cons (ps_if (pt_cmpR op_eq (pv 2) pe_str (nomark _)) (pss_one (ps_set (i := 7) sc_made_operation.nd rfl (Or.inl rfl) (pe_cl C_put (hr.mono (by omega)) rfl (pa_cons (pv 7) (pa_cons (pe_cl C_find_node (hr.mono (by omega)) rfl (pa_cons (pv 6) (pa_cons (pe_ix ix_tup (pv 1) pe_int (fun _ _ => rfl)) pa_nil))) (pa_cons (pe_ix ix_tup (pv 1) pe_int (fun _ _ => rfl)) pa_nil)))))) pss_nil)
      (pss_one (ps_ret (pe_cl C_with_kids (hr.mono (by omega)) rfl (pa_cons (pv 0) (pa_cons (pe_ix ix_tup (pv 1) pe_int (fun _ _ => rfl)) (pa_cons (pv 7) pa_nil))))))))))))), ?_⟩
  obtain ⟨y, hy, hy0⟩ := eOp_get op
  have hon := ho
  rw [hy] at hon
  refine q_asg (e_ixT 0 (e_var rfl hon) e_int hy0) fun v H1 e1 hv => ?_
  obtain rfl := Tp.str_inv hv
  have hd1 := Tp.mono (tx_of e1) hd
  have ho1 := Tp.mono (tx_of e1) ho
  have dec : ∀ (s1 s2 : Str) (b : Bool) (H' : Hp) (σ : L2.St) (i : Nat), σ[i]? = some (some (.str s1)) → decide (s1 = s2) = b → ET (tTest (tOp rEq (tVar i) (tC (.str s2)))) σ H' b := fun s1 s2 b H' σ i h e => ET.is (et_eqS (e_var h (Tp.str s1)) e_str) e
  cases op with
  | text i s' =>
    have ho2 : Tp H1 _ (.tuple [.str "text", .int i, .str s']) := ho1
    refine q_when (dec "text" _ true H1 _ _ rfl (by decide +kernel)) (fun _ H2 e2 => ?_) (fun z => absurd z (by decide))
    have ho3 := ho2.mono (tx_of e2)
    exact s_ret (e_call (r := .d (eD (made d (.text i s')))) (ea_cons (E.o (e_var rfl (Tp.mono (tx_of e2) hd1))) (ea_cons (E.o (e_ixT 1 (e_var rfl ho3) e_int rfl)) (ea_cons (E.o (e_tup (ds := [.str "text", .int i, .str s']) (ea_cons (E.o e_str) (ea_cons (E.o (e_ixT 1 (e_var rfl ho3) e_int rfl)) (ea_cons (E.o (e_ixT 2 (e_var rfl ho3) e_int rfl)) ea_nil))))) ea_nil))) ⟨d, i, .text i s', by rw [eN_text], hw.lv, hw.len, rfl⟩) fun v' H3 e3 hv => q v' H3 ((e1.trans e2).trans e3) hv
  | set i n' t' =>
    obtain ⟨g, a, k, hf⟩ := hok
    have hi : (Node.elem i g a k).id = i := rfl
    have ho2 : Tp H1 _ (.tuple [.str "set", .int i, .str n', .str t']) := ho1
    have hal := find_mem d i _ hf hw.att
    simp only [AtN] at hal
    refine q_when (dec "set" _ false H1 _ _ rfl (by decide +kernel)) (fun z => absurd z (by decide)) fun _ H2 e2 => ?_
    refine q_if (ET.is (et_or (b := true) (b' := true) (dec "set" _ true H2 _ _ rfl (by decide +kernel)) (fun z => absurd z (by decide))) rfl) (fun _ H3 e3 => ?_) (fun z => absurd z (by decide))
    have e23 := e2.trans e3
    have ho3 := ho2.mono (tx_of e23)
    refine q_asg (e_call (r := .d (eN (.elem i g a k))) (ea_cons (E.o (e_var rfl (Tp.mono (tx_of e23) hd1))) (ea_cons (E.o (e_ixT 1 (e_var rfl ho3) e_int rfl)) ea_nil)) ⟨d, i, rfl, hw.lv, by rw [hf]; rfl⟩) fun v4 H4 e4 hv4 => ?_
    rw [eN_elem] at hv4
    have hv4 : Tp H4 v4 (.tuple [.str "element", .int i, .str g, .tuple (a.map eP), eD k]) := hv4
    refine q_asg e_non fun v5 H5 e5 hv5 => ?_
    refine q_if (dec "set" _ true H5 _ _ rfl (by decide +kernel)) (fun _ H6 e6 => ?_) (fun z => absurd z (by decide))
    have e46 := (e4.trans e5).trans e6
    have ho6 := ho3.mono (tx_of e46)
    refine s_asg (e_ixT 3 (e_var rfl ho6) e_int rfl) fun v7 H7 e7 hv7 => ?_
    obtain rfl := Tp.str_inv hv7
    have e47 := e46.trans e7
    have ho7 := ho3.mono (tx_of e47)
    have hv47 := hv4.mono (tx_of ((e5.trans e6).trans e7))
    refine q_asg (e_call (r := .d (.tuple ((chAttrs a n' (some t')).map eP))) (ea_cons (E.o (e_ixT 3 (e_var rfl hv47) e_int rfl)) (ea_cons (E.o (e_ixT 2 (e_var rfl ho7) e_int rfl)) (ea_cons (E.o (e_var rfl (Tp.str t'))) ea_nil))) ⟨a, n', some t', rfl, by omega, rfl⟩) fun v8 H8 e8 hv8 => ?_
    have e48 := e47.trans e8
    have hv48 := hv47.mono (tx_of e8)
    refine s_ret (e_call (r := .d (eD (made d (.set i n' t')))) (ea_cons (E.o (e_var rfl (Tp.mono (tx_of (e23.trans e48)) hd1))) (ea_cons (E.o (e_ixT 1 (e_var rfl (ho7.mono (tx_of e8))) e_int rfl)) (ea_cons (E.o (E.is (e_catT (xs := [.str "element", .int i, .str g]) (ys := [.tuple ((chAttrs a n' (some t')).map eP), eD k]) (E.is (e_slT (e_var rfl hv48) eo_no (eo_part (i := ((3 : Nat) : Int)) e_int)) (by rw [cutD_to]; rfl)) (e_tup (ds := [.tuple ((chAttrs a n' (some t')).map eP), eD k]) (ea_cons (E.o (e_var rfl hv8)) (ea_cons (E.o (e_ixT 4 (e_var rfl hv48) e_int rfl)) ea_nil))) (by exact Nat.le_of_ble_eq_true rfl)) (r' := .d (eN (.elem i g (chAttrs a n' (some t')) k))) (by rw [eN_elem]; rfl))) ea_nil))) ⟨d, i, .elem i g (chAttrs a n' (some t')) k, rfl, hw.lv, hw.len, ?_⟩) fun v' H9 e9 hv => q v' H9 ((e1.trans (e23.trans e48)).trans e9) hv
    show Rs.d (eD (match find d i with | some (Node.elem j g a k) => wn i (Node.elem j g (chAttrs a n' (some t')) k) d | _ => d)) = _
    rw [hf]
  | unset i n' =>
    obtain ⟨g, a, k, hf, _⟩ := hok
    have ho2 : Tp H1 _ (.tuple [.str "unset", .int i, .str n']) := ho1
    have hal := find_mem d i _ hf hw.att
    simp only [AtN] at hal
    refine q_when (dec "unset" _ false H1 _ _ rfl (by decide +kernel)) (fun z => absurd z (by decide)) fun _ H2 e2 => ?_
    refine q_if (ET.is (et_or (b := false) (b' := true) (dec "unset" _ false H2 _ _ rfl (by decide +kernel)) (fun _ => dec "unset" _ true H2 _ _ rfl (by decide +kernel))) rfl) (fun _ H3 e3 => ?_) (fun z => absurd z (by decide))
    have e23 := e2.trans e3
    have ho3 := ho2.mono (tx_of e23)
    refine q_asg (e_call (r := .d (eN (.elem i g a k))) (ea_cons (E.o (e_var rfl (Tp.mono (tx_of e23) hd1))) (ea_cons (E.o (e_ixT 1 (e_var rfl ho3) e_int rfl)) ea_nil)) ⟨d, i, rfl, hw.lv, by rw [hf]; rfl⟩) fun v4 H4 e4 hv4 => ?_
    rw [eN_elem] at hv4
    have hv4 : Tp H4 v4 (.tuple [.str "element", .int i, .str g, .tuple (a.map eP), eD k]) := hv4
    refine q_asg e_non fun v5 H5 e5 hv5 => ?_
    obtain rfl := Tp.non_inv hv5
    refine q_when (dec "unset" _ false H5 _ _ rfl (by decide +kernel)) (fun z => absurd z (by decide)) fun _ H6 e6 => ?_
    have e46 := (e4.trans e5).trans e6
    have ho7 := ho3.mono (tx_of e46)
    have hv47 := hv4.mono (tx_of (e5.trans e6))
    refine q_asg (e_call (r := .d (.tuple ((chAttrs a n' none).map eP))) (ea_cons (E.o (e_ixT 3 (e_var rfl hv47) e_int rfl)) (ea_cons (E.o (e_ixT 2 (e_var rfl ho7) e_int rfl)) (ea_cons (E.o (e_var rfl Tp.non)) ea_nil))) ⟨a, n', none, rfl, by omega, rfl⟩) fun v8 H8 e8 hv8 => ?_
    have e48 := e46.trans e8
    have hv48 := hv47.mono (tx_of e8)
    refine s_ret (e_call (r := .d (eD (made d (.unset i n')))) (ea_cons (E.o (e_var rfl (Tp.mono (tx_of (e23.trans e48)) hd1))) (ea_cons (E.o (e_ixT 1 (e_var rfl (ho7.mono (tx_of e8))) e_int rfl)) (ea_cons (E.o (E.is (e_catT (xs := [.str "element", .int i, .str g]) (ys := [.tuple ((chAttrs a n' none).map eP), eD k]) (E.is (e_slT (e_var rfl hv48) eo_no (eo_part (i := ((3 : Nat) : Int)) e_int)) (by rw [cutD_to]; rfl)) (e_tup (ds := [.tuple ((chAttrs a n' none).map eP), eD k]) (ea_cons (E.o (e_var rfl hv8)) (ea_cons (E.o (e_ixT 4 (e_var rfl hv48) e_int rfl)) ea_nil))) (by exact Nat.le_of_ble_eq_true rfl)) (r' := .d (eN (.elem i g (chAttrs a n' none) k))) (by rw [eN_elem]; rfl))) ea_nil))) ⟨d, i, .elem i g (chAttrs a n' none) k, rfl, hw.lv, hw.len, ?_⟩) fun v' H9 e9 hv => q v' H9 ((e1.trans (e23.trans e48)).trans e9) hv
    show Rs.d (eD (match find d i with | some (Node.elem j g a k) => wn i (Node.elem j g (chAttrs a n' none) k) d | _ => d)) = _
    rw [hf]
  | insert p x ah =>
    obtain ⟨ks, hks, _⟩ := hok
    obtain ⟨kl, kz⟩ := kids_lv hks hw.lv
    have hkl := len_ids ks
    have hdz := hw.len
    have ho2 : Tp H1 _ (.tuple [.str "insert", .int p, eN x, eAh ah]) := ho1
    refine q_when (dec "insert" _ false H1 _ _ rfl (by decide +kernel)) (fun z => absurd z (by decide)) fun _ H2 e2 => ?_
    refine q_when (ET.is (et_or (b := false) (b' := false) (dec "insert" _ false H2 _ _ rfl (by decide +kernel)) (fun _ => dec "insert" _ false H2 _ _ rfl (by decide +kernel))) rfl) (fun z => absurd z (by decide)) fun _ H3 e3 => ?_
    have e23 := e2.trans e3
    have ho3 := ho2.mono (tx_of e23)
    refine q_asg (e_call (r := .d (eD ks)) (ea_cons (E.o (e_var rfl (Tp.mono (tx_of e23) hd1))) (ea_cons (E.o (e_ixT 1 (e_var rfl ho3) e_int rfl)) ea_nil)) ⟨d, p, rfl, hw.lv, by rw [hks]; rfl⟩) fun v4 H4 e4 hv4 => ?_
    refine q_when (dec "insert" _ true H4 _ _ rfl (by decide +kernel)) (fun _ H5 e5 => ?_) (fun z => absurd z (by decide))
    have e45 := e4.trans e5
    have ho5 := ho3.mono (tx_of e45)
    refine s_ret (e_call (r := .d (eD (made d (.insert p x ah)))) (ea_cons (E.o (e_var rfl (Tp.mono (tx_of (e23.trans e45)) hd1))) (ea_cons (E.o (e_ixT 1 (e_var rfl ho5) e_int rfl)) (ea_cons (E.o (e_call (r := .d (eD (put ks x ah))) (ea_cons (E.o (e_var rfl (Tp.mono (tx_of e5) hv4))) (ea_cons (E.o (e_ixT 2 (e_var rfl ho5) e_int rfl)) (ea_cons (E.o (e_ixT 3 (e_var rfl ho5) e_int rfl)) ea_nil))) ⟨ks, x, ah, rfl, by omega, rfl⟩)) ea_nil))) ⟨d, p, put ks x ah, rfl, hw.lv, hw.len, ?_⟩) fun v' H6 e6 hv => q v' H6 ((e1.trans (e23.trans e45)).trans e6) hv
    show Rs.d (eD (withKids d p (put ((kidsOf d p).getD []) x ah))) = _
    rw [hks]
    rfl
  | remove p i =>
    obtain ⟨ks, hks, _⟩ := hok
    obtain ⟨kl, kz⟩ := kids_lv hks hw.lv
    have hkl := len_ids ks
    have hdz := hw.len
    have ho2 : Tp H1 _ (.tuple [.str "remove", .int p, .int i]) := ho1
    refine q_when (dec "remove" _ false H1 _ _ rfl (by decide +kernel)) (fun z => absurd z (by decide)) fun _ H2 e2 => ?_
    refine q_when (ET.is (et_or (b := false) (b' := false) (dec "remove" _ false H2 _ _ rfl (by decide +kernel)) (fun _ => dec "remove" _ false H2 _ _ rfl (by decide +kernel))) rfl) (fun z => absurd z (by decide)) fun _ H3 e3 => ?_
    have e23 := e2.trans e3
    have ho3 := ho2.mono (tx_of e23)
    refine q_asg (e_call (r := .d (eD ks)) (ea_cons (E.o (e_var rfl (Tp.mono (tx_of e23) hd1))) (ea_cons (E.o (e_ixT 1 (e_var rfl ho3) e_int rfl)) ea_nil)) ⟨d, p, rfl, hw.lv, by rw [hks]; rfl⟩) fun v4 H4 e4 hv4 => ?_
    refine q_when (dec "remove" _ false H4 _ _ rfl (by decide +kernel)) (fun z => absurd z (by decide)) fun _ H5 e5 => ?_
    have e45 := e4.trans e5
    have ho5 := ho3.mono (tx_of e45)
    refine q_asg (e_to (xs := (others ks i).map eN) (E.o (E.is (e_lcT (enc := eN) (xs := ks) (fun k => if (k.id != i) = true then some (eN k) else none) (e_var rfl (Tp.mono (tx_of e5) hv4)) (by omega) (fun k _ u H6 e6 hu Q' k' => k' _ H6 (Same.refl H6) rfl ?_)) (by rw [filterMap_if (fun k : Node => k.id != i) eN]; rfl)))) fun v6 H6 e6 hv6 => ?_
    · obtain ⟨y2, hy2, hy21, _⟩ := eN_get k
      have hun := hu
      rw [hy2] at hun
      refine ⟨_, et_neI (e_ixT 1 (e_var rfl hun) e_int hy21) (e_ixT 2 (e_var rfl (ho5.mono (tx_of e6))) e_int rfl), ?_⟩
      have e : (!decide (k.id = i)) = (k.id != i) := by simp [bne, Bool.beq_eq_decide_eq]
      cases hc : (k.id != i) with
      | true =>
        rw [e, hc, if_pos rfl]
        exact ⟨_, if_pos rfl, e_var rfl hu⟩
      | false => rw [e, hc, if_neg Bool.false_ne_true, if_neg Bool.false_ne_true]
    have e46 := e45.trans e6
    refine q_when (dec "remove" _ false H6 _ _ rfl (by decide +kernel)) (fun z => absurd z (by decide)) fun _ H7 e7 => ?_
    have e47 := e46.trans e7
    refine s_ret (e_call (r := .d (eD (made d (.remove p i)))) (ea_cons (E.o (e_var rfl (Tp.mono (tx_of (e23.trans e47)) hd1))) (ea_cons (E.o (e_ixT 1 (e_var rfl (ho3.mono (tx_of e47))) e_int rfl)) (ea_cons (E.o (e_var rfl (Tp.mono (tx_of e7) hv6))) ea_nil))) ⟨d, p, others ks i, rfl, hw.lv, hw.len, ?_⟩) fun v' H8 e8 hv => q v' H8 ((e1.trans (e23.trans e47)).trans e8) hv
    show Rs.d (eD (withKids d p (others ((kidsOf d p).getD []) i))) = _
    rw [hks]
    rfl
  | move p i ah =>
    obtain ⟨ks, x, hks, hfx⟩ := hmv p i ah rfl
    obtain ⟨kl, kz⟩ := kids_lv hks hw.lv
    have hkl := len_ids ks
    have hdz := hw.len
    have hol : (others ks i).length ≤ ks.length := List.length_filter_le _ _
    have ho2 : Tp H1 _ (.tuple [.str "move", .int p, .int i, eAh ah]) := ho1
    refine q_when (dec "move" _ false H1 _ _ rfl (by decide +kernel)) (fun z => absurd z (by decide)) fun _ H2 e2 => ?_
    refine q_when (ET.is (et_or (b := false) (b' := false) (dec "move" _ false H2 _ _ rfl (by decide +kernel)) (fun _ => dec "move" _ false H2 _ _ rfl (by decide +kernel))) rfl) (fun z => absurd z (by decide)) fun _ H3 e3 => ?_
    have e23 := e2.trans e3
    have ho3 := ho2.mono (tx_of e23)
    refine q_asg (e_call (r := .d (eD ks)) (ea_cons (E.o (e_var rfl (Tp.mono (tx_of e23) hd1))) (ea_cons (E.o (e_ixT 1 (e_var rfl ho3) e_int rfl)) ea_nil)) ⟨d, p, rfl, hw.lv, by rw [hks]; rfl⟩) fun v4 H4 e4 hv4 => ?_
    refine q_when (dec "move" _ false H4 _ _ rfl (by decide +kernel)) (fun z => absurd z (by decide)) fun _ H5 e5 => ?_
    have e45 := e4.trans e5
    have ho5 := ho3.mono (tx_of e45)
    refine q_asg (e_to (xs := (others ks i).map eN) (E.o (E.is (e_lcT (enc := eN) (xs := ks) (fun k => if (k.id != i) = true then some (eN k) else none) (e_var rfl (Tp.mono (tx_of e5) hv4)) (by omega) (fun k _ u H6 e6 hu Q' k' => k' _ H6 (Same.refl H6) rfl ?_)) (by rw [filterMap_if (fun k : Node => k.id != i) eN]; rfl)))) fun v6 H6 e6 hv6 => ?_
    · obtain ⟨y2, hy2, hy21, _⟩ := eN_get k
      have hun := hu
      rw [hy2] at hun
      refine ⟨_, et_neI (e_ixT 1 (e_var rfl hun) e_int hy21) (e_ixT 2 (e_var rfl (ho5.mono (tx_of e6))) e_int rfl), ?_⟩
      have e : (!decide (k.id = i)) = (k.id != i) := by simp [bne, Bool.beq_eq_decide_eq]
      cases hc : (k.id != i) with
      | true =>
        rw [e, hc, if_pos rfl]
        exact ⟨_, if_pos rfl, e_var rfl hu⟩
      | false => rw [e, hc, if_neg Bool.false_ne_true, if_neg Bool.false_ne_true]
    have e46 := e45.trans e6
    refine q_if (dec "move" _ true H6 _ _ rfl (by decide +kernel)) (fun _ H7 e7 => ?_) (fun z => absurd z (by decide))
    have e47 := e46.trans e7
    have ho7 := ho3.mono (tx_of e47)
    refine s_asg (e_call (r := .d (eD (put (others ks i) x ah))) (ea_cons (E.o (e_var rfl (Tp.mono (tx_of e7) hv6))) (ea_cons (E.o (e_call (r := .d (eN x)) (ea_cons (E.o (e_var rfl (Tp.mono (tx_of ((e5.trans e6).trans e7)) hv4))) (ea_cons (E.o (e_ixT 2 (e_var rfl ho7) e_int rfl)) ea_nil)) ⟨ks, i, rfl, kl, by rw [hfx]; rfl⟩)) (ea_cons (E.o (e_ixT 3 (e_var rfl ho7) e_int rfl)) ea_nil))) ⟨others ks i, x, ah, rfl, by omega, rfl⟩) fun v8 H8 e8 hv8 => ?_
    have e48 := e47.trans e8
    refine s_ret (e_call (r := .d (eD (made d (.move p i ah)))) (ea_cons (E.o (e_var rfl (Tp.mono (tx_of (e23.trans e48)) hd1))) (ea_cons (E.o (e_ixT 1 (e_var rfl (ho3.mono (tx_of e48))) e_int rfl)) (ea_cons (E.o (e_var rfl hv8)) ea_nil))) ⟨d, p, put (others ks i) x ah, rfl, hw.lv, hw.len, ?_⟩) fun v' H9 e9 hv => q v' H9 ((e1.trans (e23.trans e48)).trans e9) hv
    show Rs.d (eD (match find ((kidsOf d p).getD []) i with | some x => withKids d p (put (others ((kidsOf d p).getD []) i) x ah) | none => d)) = _
    rw [hks, Option.getD_some, hfx]

/-- apply_all -/
theorem find_some : ∀ (ks : List Node) (i : Int), i ∈ ks.map Node.id → ∃ x, find ks i = some x
  | n :: r, i, h => by
    rw [find_cons, findN_eq]
    by_cases hp : n.id = i
    · rw [if_pos hp]; exact ⟨_, rfl⟩
    · rw [if_neg hp]
      cases e : find n.kids i with
      | some z => exact ⟨_, rfl⟩
      | none =>
        rw [List.map_cons, List.mem_cons] at h
        exact find_some r i (h.resolve_left fun z => hp z.symm)
theorem move_ok {d : List Node} {op : Op} (h : OpOk d op) : ∀ p i ah, op = .move p i ah → ∃ ks x, kidsOf d p = some ks ∧ find ks i = some x := by
  intro p i ah e
  subst e
  obtain ⟨ks, hks, hi, _⟩ := h
  obtain ⟨x, hx⟩ := find_some ks i hi
  exact ⟨ks, x, hks, hx⟩
def S_apply : List Rs → Rs → Prop := fun as r => ∃ (d d' : List Node) (ops : List Op), as = [.d (eD d), .l (ops.map eOp)] ∧ ops.length ≤ 50000 ∧ Wk d ∧ (∀ op ∈ ops, insLen op) ∧ Steps Wk d ops d' ∧ r = .d (eD d')
theorem c_apply_all (T : Txt K mg) : Cl P w K mg base 91 "apply_all" ["document", "operations"] (FS S_apply) := by
  have C_fault_of := c_fault_of (P := P) (w := w) (base := base) T
  have C_made_operation := c_made_operation (P := P) (w := w) (base := base) T
  refine cl_fs T.d_apply_all sc_apply_all (fun as r ⟨_, _, _, e, _⟩ => by rw [e]; rfl) fun f cdv A outer s H vs as r Q Ew hr ha ⟨d, d', ops, e1, hz, hw, hil, hst, e2⟩ q => ?_
  subst e1 e2
  obtain - | ⟨hd, - | ⟨hops, - | -⟩⟩ := ha
  obtain ⟨po, rfl, hops⟩ := hops
  refine ⟨_, (pss_cons (ps_for PassesOwn.never rfl (pi_enum rfl T.n_enumerate (pa_cons (pv 1) pa_nil)) (pg_tup rfl (pgs_cons (pg_name (i := 2) sc_apply_all.nd rfl (Or.inl rfl)) (pgs_cons (pg_name (i := 3) sc_apply_all.nd rfl (Or.inl rfl)) pgs_nil))) (pss_cons (ps_set (i := 4) sc_apply_all.nd rfl (Or.inl rfl) (pe_cl C_fault_of (hr.mono (by omega)) rfl (pa_cons (pv 0) (pa_cons (pv 3) pa_nil))))
      (pss_cons (ps_if (pt_cmpR op_notN1 (pv 4) pe_non (nomark _)) pss_never pss_nil)
      (pss_one (ps_set (i := 0) sc_apply_all.nd rfl (Or.inl rfl) (pe_cl C_made_operation (hr.mono (by omega)) rfl (pa_cons (pv 0) (pa_cons (pv 3) pa_nil))))))))
      (pss_one (ps_ret (pv 0)))), ?_⟩
  refine q_enum (H0 := H) (xs := ops.map eOp) (p := po) rfl hops (fun k σ' H' => ∃ (dk : List Node) (v0 : V) (v2 v3 v4 : Option V), σ' = [some v0, some (.ref po), v2, v3, v4] ∧ Same H H' ∧ Tp H' v0 (eD dk) ∧ Wk dk ∧ Steps Wk dk (ops.drop k) d')
    ⟨d, _, _, _, _, rfl, Same.refl H, hd, hw, hst⟩ (fun k σ' H' ⟨_, _, _, _, _, _, h, _⟩ => ⟨tx_of h, fun vs hv => h _ _ hv⟩) ?_ ?_
  · rintro k x u σ' H' H2 hxk ⟨dk, v0, v2, v3, v4, rfl, eH, hv0, hwk, hstk⟩ e2 hu
    rw [List.getElem?_map] at hxk
    cases ex : ops[k]? with
    | none => rw [ex] at hxk; cases hxk
    | some op =>
      rw [ex] at hxk
      have exz : eOp op = x := Option.some.inj hxk
      subst exz
      obtain ⟨hk, ek⟩ := List.getElem?_eq_some_iff.mp ex
      rw [List.drop_eq_getElem_cons hk, ek] at hstk
      obtain ⟨hok, hg, hrest⟩ := hstk
      have hop : op ∈ ops := List.mem_of_getElem? ex
      have hv02 := hv0.mono (tx_of e2)
      refine q_asg (e_call (r := .d .none) (ea_cons (E.o (e_var rfl hv02)) (ea_cons (E.o (e_var rfl hu)) ea_nil)) ⟨dk, op, rfl, hwk, hil op hop, hok, rfl⟩) fun v5 H3 e3 hv5 => ?_
      refine q_when (b := false) (ET.is (et_notN (e_var rfl hv5)) rfl) (fun z => absurd z (by decide)) fun _ H4 e4 => ?_
      have e24 := e3.trans e4
      refine s_asg (e_call (r := .d (eD (made dk op))) (ea_cons (E.o (e_var rfl (hv02.mono (tx_of e24)))) (ea_cons (E.o (e_var rfl (Tp.mono (tx_of e24) hu))) ea_nil)) ⟨dk, op, rfl, hwk, hok, move_ok hok, rfl⟩) fun v6 H5 e5 hv6 => ?_
      exact ⟨made dk op, _, _, _, _, rfl, ((eH.trans e2).trans e24).trans e5, hv6, hg, hrest⟩
  · rintro σ' H' ⟨dk, v0, v2, v3, v4, rfl, eH, hv0, hwk, hstk⟩
    rw [List.length_map, List.drop_length] at hstk
    have e : dk = d' := hstk
    subst e
    exact s_ret (e_var rfl hv0) fun v H2 e2 hv => q v H2 (eH.trans e2) hv
/-- apply_operation -/
theorem c_apply_operation (T : Txt K mg) : Cl P w K mg base 92 "apply_operation" ["document", "operation"] (FS fun as r => ∃ (d : List Node) (op : Op), as = [.d (eD d), .d (eOp op)] ∧ Wk d ∧ insLen op ∧ OpOk d op ∧ Wk (made d op) ∧ r = .d (eD (made d op))) := by
  have C_apply_all := c_apply_all (P := P) (w := w) (base := base) T
  refine cl_fs T.d_apply_operation sc_apply_operation (fun as r ⟨_, _, e, _⟩ => by rw [e]; rfl) fun f cdv A outer s H vs as r Q Ew hr ha ⟨d, op, e1, hw, hil, hok, hw2, e2⟩ q => ?_
  subst e1 e2
  obtain - | ⟨hd, - | ⟨ho, - | -⟩⟩ := ha
  refine ⟨_, (pss_one (ps_ret (pe_cl C_apply_all (hr.mono (by omega)) rfl (pa_cons (pv 0) (pa_cons (pe_lst (pa_cons (pv 1) pa_nil)) pa_nil))))), ?_⟩
  exact s_ret (e_call (r := .d (eD (made d op))) (ea_cons (E.o (e_var rfl hd)) (ea_cons (E.o (e_lst (ds := [eOp op]) (ea_cons (E.o (e_var rfl ho)) ea_nil))) ea_nil)) ⟨d, made d op, [op], rfl, by exact Nat.le_of_ble_eq_true rfl, hw, fun o h => by rw [List.mem_singleton.mp h]; exact hil, ⟨hok, hw2, rfl⟩, rfl⟩) fun v H2 e2 hv => q v H2 e2 hv
end
end VL

namespace VL
open PySem L2
/-! ### heaps of which some lists are changed -/
/-- tuples stay; what is not in A stays -/
def Ch (A : List Addr) (H H' : Hp) : Prop := Tx H H' ∧ ∀ b o, H b = some o → b ∉ A → H' b = some o
theorem Ch.of {A : List Addr} {H H' : Hp} (e : Same H H') : Ch A H H' := ⟨tx_of e, fun b o h _ => e b o h⟩
theorem Ch.refl {A : List Addr} (H : Hp) : Ch A H H := .of (Same.refl H)
theorem Ch.step {A B : List Addr} {H0 H H' : Hp} (h : Ch A H0 H) (g : Ch B H H') (hb : ∀ b ∈ B, b ∈ A ∨ H0 b = none) : Ch A H0 H' := ⟨h.1.trans g.1, fun b o e n => g.2 b o (h.2 b o e n) fun z => (hb b z).elim n fun y => by rw [e] at y; cases y⟩
theorem Ch.trans {A : List Addr} {H0 H H' : Hp} (h : Ch A H0 H) (g : Ch A H H') : Ch A H0 H' := h.step g fun _ z => .inl z
theorem Ch.same {A : List Addr} {H0 H H' : Hp} (h : Ch A H0 H) (e : Same H H') : Ch A H0 H' := h.trans (.of e)
theorem Ch.back {B : List Addr} {H0 H H' : Hp} (e : Same H0 H) (g : Ch B H H') (hb : ∀ b ∈ B, H0 b = none) : Same H0 H' := fun b o h => g.2 b o (e b o h) fun z => by rw [hb b z] at h; cases h
theorem Ch.upd {l : Addr} {H : Hp} {xs ys : List V} (h : H l = some (.lst xs)) : Ch [l] H (upd H l (.lst ys)) := ⟨tx_lst h, fun b o e n => by
  rw [upd_ne (fun z => n (by rw [z]; exact List.mem_singleton.mpr rfl))]
  exact e⟩
theorem Ch.ls {A : List Addr} {H H' : Hp} {l : Addr} {ds : List PyData} (c : Ch A H H') (n : l ∉ A) (h : Ls H l ds) : Ls H' l ds := by
  obtain ⟨vs, h1, h2⟩ := h
  exact ⟨vs, c.2 _ _ h1 n, h2.mono c.1⟩
theorem n1 {l st : Addr} (h : l ≠ st) : l ∉ [st] := fun z => h (List.mem_singleton.mp z)
/-- the state at st: a list of one int -/
def SS (st : Addr) (H : Hp) : Prop := ∃ n : Int, H st = some (.lst [.int n])
theorem SS.same {st : Addr} {H H' : Hp} (h : SS st H) (e : Same H H') : SS st H' := by
  obtain ⟨n, h⟩ := h
  exact ⟨n, e _ _ h⟩
theorem SS.ch {st : Addr} {A : List Addr} {H H' : Hp} (h : SS st H) (e : Ch A H H') (hn : st ∉ A) : SS st H' := by
  obtain ⟨n, h⟩ := h
  exact ⟨n, e.2 _ _ h hn⟩
theorem SS.ne {st l : Addr} {H : Hp} (h : SS st H) (e : H l = none) : l ≠ st := by
  obtain ⟨n, h⟩ := h
  intro z
  rw [z, h] at e
  cases e
theorem SS.some {st : Addr} {H : Hp} (h : SS st H) : H st ≠ none := by
  obtain ⟨n, h⟩ := h
  rw [h]
  simp
/-- the promise of a def that takes the state and data: it changes the state alone -/
def FM (S : List Rs → (Hp → V → Hp → Prop) → Prop) : Sp := fun vs H Q _ => ∃ st ws as Po, vs = .ref st :: ws ∧ SS st H ∧ ARs H ws as ∧ S as Po ∧ ∀ v H', Ch [st] H H' → SS st H' → Po H v H' → Q v H'
section
variable {P : Program} {w : World} {K : PySem.W.Frag} {mg : Str → Option Value} {base : Heap}
variable {σ : L2.St} {H H' : Hp} {ta tb te : TE} {tt tu : TT} {tA : TA} {r r' : Rs} {b b' : Bool} {D : Ends} {t u tz : TS} {g : TG}
theorem ars_len {H : Hp} {vs : List V} {as : List Rs} (h : ARs H vs as) : vs.length = as.length := by
  induction h with
  | nil => rfl
  | cons _ _ ih => rw [List.length_cons, List.length_cons, ih]
theorem cl_fm {x : Str} {st : Stmt} {N ps : List Str} {k : Nat} {S : List Rs → (Hp → V → Hp → Prop) → Prop} (D : Dn K mg x st ps) (Sc : FnScope N ps (defScope st)) (len : ∀ as r, S as r → as.length + 1 = ps.length)
    (hbody : ∀ (f : Addr) (cdv : Value) (A : Around) (outer : List Env) (s : Shared) (H : Hp) (sa : Addr) (vs : List V) (as : List Rs) (Po : Hp → V → Hp → Prop) (Q : VK) (E : XK), Room k (A.deeper (PyProof.Rows.envOfC x (defScope st) s.heap.objs.size f cdv)) → SS sa H → ARs H vs as → S as Po → (∀ v H', Ch [sa] H H' → SS sa H' → Po H v H' → Q v H') →
      ∃ t, PSs (cxOf CX0 P w K mg base N x (defScope st) f cdv A outer s H E).nox (defBody st) t ∧ t { nx := fun _ H' => Q .non H', rt := Q } (start N (.ref sa :: vs)) H) : Cl P w K mg base (k + 1) x ps (FM S) := by
  refine cl_of D Sc (fun vs H Q E ⟨sa, ws, as, Po, e, _, h1, h2, _⟩ => by rw [e, List.length_cons, ars_len h1]; exact len as _ h2) fun f cdv A outer s H vs Q E hr ⟨sa, ws, as, Po, e, hs, h1, h2, q⟩ => ?_
  subst e
  exact hbody f cdv A outer s H sa ws as Po Q E hr hs h1 h2 q
theorem cl_no2 {x : Str} {st : Stmt} {ps : List Str} {k : Nat} (D : Dn K mg x st ps) : Cl P w K mg base k x ps (fun _ _ _ _ => False) := by
  obtain ⟨f, fd, h1, F, hb⟩ := D
  exact ⟨f, fd, h1, F.kp, hb, ⟨fun vs H Q E z => z.elim, fun A outer s H args us vs Q E _ _ _ _ z => z.elim⟩⟩
/-- a call of such a def -/
theorem m_call {S : List Rs → (Hp → V → Hp → Prop) → Prop} {i : Nat} {st : Addr} {as : List Rs} {Po : Hp → V → Hp → Prop} {X : XK} {Q : VK} (hv : σ[i]? = some (some (.ref st))) (hs : SS st H) (ha : EA tA σ H as) (s : S as Po) (k : ∀ H1 v H2, Same H H1 → Ch [st] H H2 → SS st H2 → Po H1 v H2 → Q v H2) :
    tCall (FM S) [] X (tCons (tVar i) tA) σ H Q := ⟨_, hv, ha H (Same.refl H) _ fun vs H1 e1 hvs => by
  show FM S ((V.ref st :: vs) ++ []) H1 Q X
  rw [List.append_nil]
  exact ⟨st, vs, as, Po, rfl, hs.same e1, hvs, s, fun v H2 c s2 p => k H1 v H2 e1 ((Ch.of e1).trans c) s2 p⟩⟩

theorem m_op {r : R2} {Q : VK} (h : ta σ H fun v H1 => tb σ H1 fun w H2 => r v w H2 Q) : tOp r ta tb σ H Q := h
theorem m_tup {Q : VK} (h : tA σ H fun vs H1 => vs.length ≤ sizeLine ∧ ∀ p, H1 p = none → Q (.ref p) (upd H1 p (.tup vs))) : tTup tA σ H Q := h
theorem m_lst {Q : VK} (h : tA σ H fun vs H1 => vs.length ≤ sizeLine ∧ ∀ p, H1 p = none → Q (.ref p) (upd H1 p (.lst vs))) : tLst tA σ H Q := h
theorem m_cons {Q : List V → Hp → Prop} (h : te σ H fun v H1 => tA σ H1 fun vs H2 => Q (v :: vs) H2) : tCons te tA σ H Q := h
theorem m_nil {Q : List V → Hp → Prop} (h : Q [] H) : tNil σ H Q := h
theorem m_cb {R : List V → Hp → VK → Prop} {Q : VK} (h : tA σ H fun vs H1 => R vs H1 Q) : tCB R tA σ H Q := h
theorem m_cl {sp : Sp} {X : XK} {Q : VK} (h : tA σ H fun vs H1 => sp (vs ++ []) H1 Q X) : tCall sp [] X tA σ H Q := h
theorem m_e {Q : VK} (h : E te σ H r) (k : ∀ v H1, Same H H1 → RR H H1 v r → Q v H1) : te σ H Q := h H (Same.refl H) Q k
theorem m_var {Q : VK} {i : Nat} {v : V} (h : σ[i]? = some (some v)) (k : Q v H) : tVar i σ H Q := ⟨v, h, k⟩
theorem m_c {Q : VK} {v : V} (k : Q v H) : tC v σ H Q := k
theorem m_asg {i : Nat} (h : te σ H fun v H1 => tz D (σ.set i (some v)) H1) : tSeq (tAsg te (gName i)) tz D σ H := h
theorem m_asg1 {i : Nat} (h : te σ H fun v H1 => D.nx (σ.set i (some v)) H1) : tAsg te (gName i) D σ H := h
theorem m_ret (h : te σ H D.rt) : tRet te D σ H := h
theorem m_when (h : tt σ H fun c H1 => if c = true then t { D with nx := tz D } σ H1 else tz D σ H1) : tSeq (tIfS tt t tNext) tz D σ H := h
theorem m_if (h : tt σ H fun c H1 => if c = true then t D σ H1 else u D σ H1) : tIfS tt t u D σ H := h
theorem m_ifq (h : tt σ H fun c H1 => if c = true then t { D with nx := tz D } σ H1 else u { D with nx := tz D } σ H1) : tSeq (tIfS tt t u) tz D σ H := h
theorem m_test {Q : Bool → Hp → Prop} (h : te σ H fun x H1 => ∃ k, x = .bl k ∧ Q k H1) : tTest te σ H Q := h
theorem m_or {Q : Bool → Hp → Prop} (h : tt σ H fun c H1 => if c = true then Q true H1 else tu σ H1 Q) : tOr tt tu σ H Q := h
theorem tup_fin {H1 : Hp} {vs : List V} {ds : List PyData} {Q : VK} (h : TpAll H1 vs ds) (hz : ds.length ≤ 100000) (k : ∀ p H2, Same H1 H2 → Tp H2 (.ref p) (.tuple ds) → Q (.ref p) H2) : vs.length ≤ sizeLine ∧ ∀ p, H1 p = none → Q (.ref p) (upd H1 p (.tup vs)) :=
  ⟨by rw [h.length]; exact sz_of hz, fun p hp => k p _ (same_new hp) (.tup upd_same (h.mono (tx_of (same_new hp))))⟩
theorem tup_new {H1 : Hp} {vs : List V} {ds : List PyData} {p : Addr} (h : TpAll H1 vs ds) (hp : H1 p = none) : Same H1 (upd H1 p (.tup vs)) ∧ Tp (upd H1 p (.tup vs)) (.ref p) (.tuple ds) := ⟨same_new hp, .tup upd_same (h.mono (tx_of (same_new hp)))⟩
theorem sz_c {vs : List V} (h : Nat.ble vs.length 100 = true) : vs.length ≤ sizeLine := sz_of (Nat.le_trans (Nat.le_of_ble_eq_true h) (by decide))
theorem ix_fin {H1 H2 : Hp} {v : V} {ds : List PyData} {d : PyData} {k : Nat} {Q : VK} (h : Tp H1 v (.tuple ds)) (c : Tx H1 H2) (hd : ds[k]? = some d) (q : ∀ u, Tp H2 u d → Q u H2) : rIxT K v (.int (k : Int)) H2 Q := by
  obtain ⟨a, xs, rfl, ha, hx⟩ := Tp.tup_inv h
  obtain ⟨y, hy, ty⟩ := hx.get hd
  exact ⟨a, xs, (k : Int), y, rfl, rfl, SqT.of (c _ _ ha), atI_nat hy, q y (ty.mono c)⟩
/-- xs.append(e), any e -/
theorem m_app {i : Nat} {l : Addr} {vs : List V} (hv : σ[i]? = some (some (.ref l))) (hl : H l = some (.lst vs)) (h : te σ H fun v H1 => rAppend (.ref l) [v] H1 fun _ H3 => D.nx σ H3) : tDrop (tBM K "list" rAppend (tVar i) (tCons te tNil)) D σ H :=
  ⟨_, hv, Or.inl ⟨rfl, vs, SqL.of hl⟩, h⟩
theorem m_appq {i : Nat} {l : Addr} {vs : List V} (hv : σ[i]? = some (some (.ref l))) (hl : H l = some (.lst vs)) (h : te σ H fun v H1 => rAppend (.ref l) [v] H1 fun _ H3 => tz D σ H3) : tSeq (tDrop (tBM K "list" rAppend (tVar i) (tCons te tNil))) tz D σ H :=
  ⟨_, hv, Or.inl ⟨rfl, vs, SqL.of hl⟩, h⟩
theorem app_fin {H1 : Hp} {l : Addr} {v : V} {ds : List PyData} {d : PyData} {Q : VK} (hl : Ls H1 l ds) (hz : ds.length < 100000) (hv : Tp H1 v d) (k : ∀ H2 w, Ch [l] H1 H2 → Ls H2 l (ds ++ [d]) → Q w H2) : rAppend (.ref l) [v] H1 Q := by
  obtain ⟨vs, h1, h2⟩ := hl
  exact ⟨l, vs, v, rfl, rfl, h1, by rw [h2.length]; exact sz_lt hz, k _ _ (Ch.upd h1) ⟨_, upd_same, (h2.append (.one hv)).mono (tx_lst h1)⟩⟩
/-- chained < -/
theorem et_chain {a m c : Int} {tc : TE} (ha : E ta σ H (.d (.int a))) (hb : E tb σ H (.d (.int m))) (hc : E tc σ H (.d (.int c))) :
    ET (tTest (tChain (rI0 fun i j => .bl (decide (i < j))) (rI0 fun i j => .bl (decide (i < j))) ta tb tc)) σ H (decide (a < m) && decide (m < c)) := fun H1 e Q q =>
  ha H1 e _ fun v H2 e2 hv => hb H2 (e.trans e2) _ fun w H3 e3 hw => by
    refine ⟨a, m, Tp.int_inv hv, Tp.int_inv hw, decide (a < m), rfl, ?_⟩
    cases h : decide (a < m) with
    | true =>
      rw [h] at q
      rw [if_pos rfl]
      refine hc H3 ((e.trans e2).trans e3) _ fun x H4 e4 hx => ⟨m, c, Tp.int_inv hw, Tp.int_inv hx, decide (m < c), rfl, ?_⟩
      exact q H4 ((e2.trans e3).trans e4)
    | false =>
      rw [h] at q
      rw [if_neg Bool.false_ne_true]
      exact ⟨false, rfl, q H3 (e2.trans e3)⟩
theorem e_lenS {i : Nat} {a : Addr} {xs : List V} (hv : σ[i]? = some (some (.ref a))) (h : SqL K H a xs) : E (tCB (rLn K) (tCons (tVar i) tNil)) σ H (.d (.int (xs.length : Nat))) := fun H1 e Q q => ⟨_, hv, a, xs, rfl, .inl (e.seq h), q _ H1 (Same.refl H1) (Tp.int _)⟩
theorem e_ixS {i k : Nat} {a : Addr} {ns : List Int} {z : Int} (hv : σ[i]? = some (some (.ref a))) (h : SqL K H a (ns.map V.int)) (hb : E tb σ H (.d (.int (k : Int)))) (hz : ns[k]? = some z) : E (tOp (rIxL K) (tVar i) tb) σ H (.d (.int z)) := fun H1 e Q q => ⟨_, hv, hb H1 e _ fun w H2 e2 hw => by
  obtain rfl := Tp.int_inv hw
  exact ⟨a, _, (k : Int), .int z, rfl, rfl, (e.trans e2).seq h, atI_nat (by rw [List.getElem?_map, hz]; rfl), q _ H2 e2 (Tp.int _)⟩⟩
/-- _law_cell -/
def P_cell (K : PySem.W.Frag) : Sp := fun vs H Q _ => ∃ (a : Addr) (ns : List Int) (k : Nat), vs = [.ref a, .int (k : Int)] ∧ SqL K H a (ns.map V.int) ∧ ∀ H', Same H H' → Q (.int (ns.getD k 0)) H'
theorem c__law_cell (T : Txt K mg) : Cl P w K mg base 1 "_law_cell" ["_law_script", "_law_k"] (P_cell K) := by
  refine cl_of T.d__law_cell sc__law_cell (fun vs H Q E ⟨_, _, _, e, _⟩ => by rw [e]; rfl) fun f cdv A outer s H vs Q Ew hr ⟨a, ns, k, e, hn, q⟩ => ?_
  subst e
  refine ⟨_, (pss_cons (ps_if (pt_cmpR op_lt (pv 1) (pe_callB call_ln rfl T.n_len bt_len (pa_cons (pv 0) pa_nil)) (nomark _)) (pss_one (ps_ret (pe_ix ix_list (pv 0) (pv 1) (fun _ _ => rfl)))) pss_nil)
      (pss_one (ps_ret pe_int))), ?_⟩
  refine q_when (et_cmpI (e_var rfl (Tp.int (k : Int))) (e_lenS rfl hn)) (fun h H1 e1 => ?_) fun h H1 e1 => ?_
  · have hl : k < ns.length := by
      have := of_decide_eq_true h
      rw [List.length_map] at this
      omega
    refine s_ret (e_ixS rfl (e1.seq hn) (e_var rfl (Tp.int (k : Int))) (z := ns.getD k 0) ?_) fun v H2 e2 hv => by
      obtain rfl := Tp.int_inv hv
      exact q H2 (e1.trans e2)
    rw [List.getD_eq_getElem?_getD, List.getElem?_eq_getElem hl]
    rfl
  · have hl : ns.length ≤ k := by
      have := of_decide_eq_false h
      rw [List.length_map] at this
      omega
    refine s_ret e_int fun v H2 e2 hv => by
      obtain rfl := Tp.int_inv hv
      have := q H2 (e1.trans e2)
      rw [List.getD_eq_getElem?_getD, List.getElem?_eq_none hl] at this
      exact this
theorem e_cell {i k : Nat} {a : Addr} {ns : List Int} {X : XK} (hv : σ[i]? = some (some (.ref a))) (h : SqL K H a (ns.map V.int)) (hb : E te σ H (.d (.int (k : Int)))) : E (tCall (P_cell K) [] X (tCons (tVar i) (tCons te tNil))) σ H (.d (.int (ns.getD k 0))) := fun H1 e Q q => ⟨_, hv, hb H1 e _ fun w H2 e2 hw => by
  obtain rfl := Tp.int_inv hw
  exact ⟨a, ns, k, rfl, (e.trans e2).seq h, fun H3 e3 => q _ H3 (e2.trans e3) (Tp.int _)⟩⟩
/-- _law_start -/
def stP : Int := 618970019642690137449562111
def mixF (c k : Int) : Int := (c * 2654435761 + (k + 1) * 6700417) % stP
def startF (c k : Int) : Int := if (decide (-1000000000000000000 < c) && decide (c < 1000000000000000000)) = true then (mixF c k * mixF c k + 7 * mixF c k + k) % stP else if c < 0 then -c else c
def S_start : List Rs → Rs → Prop := fun as r => ∃ c k : Int, as = [.d (.int c), .d (.int k)] ∧ 0 ≤ k ∧ k ≤ 100 ∧ r = .l [.int (startF c k)]
theorem c__law_start (T : Txt K mg) : Cl P w K mg base 1 "_law_start" ["_law_cell_here", "_law_k"] (FS S_start) := by
  refine cl_fs T.d__law_start sc__law_start (fun as r ⟨ns, k, e, _⟩ => by rw [e]; rfl) fun f cdv A outer s H vs as r Q Ew hr ha ⟨c, k, e1, k0, k1, e2⟩ q => ?_
  subst e1 e2
  obtain - | ⟨hc, - | ⟨hk, - | -⟩⟩ := ha
  refine ⟨_, (pss_cons (ps_set (i := 2) sc__law_start.nd rfl (Or.inl rfl) pe_int)
      (pss_cons (ps_if (pt_chain op_lt op_lt (pe_un un_neg pe_int) (pv 0) pe_int) (pss_cons (ps_set (i := 3) sc__law_start.nd rfl (Or.inl rfl) (pe_op op_mod (pe_callTy call_in rfl T.n_int bt_int (pa_cons (pe_op op_add (pe_op op_mulW (pv 0) pe_int) (pe_op op_mulW (pe_op op_add (pv 1) pe_int) pe_int)) pa_nil)) (pv 2)))
      (pss_one (ps_ret (pe_lst (pa_cons (pe_op op_mod (pe_callTy call_in rfl T.n_int bt_int (pa_cons (pe_op op_add (pe_op op_add (pe_op op_mulW (pv 3) (pv 3)) (pe_op op_mulW pe_int (pv 3))) (pv 1)) pa_nil)) (pv 2)) pa_nil))))) pss_nil)
      (pss_one (ps_ret (pe_lst (pa_cons (pe_callB call_ab rfl T.n_abs bt_abs (pa_cons (pv 0) pa_nil)) pa_nil)))))), ?_⟩
  refine q_asg e_int fun pv H0 e0 hpv => ?_
  obtain rfl := Tp.int_inv hpv
  refine q_when (et_chain (e_neg e_int) (e_var rfl (Tp.mono (tx_of e0) hc)) e_int) (fun h H1 e1 => ?_) fun h H1 e1 => ?_
  · have e01 := e0.trans e1
    obtain ⟨h1, h2⟩ := Bool.and_eq_true_iff.mp h
    have h1 := of_decide_eq_true h1
    have h2 := of_decide_eq_true h2
    have hc1 := Tp.mono (tx_of e01) hc
    have hk1 := Tp.mono (tx_of e01) hk
    refine q_asg (e_opIC (e_intI (e_opI (e_opIC (e_var rfl hc1) e_int (wide_mul (a := 60) (b := 32) (by omega) (by decide) (by decide) (by decide) (by decide))) (e_opIC (e_opI (e_var rfl hk1) e_int) e_int (wide_mul (a := 10) (b := 32) (by omega) (by decide) (by decide) (by decide) (by decide))))) (e_var rfl (Tp.int stP)) (show (0 : Int) < stP by decide)) fun mv H2 e2 hmv => ?_
    have e02 := e01.trans e2
    have hk2 := Tp.mono (tx_of e02) hk
    have hm : (mixF c k).natAbs < 2 ^ 90 := by
      have a1 := Int.emod_nonneg (c * 2654435761 + (k + 1) * 6700417) (show stP ≠ 0 by decide)
      have a2 := Int.emod_lt_of_pos (c * 2654435761 + (k + 1) * 6700417) (show (0 : Int) < stP by decide)
      have a3 : stP < 2 ^ 90 := by decide
      unfold mixF
      omega
    have hmv : Tp H2 mv (.int (mixF c k)) := hmv
    refine s_ret (e_lst (ds := [.int ((mixF c k * mixF c k + 7 * mixF c k + k) % stP)]) (ea_cons (E.o (e_opIC (e_intI (e_opI (e_opI (e_opIC (e_var rfl hmv) (e_var rfl hmv) (wide_mul (a := 90) (b := 90) hm hm (by decide) (by decide) (by decide))) (e_opIC e_int (e_var rfl hmv) (wide_mul (a := 10) (b := 90) (by decide) hm (by decide) (by decide) (by decide)))) (e_var rfl hk2))) (e_var rfl (Tp.int stP)) (show (0 : Int) < stP by decide))) ea_nil)) fun v H3 e3 hv => q v H3 (e02.trans e3) ?_
    unfold startF
    rw [if_pos h]
    exact hv.back e02
  · have e01 := e0.trans e1
    refine s_ret (e_lst (ds := [.int (if c < 0 then -c else c)]) (ea_cons (E.o (e_abs (e_var rfl (Tp.mono (tx_of e01) hc)))) ea_nil)) fun v H3 e3 hv => q v H3 (e01.trans e3) ?_
    unfold startF
    rw [if_neg (by intro z; rw [show (decide (-1000000000000000000 < c) && decide (c < 1000000000000000000)) = false from h] at z; cases z)]
    exact hv.back e01
/-- _law_digit -/
def S_digit : List Rs → (Hp → V → Hp → Prop) → Prop := fun as Po => ∃ m : Int, as = [.d (.int m)] ∧ 0 < m ∧ m < 1073741824 ∧ Po = fun _ v _ => ∃ k : Nat, (k : Int) < m ∧ v = .int k
theorem c__law_digit (T : Txt K mg) : Cl P w K mg base 1 "_law_digit" ["_law_state", "_law_many"] (FM S_digit) := by
  refine cl_fm T.d__law_digit sc__law_digit (fun as r ⟨m, e, _⟩ => by rw [e]; rfl) fun f cdv A outer s H sa vs as Po Q Ew hr hs ha ⟨m, e1, m0, m1, e2⟩ q => ?_
  subst e1 e2
  obtain - | ⟨hm, - | -⟩ := ha
  refine ⟨_, (pss_cons (ps_set (i := 2) sc__law_digit.nd rfl (Or.inl rfl) (pe_op op_mod (pe_callTy call_in rfl T.n_int bt_int (pa_cons (pe_ix ix_list (pv 0) pe_int (fun _ _ => rfl)) pa_nil)) (pv 1)))
      (pss_cons (ps_asg (pe_op op_fdiv (pe_ix ix_list (pv 0) pe_int (fun _ _ => rfl)) (pv 1)) (pg_sub (pv 0) pe_int set_list))
      (pss_one (ps_ret (pv 2))))), ?_⟩
  obtain ⟨n, hn⟩ := hs
  have hl : Ls H sa [.int n] := ⟨_, hn, .one (.int n)⟩
  refine q_asg (e_opIC (e_intI (e_ixL 0 (eo_lst rfl hl) e_int rfl)) (e_var rfl hm) m0) fun v1 H1 e1 hv1 => ?_
  obtain rfl := Tp.int_inv hv1
  have hm1 := Tp.mono (tx_of e1) hm
  show tAsg _ (gSub (tVar 0) (tC (.int 0)) rSetL) _ _ _
  refine m_e (e_opIC (e_ixL 0 (eo_lst rfl (hl.mono e1)) e_int rfl) (e_var rfl hm1) (⟨m0, m1⟩ : CDiv n m)) fun v2 H2 e2 hv2 => ?_
  obtain rfl := Tp.int_inv hv2
  have hn2 : H2 sa = some (.lst [.int n]) := (e1.trans e2) _ _ hn
  refine ⟨_, rfl, sa, [.int n], 0, 0, rfl, rfl, hn2, rfl, ?_⟩
  have c := (Ch.of (A := [sa]) (e1.trans e2)).trans (Ch.upd (ys := [V.int (n / m)]) hn2)
  refine s_ret (e_var rfl (Tp.int (n % m))) fun v H3 e3 hv => ?_
  obtain rfl := Tp.int_inv hv
  refine q _ H3 (c.same e3) (SS.same ⟨n / m, upd_same⟩ e3) ⟨(n % m).toNat, ?_, ?_⟩
  · have := Int.emod_lt_of_pos n m0
    have := Int.emod_nonneg n (show m ≠ 0 by omega)
    omega
  · have := Int.emod_nonneg n (show m ≠ 0 by omega)
    rw [Int.toNat_of_nonneg this]
end
end VL

namespace VL
open PySem L2
/-! ### good data -/
def Wo (s : Str) : Prop := PyData.canLay0 (.str s) = true
def GA (a : Attrs) : Prop := AE 4 a ∧ CA a
def GD (n : Nat) (d : List Node) : Prop := Lv n d ∧ At (AE 4) d ∧ CL d
theorem cl_nil : CL [] := rfl
theorem cl_cons {n : Node} {r : List Node} : CL (n :: r) ↔ CN n ∧ CL r := by
  unfold CL CN
  rw [List.map_cons, PyData.canLayAll0, Bool.and_eq_true]
theorem cl_all : ∀ {d : List Node}, CL d ↔ ∀ x ∈ d, CN x
  | [] => ⟨fun _ _ h => (List.not_mem_nil h).elim, fun _ => rfl⟩
  | n :: r => by
    rw [cl_cons, cl_all (d := r)]
    simp
theorem lv_all {n : Nat} {d : List Node} (h : ∀ x ∈ d, Lv (n + 1) [x]) : Lv (n + 1) d := fun x hx => h x hx x (by simp)
theorem gd_all {n : Nat} {d : List Node} : GD (n + 1) d ↔ ∀ x ∈ d, GD (n + 1) [x] := by
  constructor
  · intro h x hx
    refine ⟨fun y hy => ?_, at_mem.mpr fun y hy => ?_, cl_all.mpr fun y hy => ?_⟩
    · rw [List.mem_singleton.mp hy]; exact h.1 x hx
    · rw [List.mem_singleton.mp hy]; exact at_mem.mp h.2.1 x hx
    · rw [List.mem_singleton.mp hy]; exact cl_all.mp h.2.2 x hx
  · intro h
    exact ⟨lv_all fun x hx => (h x hx).1, at_mem.mpr fun x hx => at_mem.mp (h x hx).2.1 x (by simp), cl_all.mpr fun x hx => cl_all.mp (h x hx).2.2 x (by simp)⟩
theorem GD.mono {n m : Nat} {d : List Node} (h : GD n d) (e : n ≤ m) : GD m d := ⟨h.1.mono e, h.2⟩
theorem gd_nil (n : Nat) : GD n [] := ⟨Lv.nil n, at_nil, rfl⟩
theorem gd_text {n : Nat} {i : Int} {s : Str} (h : Wo s) : GD (n + 1) [.text i s] := by
  refine ⟨fun y hy => ?_, at_mem.mpr fun y hy => ?_, cl_all.mpr fun y hy => ?_⟩
  · rw [List.mem_singleton.mp hy]; exact Lv.nil n
  · rw [List.mem_singleton.mp hy]; simp [AtN]
  · rw [List.mem_singleton.mp hy]
    unfold CN
    rw [eN_text]
    simp only [PyData.canLay0, PyData.canLayAll0, Bool.and_eq_true, Bool.and_true]
    refine ⟨by decide +kernel, ?_⟩
    unfold Wo at h
    simp only [PyData.canLay0] at h
    simpa using h
theorem gd_elem {n : Nat} {i : Int} {t : Str} {a : Attrs} {k : List Node} (ht : Wo t) (ha : GA a) (hk : GD n k) : GD (n + 1) [.elem i t a k] := by
  refine ⟨fun y hy => ?_, at_mem.mpr fun y hy => ?_, cl_all.mpr fun y hy => ?_⟩
  · rw [List.mem_singleton.mp hy]; exact hk.1
  · rw [List.mem_singleton.mp hy]; simp only [AtN]; exact ⟨ha.1, hk.2.1⟩
  · rw [List.mem_singleton.mp hy]
    unfold CN
    rw [eN_elem]
    have h1 := ha.2
    have h2 := hk.2.2
    unfold CA at h1
    unfold CL at h2
    unfold Wo at ht
    simp only [PyData.canLay0] at ht
    simp only [PyData.canLay0, PyData.canLayAll0, Bool.and_eq_true, Bool.and_true]
    exact ⟨by decide +kernel, by simp, by simpa using ht, h1, h2⟩
theorem gd_text_inv {n : Nat} {i : Int} {s : Str} (h : GD n [.text i s]) : Wo s := by
  have := cl_all.mp h.2.2 _ (List.mem_singleton.mpr rfl)
  unfold CN at this
  rw [eN_text] at this
  simp only [PyData.canLay0, PyData.canLayAll0, Bool.and_eq_true, Bool.and_true] at this
  unfold Wo
  simp only [PyData.canLay0]
  exact this.2.2
theorem gd_elem_inv {n : Nat} {i : Int} {t : Str} {a : Attrs} {k : List Node} (h : GD (n + 1) [.elem i t a k]) : Wo t ∧ GA a ∧ GD n k := by
  have h1 := cl_all.mp h.2.2 _ (List.mem_singleton.mpr rfl)
  have h2 := at_mem.mp h.2.1 _ (List.mem_singleton.mpr rfl)
  have h3 := h.1 _ (List.mem_singleton.mpr rfl)
  obtain ⟨c1, c2⟩ := cn_elem h1
  simp only [AtN] at h2
  refine ⟨?_, ⟨h2.1, c1⟩, h3, h2.2, c2⟩
  unfold CN at h1
  rw [eN_elem] at h1
  simp only [PyData.canLay0, PyData.canLayAll0, Bool.and_eq_true, Bool.and_true] at h1
  unfold Wo
  simp only [PyData.canLay0]
  exact h1.2.2.1
/-- 1 .. m -/
def up (m : Nat) : List Int := (List.range m).map fun k : Nat => (k : Int) + 1
theorem up_succ (m : Nat) : up (m + 1) = up m ++ [(m : Int) + 1] := by
  unfold up
  rw [List.range_succ, List.map_append]
  rfl
theorem up_len (m : Nat) : (up m).length = m := by simp [up]
section
variable {P : Program} {w : World} {K : PySem.W.Frag} {mg : Str → Option Value} {base : Heap}
variable {σ : L2.St} {H H' : Hp} {ta tb te : TE} {tt tu : TT} {tA : TA} {r r' : Rs} {b b' : Bool} {D : Ends} {t u tz : TS} {g : TG}
/-- digit(state, m) == 0 -/
theorem mt_dig {i : Nat} {st : Addr} {m : Int} {X : XK} {Q : Bool → Hp → Prop} (hv : σ[i]? = some (some (.ref st))) (hs : SS st H) (h0 : 0 < m) (h1 : m < 1073741824) (k : ∀ H2 b, Ch [st] H H2 → SS st H2 → Q b H2) :
    tTest (tOp rEq (tCall (FM S_digit) [] X (tCons (tVar i) (tCons (tC (.int m)) tNil))) (tC (.int 0))) σ H Q :=
  m_test (m_op (m_call hv hs (ea_cons (E.o e_int) ea_nil) ⟨m, rfl, h0, h1, rfl⟩ fun H1 v H2 e1 c s2 ⟨j, _, e⟩ => by
    subst e
    exact ⟨rfl, _, rfl, k H2 _ c s2⟩))
/-- digit(state, m) > 0 -/
theorem mt_digGt {i : Nat} {st : Addr} {m : Int} {X : XK} {Q : Bool → Hp → Prop} {f : Int → Int → Bool} (hv : σ[i]? = some (some (.ref st))) (hs : SS st H) (h0 : 0 < m) (h1 : m < 1073741824) (k : ∀ H2 b, Ch [st] H H2 → SS st H2 → Q b H2) :
    tTest (tOp (rI0 fun i j => .bl (f i j)) (tCall (FM S_digit) [] X (tCons (tVar i) (tCons (tC (.int m)) tNil))) (tC (.int 0))) σ H Q :=
  m_test (m_op (m_call hv hs (ea_cons (E.o e_int) ea_nil) ⟨m, rfl, h0, h1, rfl⟩ fun H1 v H2 e1 c s2 ⟨j, _, e⟩ => by
    subst e
    exact ⟨_, _, rfl, rfl, _, rfl, k H2 _ c s2⟩))
/-- int(digit(state, m) == 0) -/
theorem m_dig2 {i : Nat} {st : Addr} {m : Int} {X : XK} {Q : VK} (hv : σ[i]? = some (some (.ref st))) (hs : SS st H) (h0 : 0 < m) (h1 : m < 1073741824) (k : ∀ (j : Nat) H2, j < 2 → Ch [st] H H2 → SS st H2 → Q (.int (j : Int)) H2) :
    tCB rIn1 (tCons (tOp rEq (tCall (FM S_digit) [] X (tCons (tVar i) (tCons (tC (.int m)) tNil))) (tC (.int 0))) tNil) σ H Q :=
  m_cb (m_cons (m_op (m_call hv hs (ea_cons (E.o e_int) ea_nil) ⟨m, rfl, h0, h1, rfl⟩ fun H1 v H2 e1 c s2 ⟨j, _, e⟩ => by
    subst e
    refine ⟨rfl, .inr ⟨_, rfl, ?_⟩⟩
    cases decide (V.int (j : Int) = V.int 0) with
    | true => exact k 1 H2 (by omega) c s2
    | false => exact k 0 H2 (by omega) c s2)))
/-- (a, b)[int(digit(state, m) == 0)], from the pair on -/
theorem pick2 {i : Nat} {st : Addr} {m : Int} {X : XK} {Q : VK} {v : V} {x y : PyData} (ht : Tp H v (.tuple [x, y])) (hv : σ[i]? = some (some (.ref st))) (hs : SS st H) (h0 : 0 < m) (h1 : m < 1073741824) (k : ∀ u d H2, d = x ∨ d = y → Ch [st] H H2 → SS st H2 → Tp H2 u d → Q u H2) :
    tCB rIn1 (tCons (tOp rEq (tCall (FM S_digit) [] X (tCons (tVar i) (tCons (tC (.int m)) tNil))) (tC (.int 0))) tNil) σ H fun w H2 => rIxT K v w H2 Q :=
  m_dig2 hv hs h0 h1 fun j H2 hj c s2 => by
    have : j = 0 ∨ j = 1 := by omega
    rcases this with rfl | rfl
    · exact ix_fin ht c.1 rfl fun u hu => k u _ H2 (.inl rfl) c s2 hu
    · exact ix_fin ht c.1 rfl fun u hu => k u _ H2 (.inr rfl) c s2 hu
/-- (..)[digit(state, m)], from the tuple on -/
theorem pickD {i : Nat} {st : Addr} {m : Nat} {X : XK} {Q : VK} {v : V} {ds : List PyData} (ht : Tp H v (.tuple ds)) (hv : σ[i]? = some (some (.ref st))) (hs : SS st H) (h0 : 0 < m) (h1 : m < 1073741824) (hm : m ≤ ds.length) (k : ∀ u d H2, d ∈ ds → Ch [st] H H2 → SS st H2 → Tp H2 u d → Q u H2) :
    tCall (FM S_digit) [] X (tCons (tVar i) (tCons (tC (.int (m : Int))) tNil)) σ H fun w H2 => rIxT K v w H2 Q :=
  m_call hv hs (ea_cons (E.o e_int) ea_nil) ⟨m, rfl, by omega, by omega, rfl⟩ fun H1 w H2 e1 c s2 ⟨j, hj, e⟩ => by
    subst e
    have hj : j < ds.length := by omega
    exact ix_fin ht c.1 (List.getElem?_eq_getElem hj) fun u hu => k u _ H2 (List.getElem_mem hj) c s2 hu
/-- _law_word -/
def S_word : List Rs → (Hp → V → Hp → Prop) → Prop := fun as Po => as = [] ∧ Po = fun _ v _ => ∃ s, Wo s ∧ v = .str s
theorem c__law_word (T : Txt K mg) : Cl P w K mg base 2 "_law_word" ["_law_state"] (FM S_word) := by
  have C__law_digit := c__law_digit (P := P) (w := w) (base := base) T
  refine cl_fm T.d__law_word sc__law_word (fun as r ⟨e, _⟩ => by rw [e]; rfl) fun f cdv A outer s H sa vs as Po Q Ew hr hs ha ⟨e1, e2⟩ q => ?_
  subst e1 e2
  obtain - | - := ha
  refine ⟨_, (pss_one (ps_ret (pe_ix ix_tup (pe_tup (pa_cons pe_str (pa_cons pe_str (pa_cons pe_str (pa_cons pe_str pa_nil))))) (pe_cl C__law_digit (hr.mono (by omega)) rfl (pa_cons (pv 0) (pa_cons pe_int pa_nil))) (fun _ _ => rfl)))), ?_⟩
  refine m_ret (m_op (m_e (e_tup (ds := [.str "", .str "a", .str "b", .str "ab"]) (ea_cons (E.o e_str) (ea_cons (E.o e_str) (ea_cons (E.o e_str) (ea_cons (E.o e_str) ea_nil))))) fun v H1 e1 hv => ?_))
  refine pickD (m := 4) hv rfl (hs.same e1) (by decide) (by decide) (by decide) fun u d H2 hd c s2 hu => ?_
  have : ∃ s, d = .str s ∧ Wo s := by
    simp only [List.mem_cons, List.not_mem_nil, or_false] at hd
    rcases hd with e | e | e | e <;> exact ⟨_, e, by unfold Wo; decide +kernel⟩
  obtain ⟨s, e, hw⟩ := this
  subst e
  exact q u H2 ((Ch.of e1).trans c) s2 ⟨s, hw, Tp.str_inv hu⟩
/-- _law_attributes -/
def S_attr : List Rs → (Hp → V → Hp → Prop) → Prop := fun as Po => as = [] ∧ Po = fun _ v H => ∃ a, GA a ∧ Tp H v (.tuple (a.map eP))
theorem menu_asc : (["alt", "class", "id", "name"] : List Str).Pairwise fun p q => p.cps.toList < q.cps.toList := by decide +kernel
theorem ca_snoc {a : Attrs} {p : Str × Str} (h : CA a) (h1 : Wo p.1) (h2 : Wo p.2) : CA (a ++ [p]) := by
  unfold CA at h ⊢
  induction a with
  | nil =>
    unfold Wo at h1 h2
    simp only [PyData.canLay0] at h1 h2
    simp only [List.nil_append, List.map_cons, List.map_nil, eP, PyData.canLayAll0, PyData.canLay0, Bool.and_eq_true, Bool.and_true]
    exact ⟨h1, h2⟩
  | cons x a ih =>
    rw [List.map_cons, PyData.canLayAll0, Bool.and_eq_true] at h
    rw [List.cons_append, List.map_cons, PyData.canLayAll0, Bool.and_eq_true]
    exact ⟨h.1, ih h.2⟩
theorem c__law_attributes (T : Txt K mg) : Cl P w K mg base 3 "_law_attributes" ["_law_state"] (FM S_attr) := by
  have C__law_digit := c__law_digit (P := P) (w := w) (base := base) T
  have C__law_word := c__law_word (P := P) (w := w) (base := base) T
  refine cl_fm T.d__law_attributes sc__law_attributes (fun as r ⟨e, _⟩ => by rw [e]; rfl) fun f cdv A outer s H sa vs as Po Q Ew hr hs ha ⟨e1, e2⟩ q => ?_
  subst e1 e2
  obtain - | - := ha
  refine ⟨_, (pss_cons (ps_set (i := 1) sc__law_attributes.nd rfl (Or.inl rfl) (pe_lst pa_nil))
      (pss_cons (ps_for PassesOwn.never rfl (pi_tup (pe_tup (pa_cons pe_str (pa_cons pe_str (pa_cons pe_str (pa_cons pe_str pa_nil)))))) (pg_name (i := 2) sc__law_attributes.nd rfl (Or.inl rfl)) (pss_one (ps_if (pt_cmpR op_eq (pe_cl C__law_digit (hr.mono (by omega)) rfl (pa_cons (pv 0) (pa_cons pe_int pa_nil))) pe_int (nomark _)) (pss_one (ps_expr (pe_bm PySem.F.plainAttrs_list PySem.F.slot_list_append PySem.F.type_list_append mt_append (pv 1) (pa_cons (pe_tup (pa_cons (pv 2) (pa_cons (pe_cl C__law_word (hr.mono (by omega)) rfl (pa_cons (pv 0) pa_nil)) pa_nil))) pa_nil)))) pss_nil)))
      (pss_one (ps_ret (pe_callTy call_to rfl T.n_tuple bt_tuple (pa_cons (pv 1) pa_nil)))))), ?_⟩
  refine q_asg (e_lst (ds := []) ea_nil) fun v1 H1 e1 hv1 => ?_
  obtain ⟨l, rfl, hl0, hl⟩ := hv1
  have hs1 := hs.same e1
  have hne := hs.ne hl0
  refine q_for (α := Str) (enc := .str) (xs := ["alt", "class", "id", "name"]) (e_tup (ds := [.str "alt", .str "class", .str "id", .str "name"]) (ea_cons (E.o e_str) (ea_cons (E.o e_str) (ea_cons (E.o e_str) (ea_cons (E.o e_str) ea_nil))))) fun H2 e2 => ?_
  refine ⟨fun done todo σ' H' => ∃ v a, σ' = [some _, some (.ref l), v] ∧ Ch [sa] H H' ∧ Tx H2 H' ∧ SS sa H' ∧ Ls H' l (a.map eP) ∧ (a.map Prod.fst).Sublist done ∧ CA a, ⟨_, [], rfl, Ch.of (e1.trans e2), Tx.refl _, hs1.same e2, hl.mono e2, by simp, rfl⟩, fun _ _ _ _ ⟨_, _, _, _, h, _⟩ => h, ?_, ?_⟩
  · rintro done x todo u σ' H' ed ⟨v, a, rfl, c, tx, s', hla, hsub, hca⟩ hu
    obtain rfl := Tp.str_inv hu
    have hal : a.length ≤ 3 := by
      have h1 := hsub.length_le
      have h2 := congrArg List.length ed
      simp only [List.length_append, List.length_cons, List.length_nil, List.length_map] at h1 h2
      omega
    have hx : Wo x := by
      have : x ∈ (["alt", "class", "id", "name"] : List Str) := by rw [ed]; simp
      simp only [List.mem_cons, List.not_mem_nil, or_false] at this
      rcases this with e | e | e | e <;> (rw [e]; unfold Wo; decide +kernel)
    refine m_if (mt_dig rfl s' (by decide) (by decide) fun H3 b c3 s3 => ?_)
    have hla3 := c3.ls (n1 hne) hla
    cases b with
    | false => exact ⟨_, a, rfl, c.trans c3, tx.trans c3.1, s3, hla3, hsub.trans (List.sublist_append_left _ _), hca⟩
    | true =>
      rw [if_pos rfl]
      obtain ⟨ws, w1, w2⟩ := hla3
      refine m_app rfl w1 (m_tup (m_cons (m_var rfl (m_cons (m_call rfl s3 ea_nil ⟨rfl, rfl⟩ fun H4 w H5 e4 c5 s5 ⟨s, hw, e⟩ => ?_)))))
      subst e
      refine m_nil ⟨sz_c rfl, fun p hpn => ?_⟩
      obtain ⟨e6, hp⟩ := tup_new (ds := [.str x, .str s]) (.cons (.str x) (.cons (.str s) .nil)) hpn
      have hla6 : Ls _ l (a.map eP) := (c5.ls (n1 hne) ⟨ws, w1, w2⟩).mono e6
      refine app_fin hla6 (by rw [List.length_map]; omega) (d := eP (x, s)) hp fun H7 w7 c7 hl7 => ?_
      refine ⟨_, a ++ [(x, s)], rfl, ((((c.trans c3).trans c5).same e6).step c7 fun b hb => ?_), ((tx.trans c3.1).trans c5.1).trans ((tx_of e6).trans c7.1), (s5.same e6).ch c7 (n1 hne.symm), by simpa using hl7, ?_, ca_snoc hca hx hw⟩
      · rw [List.mem_singleton] at hb
        exact .inr (hb ▸ hl0)
      · rw [List.map_append]
        exact hsub.append (List.Sublist.refl _)
  · rintro σ' H' ⟨v, a, rfl, c, tx, s', hla, hsub, hca⟩
    refine s_ret (e_to (eo_lst rfl hla)) fun v H3 e3 hv => q v H3 (c.same e3) (s'.same e3) ⟨a, ⟨⟨?_, ?_⟩, hca⟩, hv⟩
    · have := menu_asc.sublist hsub
      rw [List.pairwise_map] at this
      exact this
    · have := hsub.length_le
      simp only [List.length_map] at this
      exact this
end
end VL

namespace VL
open PySem L2
section
variable {P : Program} {w : World} {K : PySem.W.Frag} {mg : Str → Option Value} {base : Heap}
variable {σ : L2.St} {H H' : Hp} {ta tb te : TE} {tt tu : TT} {tA : TA} {r r' : Rs} {b b' : Bool} {D : Ends} {t u tz : TS} {g : TG}
/-- xs[lo:hi] of a list -/
theorem e_slL {tl th : TO} {xs : List PyData} {lo hi : Option Int} (h : Eo te σ H (.l xs)) (hl : EO tl σ H lo) (hh : EO th σ H hi) : E (tSl (rSlL K) te tl th) σ H (.l (cutD xs lo hi)) := fun H1 e Q q =>
  h H1 e _ fun v H2 e2 hv => hl H2 (e.trans e2) _ fun H3 e3 => hh H3 ((e.trans e2).trans e3) _ fun H4 e4 => by
    obtain ⟨a, rfl, vs, h1, h2⟩ := hv
    have e34 := e3.trans e4
    exact ⟨a, vs, rfl, SqL.of (e34 _ _ h1), fun p hp => q _ _ ((e2.trans e34).trans (same_new hp)) ⟨p, rfl, (e2.trans e34).free hp, _, upd_same, ((h2.mono (tx_of e34)).cut lo hi).mono (tx_of (same_new hp))⟩⟩
theorem m_rng {j : Nat} (h : tA σ H fun vs H1 => tSeq (tFor (iRng1 fun _ H2 Q => Q vs H2) (gName j) t) tz D σ H1) : tSeq (tFor (iRng1 tA) (gName j) t) tz D σ H := h
theorem ea_k {vs : List V} {rs : List Rs} (h : ARs H vs rs) : EA (fun _ H2 Q => Q vs H2) σ H rs := fun H1 e Q q => q vs H1 (Same.refl H1) (h.mono e)
/-- for k in range(n): a row that stays -/
theorem q_rngP {j : Nat} {n : Nat} {v : V} (hv : Tp H v (.int (n : Int))) (hn : n < 1000000) (Pv : L2.St → Hp → Prop) (p0 : Pv σ H) (ps : ∀ (i : Nat) σ' H', Pv σ' H' → t { D with nx := Pv, ct := Pv, bk := tz D } (σ'.set j (some (.int (i : Int)))) H') (pd : ∀ σ' H', Pv σ' H' → tz D σ' H') :
    tSeq (tFor (iRng1 fun _ H2 Q => Q [v] H2) (gName j) t) tz D σ H := by
  obtain rfl := Tp.int_inv hv
  refine ⟨(n : Int), rfl, by omega, by omega, ?_⟩
  rw [Int.toNat_natCast]
  refine for_range (lo := 0) (n := n) (fun _ => Pv) p0 (fun i σ' H' hi p => ?_) pd
  have e0 : (0 : Int) + (i : Int) = (i : Int) := Int.zero_add _
  show t { D with nx := Pv, ct := Pv, bk := tz D } (σ'.set j (some (.int ((0 : Int) + (i : Int))))) H'
  rw [e0]
  exact ps i σ' H' p
theorem put_perm {α : Type} (l : List α) (k : Nat) (x : α) : (l.take k ++ ([x] ++ l.drop k)).Perm (l ++ [x]) := by
  refine (List.perm_append_comm_assoc _ _ _).trans ?_
  rw [List.take_append_drop]
  exact List.perm_append_comm
/-- _law_pool -/
def S_pool : List Rs → (Hp → V → Hp → Prop) → Prop := fun as Po => ∃ m : Nat, as = [.d (.int (m : Int))] ∧ m ≤ 100 ∧ Po = fun H v H' => ∃ l ns, v = .ref l ∧ H l = none ∧ Ls H' l (eI ns) ∧ ns.Perm (up m)
theorem c__law_pool (T : Txt K mg) : Cl P w K mg base 2 "_law_pool" ["_law_state", "_law_many"] (FM S_pool) := by
  have C__law_digit := c__law_digit (P := P) (w := w) (base := base) T
  refine cl_fm T.d__law_pool sc__law_pool (fun as r ⟨m, e, _⟩ => by rw [e]; rfl) fun f cdv A outer s H sa vs as Po Q Ew hr hs ha ⟨m, e1, hm, e2⟩ q => ?_
  subst e1 e2
  obtain - | ⟨hmv, - | -⟩ := ha
  refine ⟨_, (pss_cons (ps_set (i := 2) sc__law_pool.nd rfl (Or.inl rfl) (pe_lst pa_nil))
      (pss_cons (ps_for PassesOwn.never rfl (pi_range1 rfl T.n_range (pa_cons (pv 1) pa_nil)) (pg_name (i := 3) sc__law_pool.nd rfl (Or.inl rfl)) (pss_cons (ps_set (i := 4) sc__law_pool.nd rfl (Or.inl rfl) (pe_cl C__law_digit (hr.mono (by omega)) rfl (pa_cons (pv 0) (pa_cons (pe_op op_add (pe_callB call_ln rfl T.n_len bt_len (pa_cons (pv 2) pa_nil)) pe_int) pa_nil))))
      (pss_one (ps_set (i := 2) sc__law_pool.nd rfl (Or.inl rfl) (pe_op op_cat (pe_op op_cat (pe_slice sl_list (pv 2) po_none (po_some (pv 4))) (pe_lst (pa_cons (pe_op op_add (pv 3) pe_int) pa_nil))) (pe_slice sl_list (pv 2) (po_some (pv 4)) po_none))))))
      (pss_one (ps_ret (pv 2))))), ?_⟩
  refine q_asg (e_lst (ds := []) ea_nil) fun v1 H1 e1 hv1 => ?_
  obtain ⟨l, rfl, hl0, hl⟩ := hv1
  refine q_rng1 (n := m) (ea_cons (E.o (e_var rfl (Tp.mono (tx_of e1) hmv))) ea_nil) (by omega) fun H2 e2 => ?_
  refine ⟨fun i σ' H' => ∃ l ns v3 v4, σ' = [some _, some _, some (.ref l), v3, v4] ∧ Ch [sa] H H' ∧ SS sa H' ∧ H l = none ∧ Ls H' l (eI ns) ∧ ns.Perm (up i), ⟨l, [], _, _, rfl, Ch.of (e1.trans e2), hs.same (e1.trans e2), hl0, hl.mono e2, List.Perm.refl _⟩, ?_, ?_⟩
  · rintro i σ' H' hi ⟨l, ns, v3, v4, rfl, c, s', hl0, hl, hp⟩
    have hln : ns.length = i := by rw [hp.length_eq, up_len]
    have hne := hs.ne hl0
    refine m_asg (m_call rfl s' (ea_cons (E.o (e_opI (e_lenL (eo_lst rfl hl)) e_int)) ea_nil) ⟨(((eI ns).length : Nat) : Int) + 1, rfl, by omega, by rw [List.length_map]; omega, rfl⟩ fun H3 v H4 e3 c4 s4 ⟨k, hk, e⟩ => ?_)
    subst e
    have hl4 := c4.ls (n1 hne) hl
    refine s_asg (r := .l (eI (ns.take k ++ ([(i : Int) + 1] ++ ns.drop k))) ) (E.is (e_cat (E.o (e_cat (E.o (e_slL (eo_lst rfl hl4) eo_no (eo_part (e_var rfl (Tp.int (k : Int)))))) (E.o (e_lst (ds := [.int ((i : Int) + 1)]) (ea_cons (E.o (e_opI (e_var rfl (Tp.int (i : Int))) e_int)) ea_nil))) ?_)) (E.o (e_slL (eo_lst rfl hl4) (eo_part (e_var rfl (Tp.int (k : Int)))) eo_no)) ?_) ?_) fun v5 H5 e5 hv5 => ?_
    · rw [cutD_to]
      simp only [List.length_take, List.length_map, List.length_cons, List.length_nil]
      omega
    · rw [cutD_to, cutD_from]
      simp only [List.length_append, List.length_take, List.length_drop, List.length_map, List.length_cons, List.length_nil]
      omega
    · rw [cutD_to, cutD_from]
      simp [eI, List.map_take, List.map_drop]
    · obtain ⟨l', rfl, hl5, hl6⟩ := hv5
      refine ⟨l', _, _, _, rfl, (c.trans c4).same e5, s4.same e5, ?_, hl6, ?_⟩
      · cases hh : H l' with
        | none => rfl
        | some o =>
          have hn : l' ≠ sa := fun z => by
            obtain ⟨n, hn⟩ := s4
            rw [z, hn] at hl5
            cases hl5
          have := (c.trans c4).2 _ _ hh (n1 hn)
          rw [this] at hl5
          cases hl5
      · rw [up_succ]
        exact (put_perm ns k _).trans (hp.append_right _)
  · rintro σ' H' ⟨l, ns, v3, v4, rfl, c, s', hl0, hl, hp⟩
    exact s_retO rfl (q _ H' c s' ⟨l, ns, rfl, hl0, hl, hp⟩)
/-- if c or digit(state, m) == 0: .. -/
theorem q_orDig {i : Nat} {st : Addr} {m : Int} {X : XK} (h : ET tt σ H b) (hv : σ[i]? = some (some (.ref st))) (hs : SS st H) (h0 : 0 < m) (h1 : m < 1073741824) (k1 : ∀ H2, Ch [st] H H2 → SS st H2 → t { D with nx := tz D } σ H2) (k2 : b = false → ∀ H2, Ch [st] H H2 → SS st H2 → tz D σ H2) :
    tSeq (tIfS (tOr tt (tTest (tOp rEq (tCall (FM S_digit) [] X (tCons (tVar i) (tCons (tC (.int m)) tNil))) (tC (.int 0))))) t tNext) tz D σ H :=
  m_when (m_or (h H (Same.refl H) _ fun H1 e1 => by
    cases b with
    | true => exact k1 H1 (Ch.of e1) (hs.same e1)
    | false =>
      rw [if_neg Bool.false_ne_true]
      refine mt_dig hv (hs.same e1) h0 h1 fun H2 b c s2 => ?_
      cases b with
      | true => exact k1 H2 ((Ch.of e1).trans c) s2
      | false => exact k2 rfl H2 ((Ch.of e1).trans c) s2))
theorem ids_one (x : Node) : ids [x] = idsN x := by rw [ids_cons, ids_nil, List.append_nil]
/-- _law_node -/
def P_node (N : Nat) : Sp := fun vs H Q _ => ∃ (st pl : Addr) (lv : Nat) (ns : List Int), vs = [.ref st, .int (lv : Int), .ref pl] ∧ lv ≤ N ∧ SS st H ∧ st ≠ pl ∧ H pl = some (.lst (ns.map V.int)) ∧ ns ≠ [] ∧ ns.length ≤ 1000 ∧ ∀ v H' x ns', Ch [st, pl] H H' → SS st H' → H' pl = some (.lst (ns'.map V.int)) → (idsN x ++ ns').Perm ns → GD (lv + 1) [x] → Tp H' v (eN x) → Q v H'
def P_nodeL : Nat → Sp
  | 0 => fun _ _ _ _ => False
  | n + 1 => P_node n
theorem n2 {b st pl : Addr} (h1 : b ≠ st) (h2 : b ≠ pl) : b ∉ [st, pl] := fun z => by
  rw [List.mem_cons, List.mem_singleton] at z
  exact z.elim h1 h2
theorem Ch.two {st pl : Addr} {H H' : Hp} (h : Ch [st] H H') : Ch [st, pl] H H' := ⟨h.1, fun b o e n => h.2 b o e fun z => n (by rw [List.mem_singleton.mp z]; simp)⟩
theorem ls_ints {p : Addr} {H : Hp} {ns : List Int} (h : H p = some (.lst (ns.map V.int))) : Ls H p (eI ns) := ⟨_, h, TpAll.of_ints ns⟩
theorem ints_ls {p : Addr} {H : Hp} {ns : List Int} (h : Ls H p (eI ns)) : H p = some (.lst (ns.map V.int)) := by
  obtain ⟨vs, h1, h2⟩ := h
  rw [h1, h2.ints]
theorem c__law_node (T : Txt K mg) : ∀ N : Nat, Cl P w K mg base (N + 4) "_law_node" ["_law_state", "_law_levels", "_law_pool_here"] (P_node N) := by
  intro N
  induction N with
  | zero => exact go 0 (cl_no2 T.d__law_node)
  | succ N ih => exact go (N + 1) ih
where
  go (N : Nat) (C__law_node : Cl P w K mg base (N + 3) "_law_node" ["_law_state", "_law_levels", "_law_pool_here"] (P_nodeL N)) : Cl P w K mg base (N + 4) "_law_node" ["_law_state", "_law_levels", "_law_pool_here"] (P_node N) := by
    have C__law_digit := c__law_digit (P := P) (w := w) (base := base) T
    have C__law_word := c__law_word (P := P) (w := w) (base := base) T
    have C__law_attributes := c__law_attributes (P := P) (w := w) (base := base) T
    refine cl_of T.d__law_node sc__law_node (fun vs H Q E ⟨st, pl, lv, ns, e, _⟩ => by rw [e]; rfl) fun f cdv A outer s H vs Q Ew hr ⟨st, pl, lv, ns, e, hN, hs, hne, hp, hns, hnl, q⟩ => ?_
    subst e
    refine ⟨_, (pss_cons (ps_set (i := 3) sc__law_node.nd rfl (Or.inl rfl) (pe_bm0 PySem.F.plainAttrs_list PySem.F.slot_list_pop PySem.F.type_list_pop mt_pop (pv 2)))
      (pss_cons (ps_if (PW.pt (pw_or (pt_cmpR op_eq (pv 1) pe_int (nomark _)) (pw_or1 (pt_cmpR op_eq (pe_cl C__law_digit (hr.mono (by omega)) rfl (pa_cons (pv 0) (pa_cons pe_int pa_nil))) pe_int (nomark _))))) (pss_one (ps_ret (pe_tup (pa_cons pe_str (pa_cons (pv 3) (pa_cons (pe_cl C__law_word (hr.mono (by omega)) rfl (pa_cons (pv 0) pa_nil)) pa_nil)))))) pss_nil)
      (pss_cons (ps_set (i := 4) sc__law_node.nd rfl (Or.inl rfl) (pe_lst pa_nil))
      (pss_cons (ps_for PassesOwn.never rfl (pi_range1 rfl T.n_range (pa_cons (pe_ix ix_tup (pe_tup (pa_cons pe_int (pa_cons pe_int (pa_cons pe_int (pa_cons pe_int (pa_cons pe_int (pa_cons pe_int pa_nil))))))) (pe_cl C__law_digit (hr.mono (by omega)) rfl (pa_cons (pv 0) (pa_cons pe_int pa_nil))) (fun _ _ => rfl)) pa_nil)) (pg_name (i := 5) sc__law_node.nd rfl (Or.inl rfl)) (pss_one (ps_if (pt_cmpR op_gt (pe_callB call_ln rfl T.n_len bt_len (pa_cons (pv 2) pa_nil)) pe_int (nomark _)) (pss_one (ps_expr (pe_bm PySem.F.plainAttrs_list PySem.F.slot_list_append PySem.F.type_list_append mt_append (pv 4) (pa_cons (pe_cl C__law_node (hr.mono (by omega)) rfl (pa_cons (pv 0) (pa_cons (pe_op op_sub (pv 1) pe_int) (pa_cons (pv 2) pa_nil)))) pa_nil)))) pss_nil)))
      (pss_one (ps_ret (pe_tup (pa_cons pe_str (pa_cons (pv 3) (pa_cons (pe_ix ix_tup (pe_tup (pa_cons pe_str (pa_cons pe_str (pa_cons pe_str pa_nil)))) (pe_cl C__law_digit (hr.mono (by omega)) rfl (pa_cons (pv 0) (pa_cons pe_int pa_nil))) (fun _ _ => rfl)) (pa_cons (pe_cl C__law_attributes (hr.mono (by omega)) rfl (pa_cons (pv 0) pa_nil)) (pa_cons (pe_callTy call_to rfl T.n_tuple bt_tuple (pa_cons (pv 4) pa_nil)) pa_nil)))))))))))), ?_⟩
    obtain ⟨nr, i, rfl⟩ : ∃ nr i, ns = nr ++ [i] := ⟨ns.dropLast, ns.getLast hns, (List.dropLast_concat_getLast hns).symm⟩
    refine m_asg ⟨_, rfl, Or.inl ⟨rfl, _, SqL.of hp⟩, pl, _, .int i, rfl, rfl, hp, by simp, ?_⟩
    have hp1 : upd H pl (.lst (((nr ++ [i]).map V.int).dropLast)) pl = some (.lst (nr.map V.int)) := by
      rw [upd_same]
      simp
    have c1 : Ch [st, pl] H (upd H pl (.lst (((nr ++ [i]).map V.int).dropLast))) := (Ch.refl H).step (Ch.upd hp) fun b hb => .inl (by rw [List.mem_singleton.mp hb]; simp)
    have hs1 : SS st (upd H pl (.lst (((nr ++ [i]).map V.int).dropLast))) := by
      obtain ⟨n, hn⟩ := hs
      exact ⟨n, by rw [upd_ne hne]; exact hn⟩
    generalize upd H pl (.lst (((nr ++ [i]).map V.int).dropLast)) = H1 at hp1 c1 hs1 ⊢
    have hi (H : Hp) : Tp H (.int i) (.int i) := Tp.int i
    -- a text
    have text : ∀ H2 (D : Ends) (tz : TS) (σ : L2.St), σ[0]? = some (some (.ref st)) → σ[3]? = some (some (.int i)) → Ch [st] H1 H2 → SS st H2 → D.rt = Q → tRet (tTup (tCons (tC (.str "text")) (tCons (tVar 3) (tCons (tCall (FM S_word) [] E0 (tCons (tVar 0) tNil)) tNil)))) D σ H2 := by
      intro H2 D tz σ h0 h3 c2 s2 hD
      refine m_ret (m_tup (m_cons (m_c (m_cons (m_var h3 (m_cons (m_call h0 s2 ea_nil ⟨rfl, rfl⟩ fun H3 v H4 e3 c4 s4 ⟨s, hw, e⟩ => ?_)))))))
      subst e
      rw [hD]
      refine m_nil ⟨sz_c rfl, fun p hpn => ?_⟩
      obtain ⟨e5, hp5⟩ := tup_new (ds := [.str "text", .int i, .str s]) (.cons (.str _) (.cons (.int i) (.cons (.str s) .nil))) hpn
      have c24 := c2.trans c4
      refine q _ _ (.text i s) nr ((c1.trans c24.two).same e5) (s4.same e5) (e5 _ _ (c24.2 _ _ hp1 (n1 hne.symm))) ?_ (gd_text hw) (by rw [eN_text]; exact hp5)
      simp only [idsN]
      exact List.perm_append_comm
    refine q_orDig (et_eqI (e_var rfl (Tp.int (lv : Int))) e_int) rfl hs1 (by decide) (by decide) (fun H2 c2 s2 => text H2 _ (tSeq tNext tNext) _ rfl rfl c2 s2 rfl) fun hb H2 c2 s2 => ?_
    have hlv : lv ≠ 0 := fun z => by rw [z] at hb; exact absurd hb (by decide)
    obtain ⟨lm, rfl⟩ : ∃ k, lv = k + 1 := ⟨lv - 1, by omega⟩
    obtain ⟨M, rfl⟩ : ∃ k, N = k + 1 := ⟨N - 1, by omega⟩
    have c12 := c1.trans c2.two
    have hp2 := c2.2 _ _ hp1 (n1 hne.symm)
    refine q_asg (e_lst (ds := []) ea_nil) fun v3 H3 e3 hv3 => ?_
    obtain ⟨l, rfl, hl0, hl⟩ := hv3
    have c13 := c12.same e3
    have s3 := s2.same e3
    have hp3 := e3 _ _ hp2
    have hlH : H l = none := by
      cases hh : H l with
      | none => rfl
      | some o =>
        have hn1 : l ≠ st := fun z => by obtain ⟨n, hn⟩ := s2; rw [z, hn] at hl0; cases hl0
        have hn2 : l ≠ pl := fun z => by rw [z, hp2] at hl0; cases hl0
        have := c12.2 _ _ hh (n2 hn1 hn2)
        rw [this] at hl0
        cases hl0
    have hl1 : l ≠ st := fun z => by obtain ⟨n, hn⟩ := hs; rw [z, hn] at hlH; cases hlH
    have hl2 : l ≠ pl := fun z => by rw [z, hp] at hlH; cases hlH
    refine m_rng (m_cons (m_op (m_e (e_tup (ds := [.int 0, .int 1, .int 2, .int 3, .int 4, .int 2]) (ea_cons (E.o e_int) (ea_cons (E.o e_int) (ea_cons (E.o e_int) (ea_cons (E.o e_int) (ea_cons (E.o e_int) (ea_cons (E.o e_int) ea_nil))))))) fun v4 H4 e4 hv4 => pickD (m := 6) hv4 rfl (s3.same e4) (by decide) (by decide) (by decide) fun u d H5 hd c5 s5 hu => m_nil ?_)))
    have hk : ∃ k : Nat, k < 5 ∧ d = .int (k : Int) := by
      simp only [List.mem_cons, List.not_mem_nil, or_false] at hd
      rcases hd with e | e | e | e | e | e
      · exact ⟨0, by decide, e⟩
      · exact ⟨1, by decide, e⟩
      · exact ⟨2, by decide, e⟩
      · exact ⟨3, by decide, e⟩
      · exact ⟨4, by decide, e⟩
      · exact ⟨2, by decide, e⟩
    obtain ⟨k, hk, rfl⟩ := hk
    have c45 := (Ch.of (A := [st]) e4).trans c5
    refine q_rngP hu (by omega) (fun σ' H' => ∃ v5 ds ns', σ' = [some (.ref st), some (.int ((lm + 1 : Nat) : Int)), some (.ref pl), some (.int i), some (.ref l), v5] ∧ Ch [st, pl] H H' ∧ SS st H' ∧ H' pl = some (.lst (ns'.map V.int)) ∧ Ls H' l (ds.map eN) ∧ (ids ds ++ ns').Perm nr ∧ GD (lm + 1) ds) ?_ ?_ ?_
    · exact ⟨_, [], nr, rfl, c13.trans c45.two, s5, c45.2 _ _ hp3 (n1 hne.symm), c45.ls (n1 hl1) hl, List.Perm.refl _, gd_nil _⟩
    · rintro j σ' H' ⟨v5, ds, ns', rfl, c, s', hp', hl', hpm, hg⟩
      have hdl : ds.length ≤ 1000 := by
        have h1 := len_ids ds
        have h2 := hpm.length_eq
        simp only [List.length_append, List.length_cons, List.length_nil] at h2 hnl
        omega
      refine m_if (et_cmpI (e_lenL (eo_lst rfl (ls_ints hp'))) e_int H' (Same.refl H') _ fun H6 e6 => ?_)
      have s6 := s'.same e6
      have hp6 := e6 _ _ hp'
      have hl6 := hl'.mono e6
      have c6 := c.same e6
      cases hb : decide ((0 : Int) < ((eI ns').length : Nat)) with
      | false =>
        rw [if_neg Bool.false_ne_true]
        exact ⟨_, ds, ns', rfl, c6, s6, hp6, hl6, hpm, hg⟩
      | true =>
        rw [if_pos rfl]
        have hne' : ns' ≠ [] := fun z => by rw [z] at hb; exact absurd hb (by decide)
        obtain ⟨ws, w1, w2⟩ := hl6
        refine m_app rfl w1 (m_cl (m_cons (m_var rfl (m_cons (m_e (e_opI (e_var rfl (Tp.int ((lm + 1 : Nat) : Int))) e_int) fun v7 H7 e7 hv7 => m_cons (m_var rfl (m_nil ?_)))))))
        have em : ((lm + 1 : Nat) : Int) - 1 = (lm : Int) := by omega
        rw [em] at hv7
        obtain rfl := Tp.int_inv hv7
        refine ⟨st, pl, lm, ns', rfl, by omega, s6.same e7, hne, e7 _ _ hp6, hne', ?_, fun v8 H8 x ns'' c8 s8 hp8 hpm8 hg8 hx => ?_⟩
        · have h2 := hpm.length_eq
          simp only [List.length_append, List.length_cons, List.length_nil] at h2 hnl
          omega
        have hl8 : Ls H8 l (ds.map eN) := c8.ls (n2 hl1 hl2) (Ls.mono (H := H6) ⟨ws, w1, w2⟩ e7)
        refine app_fin hl8 (by rw [List.length_map]; omega) hx fun H9 w9 c9 hl9 => ?_
        refine ⟨_, ds ++ [x], ns'', rfl, (((c6.same e7).trans c8).step c9 fun b hb => .inr (List.mem_singleton.mp hb ▸ hlH)), s8.ch c9 (n1 hl1.symm), c9.2 _ _ hp8 (n1 hl2.symm), by simpa using hl9, ?_, gd_all.mpr fun y hy => ?_⟩
        · rw [ids_append, ids_one, List.append_assoc]
          exact (hpm8.append_left _).trans hpm
        · rcases List.mem_append.mp hy with hy | hy
          · exact gd_all.mp hg y hy
          · rw [List.mem_singleton.mp hy]; exact hg8
    · rintro σ' H' ⟨v5, ds, ns', rfl, c, s', hp', hl', hpm, hg⟩
      refine m_ret (m_tup (m_cons (m_c (m_cons (m_var rfl (m_cons (m_op (m_e (e_tup (ds := [.str "p", .str "div", .str "b"]) (ea_cons (E.o e_str) (ea_cons (E.o e_str) (ea_cons (E.o e_str) ea_nil)))) fun v6 H6 e6 hv6 => pickD (m := 3) hv6 rfl (s'.same e6) (by decide) (by decide) (by decide) fun u7 d7 H7 hd7 c7 s7 hu7 => m_cons (m_call rfl s7 ea_nil ⟨rfl, rfl⟩ fun H8 v9 H9 e8 c9 s9 ⟨a, ha, hv9⟩ => m_cons (m_e (e_to (eo_lst rfl (?_ : Ls _ l (ds.map eN)))) fun v10 H10 e10 hv10 => m_nil ⟨sz_c rfl, fun p hpn => ?_⟩))))))))))
      · exact c9.ls (n1 hl1) (c7.ls (n1 hl1) (hl'.mono e6))
      have ht : ∃ t, d7 = .str t ∧ Wo t := by
        simp only [List.mem_cons, List.not_mem_nil, or_false] at hd7
        rcases hd7 with e | e | e <;> exact ⟨_, e, by unfold Wo; decide +kernel⟩
      obtain ⟨t, rfl, ht⟩ := ht
      have cc : Ch [st] H' H10 := (((Ch.of e6).trans c7).trans c9).same e10
      obtain ⟨e11, hp11⟩ := tup_new (ds := [.str "element", .int i, .str t, .tuple (a.map eP), .tuple (ds.map eN)]) (.cons (.str _) (.cons (.int i) (.cons (hu7.mono (c9.1.trans (tx_of e10))) (.cons (hv9.mono (tx_of e10)) (.cons hv10 .nil))))) hpn
      refine q _ _ (.elem i t a ds) ns' ((c.trans cc.two).same e11) ((s9.same e10).same e11) (e11 _ _ (cc.2 _ _ hp' (n1 hne.symm))) ?_ (gd_elem ht ha hg) (by rw [eN_elem]; exact hp11)
      simp only [idsN]
      refine (List.Perm.cons i hpm).trans ?_
      exact List.perm_append_comm (l₁ := [i])
end
end VL

namespace VL
open PySem L2
section
variable {P : Program} {w : World} {K : PySem.W.Frag} {mg : Str → Option Value} {base : Heap}
variable {σ : L2.St} {H H' : Hp} {ta tb te : TE} {tt tu : TT} {tA : TA} {r r' : Rs} {b b' : Bool} {D : Ends} {t u tz : TS} {g : TG}
/-- what was free is free still, but for what is new -/
theorem free_back {A : List Addr} {H0 H1 : Hp} {l : Addr} (c : Ch A H0 H1) (hA : ∀ a ∈ A, H1 a ≠ none) (h : H1 l = none) : H0 l = none := by
  cases hh : H0 l with
  | none => rfl
  | some o =>
    have hn : l ∉ A := fun z => hA l z h
    have := c.2 _ _ hh hn
    rw [this] at h
    cases h
theorem SS.all {st : Addr} {H : Hp} (h : SS st H) : ∀ a ∈ [st], H a ≠ none := fun a ha => by
  rw [List.mem_singleton.mp ha]
  exact h.some
/-- _law_document -/
def S_doc (N : Nat) : List Rs → (Hp → V → Hp → Prop) → Prop := fun as Po => ∃ m lv : Nat, as = [.d (.int (m : Int)), .d (.int (lv : Int))] ∧ m ≤ 100 ∧ lv ≤ N ∧ Po = fun H v H' => ∃ d rest, (ids d ++ rest).Perm (up m) ∧ GD (lv + 1) d ∧ Tp H' v (eD d)
theorem c__law_document (T : Txt K mg) (N : Nat) : Cl P w K mg base (N + 5) "_law_document" ["_law_state", "_law_many", "_law_levels"] (FM (S_doc N)) := by
  have C__law_digit := c__law_digit (P := P) (w := w) (base := base) T
  have C__law_pool := c__law_pool (P := P) (w := w) (base := base) T
  have C__law_node := c__law_node (P := P) (w := w) (base := base) T N
  refine cl_fm T.d__law_document sc__law_document (fun as r ⟨m, lv, e, _⟩ => by rw [e]; rfl) fun f cdv A outer s H sa vs as Po Q Ew hr hs ha ⟨m, lv, e1, hm, hlv, e2⟩ q => ?_
  subst e1 e2
  obtain - | ⟨hmv, - | ⟨hlvv, - | -⟩⟩ := ha
  obtain rfl := Tp.int_inv hmv
  obtain rfl := Tp.int_inv hlvv
  refine ⟨_, (pss_cons (ps_set (i := 3) sc__law_document.nd rfl (Or.inl rfl) (pe_cl C__law_pool (hr.mono (by omega)) rfl (pa_cons (pv 0) (pa_cons (pv 1) pa_nil))))
      (pss_cons (ps_set (i := 4) sc__law_document.nd rfl (Or.inl rfl) (pe_lst pa_nil))
      (pss_cons (ps_for PassesOwn.never rfl (pi_range1 rfl T.n_range (pa_cons (pe_op op_add pe_int (pe_cl C__law_digit (hr.mono (by omega)) rfl (pa_cons (pv 0) (pa_cons pe_int pa_nil)))) pa_nil)) (pg_name (i := 5) sc__law_document.nd rfl (Or.inl rfl)) (pss_one (ps_if (pt_cmpR op_gt (pe_callB call_ln rfl T.n_len bt_len (pa_cons (pv 3) pa_nil)) pe_int (nomark _)) (pss_one (ps_expr (pe_bm PySem.F.plainAttrs_list PySem.F.slot_list_append PySem.F.type_list_append mt_append (pv 4) (pa_cons (pe_cl C__law_node (hr.mono (by omega)) rfl (pa_cons (pv 0) (pa_cons (pv 2) (pa_cons (pv 3) pa_nil)))) pa_nil)))) pss_nil)))
      (pss_one (ps_ret (pe_callTy call_to rfl T.n_tuple bt_tuple (pa_cons (pv 4) pa_nil))))))), ?_⟩
  refine m_asg (m_call rfl hs (ea_cons (E.o (e_var rfl (Tp.int (m : Int)))) ea_nil) ⟨m, rfl, hm, rfl⟩ fun H0 v H1 e0 c1 s1 ⟨pl, ns, ev, hpl0, hpl, hpm⟩ => ?_)
  subst ev
  have hplH := e0.free hpl0
  have hne : pl ≠ sa := hs.ne hplH
  have hp1 := ints_ls hpl
  refine q_asg (e_lst (ds := []) ea_nil) fun v2 H2 e2 hv2 => ?_
  obtain ⟨l, rfl, hl0, hl⟩ := hv2
  have hlH : H l = none := free_back c1 s1.all hl0
  have hl1 : l ≠ sa := hs.ne hlH
  have hl2 : l ≠ pl := fun z => by rw [z, hp1] at hl0; cases hl0
  have s2 := s1.same e2
  have c2 := c1.same e2
  have hp2 := e2 _ _ hp1
  refine m_rng (m_cons (m_op (m_c (m_call rfl s2 (ea_cons (E.o e_int) ea_nil) ⟨5, rfl, by decide, by decide, rfl⟩ fun H3 v H4 e3 c4 s4 ⟨k, hk, ev⟩ => ?_))))
  subst ev
  refine ⟨1, (k : Int), rfl, rfl, m_nil ?_⟩
  have ek : (1 : Int) + (k : Int) = ((1 + k : Nat) : Int) := by omega
  refine q_rngP (n := 1 + k) (show Tp _ (V.int ((1 : Int) + (k : Int))) _ from ek ▸ Tp.int _) (by omega) (fun σ' H' => ∃ v5 ds ns', σ' = [some (.ref sa), some (.int (m : Int)), some (.int (lv : Int)), some (.ref pl), some (.ref l), v5] ∧ Ch [sa] H H' ∧ SS sa H' ∧ H' pl = some (.lst (ns'.map V.int)) ∧ Ls H' l (ds.map eN) ∧ (ids ds ++ ns').Perm (up m) ∧ GD (lv + 1) ds) ?_ ?_ ?_
  · exact ⟨_, [], ns, rfl, c2.trans c4, s4, c4.2 _ _ hp2 (n1 hne), c4.ls (n1 hl1) hl, hpm, gd_nil _⟩
  · rintro j σ' H' ⟨v5, ds, ns', rfl, c, s', hp', hl', hpm, hg⟩
    have h2 := hpm.length_eq
    rw [List.length_append, up_len] at h2
    have hdl : ds.length ≤ 1000 := by
      have h1 := len_ids ds
      omega
    refine m_if (et_cmpI (e_lenL (eo_lst rfl (ls_ints hp'))) e_int H' (Same.refl H') _ fun H6 e6 => ?_)
    have s6 := s'.same e6
    have hp6 := e6 _ _ hp'
    have hl6 := hl'.mono e6
    have c6 := c.same e6
    cases hb : decide ((0 : Int) < ((eI ns').length : Nat)) with
    | false =>
      rw [if_neg Bool.false_ne_true]
      exact ⟨_, ds, ns', rfl, c6, s6, hp6, hl6, hpm, hg⟩
    | true =>
      rw [if_pos rfl]
      have hne' : ns' ≠ [] := fun z => by rw [z] at hb; exact absurd hb (by decide)
      obtain ⟨ws, w1, w2⟩ := hl6
      refine m_app rfl w1 (m_cl (m_cons (m_var rfl (m_cons (m_var rfl (m_cons (m_var rfl (m_nil ?_))))))))
      refine ⟨sa, pl, lv, ns', rfl, hlv, s6, hne.symm, hp6, hne', by omega, fun v8 H8 x ns'' c8 s8 hp8 hpm8 hg8 hx => ?_⟩
      have hl8 : Ls H8 l (ds.map eN) := c8.ls (n2 hl1 hl2) ⟨ws, w1, w2⟩
      have c68 : Ch [sa] H H8 := c6.step c8 fun b hb => by
        rw [List.mem_cons, List.mem_singleton] at hb
        rcases hb with hb | hb
        · exact .inl (by rw [hb]; simp)
        · exact .inr (by rw [hb]; exact hplH)
      refine app_fin hl8 (by rw [List.length_map]; omega) hx fun H9 w9 c9 hl9 => ?_
      refine ⟨_, ds ++ [x], ns'', rfl, c68.step c9 fun b hb => .inr (List.mem_singleton.mp hb ▸ hlH), s8.ch c9 (n1 hl1.symm), c9.2 _ _ hp8 (n1 hl2.symm), by simpa using hl9, ?_, gd_all.mpr fun y hy => ?_⟩
      · rw [ids_append, ids_one, List.append_assoc]
        exact (hpm8.append_left _).trans hpm
      · rcases List.mem_append.mp hy with hy | hy
        · exact gd_all.mp hg y hy
        · rw [List.mem_singleton.mp hy]; exact hg8
  · rintro σ' H' ⟨v5, ds, ns', rfl, c, s', hp', hl', hpm, hg⟩
    exact s_ret (e_to (eo_lst rfl hl')) fun v H6 e6 hv => q v H6 (c.same e6) (s'.same e6) ⟨ds, ns', hpm, hg, hv⟩
/-- _law_below -/
theorem c__law_below (T : Txt K mg) : Cl P w K mg base 1 "_law_below" ["_law_node_here"] (FS S_kids_in) := by
  refine cl_fs T.d__law_below sc__law_below (fun as r ⟨n, e, _⟩ => by rw [e]; rfl) fun f cdv A outer s H vs as r Q Ew hr ha ⟨n, e1, e2⟩ q => ?_
  subst e1 e2
  obtain - | ⟨hn, - | -⟩ := ha
  refine ⟨_, (pss_cons (ps_if (pt_cmpR op_eq (pe_ix ix_tup (pv 0) pe_int (fun _ _ => rfl)) pe_str (nomark _)) (pss_one (ps_ret (pe_ix ix_tup (pv 0) pe_int (fun _ _ => rfl)))) pss_nil)
      (pss_one (ps_ret (pe_tup pa_nil)))), ?_⟩
  cases n with
  | text i s =>
    rw [eN_text] at hn
    refine q_when (et_eqS (e_ixT 0 (e_var rfl hn) e_int rfl) e_str) (fun h => absurd h (by decide +kernel)) fun _ H1 e1 => ?_
    exact s_ret (e_tup (ds := []) ea_nil) fun v H2 e2 hv => q v H2 (e1.trans e2) hv
  | elem i t a k =>
    rw [eN_elem] at hn
    refine q_when (et_eqS (e_ixT 0 (e_var rfl hn) e_int rfl) e_str) (fun _ H1 e1 => ?_) (fun h => absurd h (by decide +kernel))
    exact s_ret (e_ixT 4 (e_var rfl (Tp.mono (tx_of e1) hn)) e_int rfl) fun v H2 e2 hv => q v H2 (e1.trans e2) hv
/-! ### _law_flat: rows, lists of their own -/
def Rw (H : Hp) (v : V) (x : Node × Nat) : Prop := ∃ a u p, v = .ref a ∧ H a = some (.lst [u, .int p, .int (x.2 : Int)]) ∧ Tp H u (eN x.1)
inductive RwAll (H : Hp) : List V → List (Node × Nat) → Prop
  | nil : RwAll H [] []
  | cons {v : V} {vs : List V} {x : Node × Nat} {xs : List (Node × Nat)} : Rw H v x → RwAll H vs xs → RwAll H (v :: vs) (x :: xs)
theorem Rw.mono {H H' : Hp} {v : V} {x : Node × Nat} (h : Rw H v x) (e : Same H H') : Rw H' v x := by
  obtain ⟨a, u, p, h1, h2, h3⟩ := h
  exact ⟨a, u, p, h1, e _ _ h2, h3.mono (tx_of e)⟩
theorem RwAll.mono {H H' : Hp} (e : Same H H') : ∀ {vs : List V} {xs : List (Node × Nat)}, RwAll H vs xs → RwAll H' vs xs
  | _, _, .nil => .nil
  | _, _, .cons h t => .cons (h.mono e) (t.mono e)
theorem RwAll.append {H : Hp} : ∀ {vs ws : List V} {xs ys : List (Node × Nat)}, RwAll H vs xs → RwAll H ws ys → RwAll H (vs ++ ws) (xs ++ ys)
  | _, _, _, _, .nil, t => t
  | _, _, _, _, .cons h r, t => .cons h (r.append t)
theorem RwAll.length {H : Hp} : ∀ {vs : List V} {xs : List (Node × Nat)}, RwAll H vs xs → vs.length = xs.length
  | _, _, .nil => rfl
  | _, _, .cons _ t => by rw [List.length_cons, List.length_cons, t.length]
theorem RwAll.getV {H : Hp} : ∀ {vs : List V} {ds : List (Node × Nat)} {k : Nat} {v : V}, RwAll H vs ds → vs[k]? = some v → ∃ d, ds[k]? = some d ∧ Rw H v d
  | _, _, _, _, .nil, h => by simp at h
  | _, d :: _, 0, v, .cons h t, e => by
    rw [List.getElem?_cons_zero] at e
    exact ⟨d, rfl, Option.some.inj e ▸ h⟩
  | _, _, k + 1, v, .cons h t, e => by
    rw [List.getElem?_cons_succ] at e
    rw [List.getElem?_cons_succ]
    exact RwAll.getV t e
theorem Rw.upd {H : Hp} {v : V} {x : Node × Nat} {l : Addr} {ws ws' : List V} (h : Rw H v x) (hl : H l = some (.lst ws)) (hr : ∀ v ∈ ws, ∃ a, v = .ref a) : Rw (upd H l (.lst ws')) v x := by
  obtain ⟨a, u, p, h1, h2, h3⟩ := h
  have hn : a ≠ l := fun z => by
    rw [z, hl] at h2
    cases h2
    obtain ⟨c, hc⟩ := hr (.int p) (by simp)
    cases hc
  exact ⟨a, u, p, h1, by rw [upd_ne hn]; exact h2, h3.mono (tx_lst hl)⟩
theorem RwAll.upd {H : Hp} {l : Addr} {ws ws' : List V} (hl : H l = some (.lst ws)) (hr : ∀ v ∈ ws, ∃ a, v = .ref a) : ∀ {vs : List V} {xs : List (Node × Nat)}, RwAll H vs xs → RwAll (upd H l (.lst ws')) vs xs
  | _, _, .nil => .nil
  | _, _, .cons h t => .cons (h.upd hl hr) (t.upd hl hr)
theorem RwAll.refs {H : Hp} : ∀ {vs : List V} {xs : List (Node × Nat)}, RwAll H vs xs → ∀ v ∈ vs, ∃ a, v = .ref a
  | _, _, .nil, v, h => (List.not_mem_nil h).elim
  | _, _, .cons r t, v, h => by
    rcases List.mem_cons.mp h with e | h
    · obtain ⟨a, u, p, h1, _⟩ := r
      exact ⟨a, by rw [e]; exact h1⟩
    · exact t.refs v h
mutual
def flN (lv : Nat) : Node → List (Node × Nat)
  | .text i s => [(.text i s, lv)]
  | .elem i t a k => (.elem i t a k, lv) :: fl (lv + 1) k
def fl (lv : Nat) : List Node → List (Node × Nat)
  | [] => []
  | n :: r => flN lv n ++ fl lv r
end
theorem fl_nil (lv : Nat) : fl lv [] = [] := by simp [fl]
theorem flN_eq (lv : Nat) (n : Node) : flN lv n = (n, lv) :: fl (lv + 1) n.kids := by cases n <;> simp [flN, fl, Node.kids]
theorem fl_cons (lv : Nat) (n : Node) (r : List Node) : fl lv (n :: r) = (n, lv) :: fl (lv + 1) n.kids ++ fl lv r := by rw [← flN_eq]; simp [fl]
theorem fl_append (lv : Nat) (l r : List Node) : fl lv (l ++ r) = fl lv l ++ fl lv r := by
  induction l with
  | nil => simp [fl]
  | cons n l ih => simp [fl, ih]
theorem fl_one (lv : Nat) (n : Node) : fl lv [n] = (n, lv) :: fl (lv + 1) n.kids := by rw [fl_cons, fl_nil, List.append_nil]
theorem fl_ids : ∀ (d : List Node) (lv : Nat), (fl lv d).map (fun x => x.1.id) = ids d := by
  intro d
  induction d using forest with
  | nil => intro lv; rw [fl_nil, ids_nil]; rfl
  | cons n r h1 h2 =>
    intro lv
    rw [fl_cons, ids_cons, idsN_eq, List.map_append, List.map_cons, h1, h2]
theorem fl_lv : ∀ (d : List Node) (lv n : Nat), Lv n d → ∀ x ∈ fl lv d, x.2 < lv + n := by
  intro d
  induction d using forest with
  | nil => intro lv n _ x hx; rw [fl_nil] at hx; cases hx
  | cons n r h1 h2 =>
    intro lv m h x hx
    obtain ⟨k, rfl, hk⟩ := h.mem (x := n) (by simp)
    rw [fl_cons] at hx
    rcases List.mem_append.mp hx with hx | hx
    · rcases List.mem_cons.mp hx with e | hx
      · rw [e]; simp only; omega
      · have := h1 (lv + 1) k hk x hx
        omega
    · exact h2 lv (k + 1) (h.sub fun y hy => by simp [hy]) x hx
theorem fl_at {Pa : Attrs → Prop} : ∀ (d : List Node) (lv : Nat), At Pa d → ∀ x ∈ fl lv d, AtN Pa x.1 := by
  intro d
  induction d using forest with
  | nil => intro lv _ x hx; rw [fl_nil] at hx; cases hx
  | cons n r h1 h2 =>
    intro lv h x hx
    obtain ⟨ha, hr⟩ := at_cons.mp h
    rw [fl_cons] at hx
    rcases List.mem_append.mp hx with hx | hx
    · rcases List.mem_cons.mp hx with e | hx
      · rw [e]; exact ha
      · exact h1 _ (atN_kids ha) x hx
    · exact h2 _ hr x hx
theorem fl_len (d : List Node) (lv : Nat) : (fl lv d).length = (ids d).length := by rw [← fl_ids d lv, List.length_map]
def P_flat (N : Nat) : Sp := fun vs H Q _ => ∃ (v : V) (p : Int) (lv : Nat) (d : List Node), vs = [v, .int p, .int (lv : Int)] ∧ Tp H v (eD d) ∧ Lv N d ∧ (ids d).length ≤ 10000 ∧ ∀ l ws H', Same H H' → H l = none → H' l = some (.lst ws) → RwAll H' ws (fl lv d) → Q (.ref l) H'
def P_flatL : Nat → Sp
  | 0 => fun _ _ _ _ => False
  | n + 1 => P_flat n
theorem c__law_flat (T : Txt K mg) : ∀ N : Nat, Cl P w K mg base (N + 2) "_law_flat" ["_law_document_here", "_law_parent", "_law_level"] (P_flat N) := by
  intro N
  induction N with
  | zero => exact go 0 (cl_no2 T.d__law_flat)
  | succ N ih => exact go (N + 1) ih
where
  go (N : Nat) (C__law_flat : Cl P w K mg base (N + 1) "_law_flat" ["_law_document_here", "_law_parent", "_law_level"] (P_flatL N)) : Cl P w K mg base (N + 2) "_law_flat" ["_law_document_here", "_law_parent", "_law_level"] (P_flat N) := by
    have C__law_below := c__law_below (P := P) (w := w) (base := base) T
    refine cl_of T.d__law_flat sc__law_flat (fun vs H Q E ⟨v, p, lv, d, e, _⟩ => by rw [e]; rfl) fun f cdv A outer s H vs Q Ew hr ⟨v, p, lv, d, e, hd, hlv, hz, q⟩ => ?_
    subst e
    refine ⟨_, (pss_cons (ps_set (i := 3) sc__law_flat.nd rfl (Or.inl rfl) (pe_lst pa_nil))
      (pss_cons (ps_for PassesOwn.never rfl (pi_tup (pv 0)) (pg_name (i := 4) sc__law_flat.nd rfl (Or.inl rfl)) (pss_cons (ps_expr (pe_bm PySem.F.plainAttrs_list PySem.F.slot_list_append PySem.F.type_list_append mt_append (pv 3) (pa_cons (pe_lst (pa_cons (pv 4) (pa_cons (pv 1) (pa_cons (pv 2) pa_nil)))) pa_nil)))
      (pss_one (ps_set (i := 3) sc__law_flat.nd rfl (Or.inl rfl) (pe_op op_cat (pv 3) (pe_cl C__law_flat (hr.mono (by omega)) rfl (pa_cons (pe_cl C__law_below (hr.mono (by omega)) rfl (pa_cons (pv 4) pa_nil)) (pa_cons (pe_ix ix_tup (pv 4) pe_int (fun _ _ => rfl)) (pa_cons (pe_op op_add (pv 2) pe_int) pa_nil)))))))))
      (pss_one (ps_ret (pv 3))))), ?_⟩
    refine q_asg (e_lst (ds := []) ea_nil) fun v1 H1 e1 hv1 => ?_
    obtain ⟨l, rfl, hl0, ws, hl, hls⟩ := hv1
    cases hls
    refine q_forV (H0 := H) (xs := d) rfl hd (fun done todo σ' H' => ∃ l ws v4, σ' = [some v, some (.int p), some (.int (lv : Int)), some (.ref l), v4] ∧ Same H H' ∧ H l = none ∧ H' l = some (.lst ws) ∧ RwAll H' ws (fl lv done)) ⟨l, _, _, rfl, e1, hl0, hl, by rw [fl_nil]; exact .nil⟩ (fun _ _ _ _ ⟨_, _, _, _, h, _⟩ => tx_of h) ?_ ?_
    · rintro done x todo u σ' H' ed ⟨l, ws, v4, rfl, e, hl0, hl, hw⟩ hu
      obtain ⟨M, rfl, hx⟩ := hlv.mem (x := x) (by rw [ed]; simp)
      have hzz := hz
      rw [ed, ids_append, ids_cons, idsN_eq] at hzz
      simp only [List.length_append, List.length_cons] at hzz
      have hwl := hw.length
      rw [fl_len] at hwl
      have hun := hu
      obtain ⟨y, hy, hy1, _⟩ := eN_get x
      rw [hy] at hun
      refine m_appq rfl hl (m_lst (m_cons (m_var rfl (m_cons (m_var rfl (m_cons (m_var rfl (m_nil ⟨sz_c rfl, fun a ha => ?_⟩))))))))
      have ea : Same H' (upd H' a (.lst [u, .int p, .int (lv : Int)])) := same_new ha
      refine ⟨l, ws, .ref a, rfl, rfl, ea _ _ hl, by rw [hwl]; exact sz_lt (by omega), ?_⟩
      have hra : (upd H' a (.lst [u, .int p, .int (lv : Int)])) a = some (.lst [u, .int p, .int (lv : Int)]) := upd_same
      have hla : l ≠ a := fun z => by rw [z, ha] at hl; cases hl
      have hw1 : RwAll (upd H' a (.lst [u, .int p, .int (lv : Int)])) (ws ++ [.ref a]) (fl lv done ++ [(x, lv)]) := (hw.mono ea).append (.cons ⟨a, u, p, rfl, hra, hu.mono (tx_of ea)⟩ .nil)
      have hl1 := ea _ _ hl
      have hu1 := hu.mono (tx_of ea)
      have eH1 := e.trans ea
      generalize upd H' a (.lst [u, .int p, .int (lv : Int)]) = H1 at hw1 hl1 eH1 hu1 ⊢
      have hw2 := hw1.upd hl1 hw.refs (ws' := ws ++ [.ref a])
      have e2 : Same H (upd H1 l (.lst (ws ++ [.ref a]))) := fun b o h => by
        rw [upd_ne (ne_of_none h hl0)]
        exact eH1 _ _ h
      have hl2 : (upd H1 l (.lst (ws ++ [.ref a]))) l = some (.lst (ws ++ [.ref a])) := upd_same
      have hu2 : Tp (upd H1 l (.lst (ws ++ [.ref a]))) u (eN x) := hu1.mono (tx_lst hl1)
      generalize upd H1 l (.lst (ws ++ [.ref a])) = H2 at hw2 e2 hl2 hu2 ⊢
      refine m_asg1 (m_op (m_var rfl (m_cl (m_cons (m_e (e_call (r := .d (eD x.kids)) (ea_cons (E.o (e_var rfl hu2)) ea_nil) ⟨x, rfl, rfl⟩) fun v5 H5 e5 hv5 => m_cons (m_e (e_ixT 1 (e_var rfl (Tp.mono (tx_of e5) (hy ▸ hu2))) e_int hy1) fun v6 H6 e6 hv6 => m_cons (m_e (e_opI (e_var rfl (Tp.int (lv : Int))) e_int) fun v7 H7 e7 hv7 => m_nil ?_)))))))
      obtain rfl := Tp.int_inv hv6
      obtain rfl := Tp.int_inv hv7
      have e27 := (e5.trans e6).trans e7
      refine ⟨v5, x.id, lv + 1, x.kids, rfl, hv5.mono (tx_of (e6.trans e7)), hx, by omega, fun l' ws' H8 e8 hl8 hl8' hw8 => ?_⟩
      have e28 := e27.trans e8
      refine ⟨l, l', ws ++ [.ref a], ws', rfl, rfl, e28 _ _ hl2, hl8', ?_, fun p' hp' => ?_⟩
      · have h1 := hw8.length
        rw [fl_len] at h1
        rw [List.length_append, h1, hwl]
        exact sz_of (by simp only [List.length_cons, List.length_nil]; omega)
      · have e9 : Same H8 (upd H8 p' (.lst ((ws ++ [.ref a]) ++ ws'))) := same_new hp'
        refine ⟨p', _, _, rfl, (e2.trans e28).trans e9, (e2.trans e28).free hp', upd_same, ?_⟩
        rw [fl_append, fl_one]
        have := ((hw2.mono e28).append hw8).mono e9
        simpa using this
    · rintro σ' H' ⟨l, ws, v4, rfl, e, hl0, hl, hw⟩
      exact s_retO rfl (q l ws H' e hl0 hl hw)
end
end VL

namespace VL
open PySem L2
section
variable {P : Program} {w : World} {K : PySem.W.Frag} {mg : Str → Option Value} {base : Heap}
variable {σ : L2.St} {H H' : Hp} {ta tb te : TE} {tt tu : TT} {tA : TA} {r r' : Rs} {b b' : Bool} {D : Ends} {t u tz : TS} {g : TG}
theorem e_rw0 {i : Nat} {v : V} {x : Node × Nat} (hv : σ[i]? = some (some v)) (h : Rw H v x) : E (tOp (rIxL K) (tVar i) (tC (.int 0))) σ H (.d (eN x.1)) := fun H1 e Q q => by
  obtain ⟨a, u, p, rfl, h2, h3⟩ := h
  exact ⟨_, hv, a, _, 0, u, rfl, rfl, SqL.of (e _ _ h2), rfl, q u H1 (Same.refl H1) (h3.mono (tx_of e))⟩
theorem e_rw2 {i : Nat} {v : V} {x : Node × Nat} (hv : σ[i]? = some (some v)) (h : Rw H v x) : E (tOp (rIxL K) (tVar i) (tC (.int 2))) σ H (.d (.int (x.2 : Int))) := fun H1 e Q q => by
  obtain ⟨a, u, p, rfl, h2, h3⟩ := h
  exact ⟨_, hv, a, _, 2, .int (x.2 : Int), rfl, rfl, SqL.of (e _ _ h2), rfl, q _ H1 (Same.refl H1) (Tp.int _)⟩
/-- for row in rows -/
theorem q_forRw {rows : List (Node × Nat)} {i j : Nat} {p : Addr} {ws : List V} (hv : σ[i]? = some (some (.ref p))) (hp : H p = some (.lst ws)) (hr : RwAll H ws rows) (Pv : L2.St → Hp → Prop) (p0 : Pv σ H) (keep : ∀ σ' H', Pv σ' H' → Same H H')
    (ps : ∀ x u σ' H', x ∈ rows → Pv σ' H' → Rw H' u x → t { D with nx := Pv, ct := Pv, bk := tz D } (σ'.set j (some u)) H') (pd : ∀ σ' H', Pv σ' H' → tz D σ' H') : tSeq (tFor (iList K (tVar i)) (gName j) t) tz D σ H := by
  refine ⟨_, hv, p, rfl, ⟨ws, SqL.of hp⟩, for_list (xs := ws) (fun _ => Pv) p0 (fun i σ' H' _ q => SqL.of (keep _ _ q _ _ hp)) (fun i x σ' H' hx q => ?_) fun σ' H' q => pd σ' H' q⟩
  obtain ⟨d, hd, td⟩ := hr.getV hx
  exact ps d x σ' H' (List.mem_of_getElem? hd) q (td.mono (keep _ _ q))
/-- [.. for row in rows], ints -/
theorem e_lcRw {rows : List (Node × Nat)} {i : Nat} {p : Addr} {ws : List V} {vs : List Nat} (f : Node × Nat → Int) (hv : σ[i]? = some (some (.ref p))) (hp : H p = some (.lst ws)) (hr : RwAll H ws rows) (hl : rows.length < 100000)
    (hs : ∀ x ∈ rows, ∀ v H1, Same H H1 → Rw H1 v x → ∀ Q : L2.St → Hp → Prop, (∀ σ2 H2, Same H1 H2 → wipe σ2 vs = wipe σ vs → E tb σ2 H2 (.d (.int (f x))) → Q σ2 H2) → g v (wipe σ vs) H1 Q) :
    E (tLc (iList K (tVar i)) g tYes tb vs) σ H (.l (eI (rows.map f))) := fun H1 e1 Q q => by
  have hp1 := e1 _ _ hp
  have hr1 := hr.mono e1
  have hlen := hr.length
  refine ⟨_, hv, p, rfl, ⟨ws, SqL.of hp1⟩, fun Dl hD => ?_⟩
  have eD : Same H1 (upd H1 Dl (.lst [])) := same_new hD
  refine lc_list (xs := ws) (fun i H' => Same H1 H' ∧ Ls H' Dl (eI ((rows.take i).map f))) ⟨eD, [], upd_same, .nil⟩ (fun i H' _ q => SqL.of (q.1 _ _ hp1)) (fun i x H' hx q => ?_) fun H' q2 => ?_
  · obtain ⟨q1, q2⟩ := q
    obtain ⟨y, hy, td⟩ := hr1.getV hx
    have hy' : y ∈ rows := List.mem_of_getElem? hy
    have e2 : (rows.take (i + 1)).map f = (rows.take i).map f ++ [f y] := by
      rw [List.take_add_one, hy, List.map_append]
      rfl
    have hlt : (eI ((rows.take i).map f)).length < 100000 := by
      rw [List.length_map, List.length_map, List.length_take]
      omega
    refine hs y hy' x H' (e1.trans q1) (td.mono q1) _ fun σ2 H2 s2 hw hE => ⟨hw, ?_⟩
    show tb σ2 H2 _
    refine hE H2 (Same.refl H2) _ fun w H4 s4 hw' => ?_
    obtain ⟨acc, a1, a2⟩ := q2.mono (s2.trans s4)
    refine ⟨acc, a1, by rw [a2.length]; exact sz_lt hlt, (But.upd).same hD ((q1.trans s2).trans s4), acc ++ [w], upd_same, ?_⟩
    rw [e2]
    have h3 : TpAll H4 (acc ++ [w]) (eI ((rows.take i).map f ++ [f y])) := by
      rw [show eI ((rows.take i).map f ++ [f y]) = eI ((rows.take i).map f) ++ [.int (f y)] by simp]
      exact a2.append (.one hw')
    exact h3.mono (tx_lst a1)
  · obtain ⟨q1, q2⟩ := q2
    rw [hlen, List.take_length] at q2
    exact q _ H' q1 ⟨Dl, rfl, hD, q2⟩
/-- for k in range(m), any m -/
theorem q_rngI {j : Nat} {m : Int} {v : V} (hv : Tp H v (.int m)) (hn : m < 1000000) (hn' : -1000 < m) (Pv : L2.St → Hp → Prop) (p0 : Pv σ H) (ps : ∀ (i : Nat) σ' H', (i : Int) < m → Pv σ' H' → t { D with nx := Pv, ct := Pv, bk := D.nx } (σ'.set j (some (.int (i : Int)))) H') (pd : ∀ σ' H', Pv σ' H' → D.nx σ' H') :
    tFor (iRng1 fun _ H2 Q => Q [v] H2) (gName j) t D σ H := by
  obtain rfl := Tp.int_inv hv
  refine ⟨m, rfl, by omega, by omega, ?_⟩
  refine for_range (lo := 0) (n := m.toNat) (fun _ => Pv) p0 (fun i σ' H' hi p => ?_) pd
  have e0 : (0 : Int) + (i : Int) = (i : Int) := Int.zero_add _
  show t { D with nx := Pv, ct := Pv, bk := D.nx } (σ'.set j (some (.int ((0 : Int) + (i : Int))))) H'
  rw [e0]
  exact ps i σ' H' (by omega) p
theorem m_rng1 {j : Nat} (h : tA σ H fun vs H1 => tFor (iRng1 fun _ H2 Q => Q vs H2) (gName j) t D σ H1) : tFor (iRng1 tA) (gName j) t D σ H := h
/-- _law_good -/
def S_good : List Rs → Rs → Prop := fun as r => ∃ (d : List Node) (N A : Nat), as = [.d (eD d)] ∧ Doc 40 N A d ∧ N ≤ 10000 ∧ A ≤ 10000 ∧ r = .b true
theorem c__law_good (T : Txt K mg) : Cl P w K mg base 43 "_law_good" ["_law_document_here"] (FS S_good) := by
  have C__law_flat := c__law_flat (P := P) (w := w) (base := base) T 40
  refine cl_fs T.d__law_good sc__law_good (fun as r ⟨n, _, _, e, _⟩ => by rw [e]; rfl) fun f cdv A outer s H vs as r Q Ew hr ha ⟨d, N, Am, e1, hd, hN, hA, e2⟩ q => ?_
  subst e1 e2
  obtain - | ⟨hdv, - | -⟩ := ha
  refine ⟨_, (pss_cons (ps_set (i := 1) sc__law_good.nd rfl (Or.inl rfl) (pe_cl C__law_flat (hr.mono (by omega)) rfl (pa_cons (pv 0) (pa_cons pe_int (pa_cons pe_int pa_nil)))))
      (pss_cons (ps_set (i := 3) sc__law_good.nd rfl (Or.inl rfl) (pe_callB cr_sortedI rfl T.n_sorted bt_sorted (pa_cons (pe_lc (own := [("_law_row", 2)]) (g := (gName 2)) (tt := tYes) (te := (tOp (rIxT K) (tOp (rIxL K) (tVar 2) (tC _)) (tC _))) rfl sc__law_good.nd (pi_list (pv 1)) (blkOk_by (own := [("_law_row", 2)]) (N := ["_law_document_here", "_law_rows", "_law_row", "_law_ids_here", "_law_k", "_law_names", "_law_pair_here"]) (sc := defScope s__law_good) (by decide +kernel)) (fun _ _ _ _ _ => (pg_name (i := 2) sc__law_good.nd rfl (Or.inl rfl))) (fun _ _ _ _ _ => pts_nil) (fun _ _ _ _ _ => (pe_ix ix_tup (pe_ix ix_list (pv 2) pe_int (fun _ _ => rfl)) pe_int (fun _ _ => rfl)))) pa_nil)))
      (pss_cons (ps_for PassesOwn.never rfl (pi_range1 rfl T.n_range (pa_cons (pe_callB call_ln rfl T.n_len bt_len (pa_cons (pv 3) pa_nil)) pa_nil)) (pg_name (i := 4) sc__law_good.nd rfl (Or.inl rfl)) (pss_one (ps_if (PW.pt (pw_or (pt_cmpR op_lt (pe_ix ix_list (pv 3) (pv 4) (fun _ _ => rfl)) pe_int (nomark _)) (pw_or1 (PW.pt (pw_and (pt_cmpR op_gt (pv 4) pe_int (nomark _)) (pw_and1 (pt_cmpR op_eq (pe_ix ix_list (pv 3) (pv 4) (fun _ _ => rfl)) (pe_ix ix_list (pv 3) (pe_op op_sub (pv 4) pe_int) (fun _ _ => rfl)) (nomark _)))))))) (pss_one (ps_ret pe_bl)) pss_nil)))
      (pss_cons (ps_for PassesOwn.never rfl (pi_list (pv 1)) (pg_name (i := 2) sc__law_good.nd rfl (Or.inl rfl)) (pss_cons (ps_if (pt_cmpR op_gt (pe_ix ix_list (pv 2) pe_int (fun _ _ => rfl)) pe_int (nomark _)) (pss_one (ps_ret pe_bl)) pss_nil)
      (pss_one (ps_if (pt_cmpR op_eq (pe_ix ix_tup (pe_ix ix_list (pv 2) pe_int (fun _ _ => rfl)) pe_int (fun _ _ => rfl)) pe_str (nomark _)) (pss_cons (ps_setLc (i := 5) (own := [("_law_pair_here", 6)]) (g := (gName 6)) (tt := tYes) (te := (tOp (rIxT K) (tVar 6) (tC _))) rfl sc__law_good.nd rfl rfl (sw_true rfl rfl rfl (by decide +kernel)) (pi_tup (pe_ix ix_tup (pe_ix ix_list (pv 2) pe_int (fun _ _ => rfl)) pe_int (fun _ _ => rfl))) (blkOk_by (own := [("_law_pair_here", 6)]) (N := ["_law_document_here", "_law_rows", "_law_row", "_law_ids_here", "_law_k", "_law_names", "_law_pair_here"]) (sc := defScope s__law_good) (by decide +kernel)) (fun _ _ _ _ _ => (pg_name (i := 6) sc__law_good.nd rfl (Or.inl rfl))) (fun _ _ _ _ _ => pts_nil) (fun _ _ _ _ _ => (pe_ix ix_tup (pv 6) pe_int (fun _ _ => rfl))))
      (pss_one (ps_for PassesOwn.never rfl (pi_range1 rfl T.n_range (pa_cons (pe_op op_sub (pe_callB call_ln rfl T.n_len bt_len (pa_cons (pv 5) pa_nil)) pe_int) pa_nil)) (pg_name (i := 4) sc__law_good.nd rfl (Or.inl rfl)) (pss_one (ps_if (pt_cmpR op_geS (pe_ix ix_list (pv 5) (pv 4) (fun _ _ => rfl)) (pe_ix ix_list (pv 5) (pe_op op_add (pv 4) pe_int) (fun _ _ => rfl)) (nomark _)) (pss_one (ps_ret pe_bl)) pss_nil))))) pss_nil))))
      (pss_one (ps_ret pe_bl)))))), ?_⟩
  have hlen := hd.len
  refine m_asg (m_cl (m_cons (m_var rfl (m_cons (m_c (m_cons (m_c (m_nil ?_))))))))
  refine ⟨_, 0, 1, d, rfl, hdv, hd.lv, by omega, fun l ws H1 e1 hl0 hl hw => ?_⟩
  have hfl := fl_len d 1
  refine m_asg (m_cb (m_cons (m_e (e_lcRw (rows := fl 1 d) (fun x => x.1.id) rfl hl hw (by omega) fun x hx v H2 e2 hv Q' k => ?_) fun v H2 e2 hv => m_nil ?_)))
  · refine k _ H2 (Same.refl H2) rfl ?_
    obtain ⟨y, hy, hy1, _⟩ := eN_get x.1
    exact e_ixT 1 (hy ▸ e_rw0 rfl hv) e_int hy1
  rw [fl_ids] at hv
  obtain ⟨p2, rfl, hp20, hp2⟩ := hv
  refine ⟨p2, ids d, rfl, SqL.of (ints_ls hp2), fun ns p3 hpm hpw hp3 => ?_⟩
  have e3 : Same H2 (upd H2 p3 (.lst (ns.map V.int))) := same_new hp3
  have hl3 : Ls (upd H2 p3 (.lst (ns.map V.int))) p3 (eI ns) := ls_ints upd_same
  generalize upd H2 p3 (.lst (ns.map V.int)) = H3 at e3 hl3 ⊢
  have e13 := e2.trans e3
  have hnl : ns.length = (ids d).length := hpm.length_eq
  have hnn : ns.Nodup := hpm.nodup_iff.mpr hd.nd
  have hn1 : ∀ i ∈ ns, 1 ≤ i := fun i hi => hd.one i (hpm.mem_iff.mp hi)
  refine q_rng1 (n := ns.length) (ea_cons (E.o (E.is (e_lenL (eo_lst rfl hl3)) (by rw [List.length_map]))) ea_nil) (by omega) fun H4 e4 => ?_
  refine ⟨fun i σ' H' => ∃ v2 v4 v5 v6, σ' = [some _, some (.ref l), v2, some (.ref p3), v4, v5, v6] ∧ Same H3 H', ⟨_, _, _, _, rfl, e4⟩, ?_, ?_⟩
  · rintro k σ' H' hk ⟨v2, v4, v5, v6, rfl, e⟩
    have hl' := hl3.mono e
    have hget : ∀ j : Nat, j < ns.length → (eI ns)[j]? = some (.int (ns.getD j 0)) := fun j hj => by
      rw [List.getElem?_map, List.getD_eq_getElem?_getD, List.getElem?_eq_getElem hj]
      rfl
    have h1 : (1 : Int) ≤ ns.getD k 0 := by
      rw [List.getD_eq_getElem?_getD, List.getElem?_eq_getElem hk]
      exact hn1 _ (List.getElem_mem hk)
    have hc : ∀ s0 : Option V, ET (tOr (tTest (tOp (rI0 fun i j => .bl (decide (i < j))) (tOp (rIxL K) (tVar 3) (tVar 4)) (tC (.int 1)))) (tAnd (tTest (tOp (rI0 fun i j => .bl (decide (j < i))) (tVar 4) (tC (.int 0)))) (tTest (tOp rEq (tOp (rIxL K) (tVar 3) (tVar 4)) (tOp (rIxL K) (tVar 3) (tOp (rI0 fun i j => .int (i - j)) (tVar 4) (tC (.int 1)))))))) [s0, some (.ref l), v2, some (.ref p3), some (.int (k : Int)), v5, v6] H' false := by
      intro s0
      have i1 : E (tOp (rIxL K) (tVar 3) (tVar 4)) [s0, some (.ref l), v2, some (.ref p3), some (.int (k : Int)), v5, v6] H' (.d (.int (ns.getD k 0))) := e_ixL k (eo_lst rfl hl') (e_var rfl (Tp.int (k : Int))) (hget k hk)
      by_cases hk0 : k = 0
      · subst hk0
        exact ET.is (et_or (b' := false) (et_cmpI i1 e_int) fun _ => ET.is (et_and (b' := false) (et_cmpI (e_var rfl (Tp.int ((0 : Nat) : Int))) e_int) fun z => absurd z (by decide)) (by decide)) (by rw [decide_eq_false (by omega)]; rfl)
      · have ek : (k : Int) - 1 = ((k - 1 : Nat) : Int) := by omega
        have i2 : E (tOp (rIxL K) (tVar 3) (tOp (rI0 fun i j => .int (i - j)) (tVar 4) (tC (.int 1)))) [s0, some (.ref l), v2, some (.ref p3), some (.int (k : Int)), v5, v6] H' (.d (.int (ns.getD (k - 1) 0))) := e_ixL (k - 1) (eo_lst rfl hl') (E.is (e_opI (e_var rfl (Tp.int (k : Int))) e_int) (by rw [ek])) (hget (k - 1) (by omega))
        refine ET.is (et_or (b' := false) (et_cmpI i1 e_int) fun _ => ET.is (et_and (et_cmpI (e_var rfl (Tp.int (k : Int))) e_int) fun _ => et_eqI i1 i2) ?_) (by rw [decide_eq_false (by omega)]; rfl)
        have hne : ns.getD k 0 ≠ ns.getD (k - 1) 0 := by
          rw [List.getD_eq_getElem?_getD, List.getD_eq_getElem?_getD, List.getElem?_eq_getElem hk, List.getElem?_eq_getElem (show k - 1 < ns.length by omega)]
          simp only [Option.getD_some]
          intro z
          have := (List.getElem_inj hnn).mp z
          omega
        rw [decide_eq_false hne, Bool.and_false]
    refine s_if (hc _) (fun z => absurd z (by decide)) fun _ H5 e5 => ?_
    exact ⟨_, _, _, _, rfl, e.trans e5⟩
  rintro σ' H5 ⟨v2, v4, v5, v6, rfl, e5⟩
  have e15 := e13.trans e5
  refine q_forRw (rows := fl 1 d) rfl (e15 _ _ hl) (hw.mono e15) (fun σ' H' => ∃ v2 v4 v5 v6, σ' = [some _, some (.ref l), v2, some (.ref p3), v4, v5, v6] ∧ Same H5 H') ⟨_, _, _, _, rfl, Same.refl _⟩ (fun _ _ ⟨_, _, _, _, _, h⟩ => h) ?_ ?_
  · rintro x u σ' H' hx ⟨v2, v4, v5, v6, rfl, e⟩ hu
    have hx2 := fl_lv d 1 40 hd.lv x hx
    have hxa := fl_at d 1 hd.att x hx
    refine q_when (et_cmpI (e_rw2 rfl hu) e_int) (fun z => absurd (of_decide_eq_true z) (by omega)) fun _ H6 e6 => ?_
    have hu6 := hu.mono e6
    obtain ⟨y, hy, hy1, hy0⟩ := eN_get x.1
    refine s_if (et_eqS (e_ixT 0 (hy ▸ e_rw0 rfl hu6) e_int hy0) e_str) (fun z H7 e7 => ?_) fun _ H7 e7 => ⟨_, _, _, _, rfl, (e.trans e6).trans e7⟩
    have e67 := (e.trans e6).trans e7
    obtain ⟨i, tg, a, k, hxe⟩ : ∃ i tg a k, x.1 = .elem i tg a k := by
      cases hxx : x.1 with
      | text i s => rw [hxx] at z; exact absurd (of_decide_eq_true z) wd_ne
      | elem i tg a k => exact ⟨i, tg, a, k, rfl⟩
    rw [hxe] at hxa
    simp only [AtN] at hxa
    obtain ⟨⟨has, hal⟩, _⟩ := hxa
    have hu7 := hu6.mono e7
    refine q_asg (e_lcT (enc := eP) (xs := a) (fun p => some (.str p.1)) (e_ixT 3 (eN_elem i tg a k ▸ hxe ▸ e_rw0 rfl hu7) e_int rfl) (by omega) (fun p _ u H8 e8 hu8 Q' k' => k' _ H8 (Same.refl H8) rfl ⟨true, et_yes, .str p.1, rfl, e_ixT 0 (e_var rfl hu8) e_int rfl⟩)) fun v8 H8 e8 hv8 => ?_
    have hv8' := hv8
    rw [filterMap_some] at hv8
    obtain ⟨p8, rfl, _, hl8⟩ := hv8
    refine m_rng1 (m_cons (m_e (e_opI (e_lenL (eo_lst rfl hl8)) e_int) fun v9 H9 e9 hv9 => m_nil ?_))
    rw [List.length_map] at hv9
    refine q_rngI hv9 (by omega) (by omega) (fun σ' H' => ∃ v4, σ' = [some _, some (.ref l), some u, some (.ref p3), v4, some (.ref p8), v6] ∧ Same H8 H') ⟨_, rfl, e9⟩ ?_ ?_
    · rintro j σ' H' hj ⟨v4, rfl, e'⟩
      have hl' := hl8.mono e'
      have hj1 : j + 1 < a.length := by omega
      have hget : ∀ j (hj : j < a.length), (a.map fun p => PyData.str p.1)[j]? = some (.str a[j].1) := fun j hj => by
        rw [List.getElem?_map, List.getElem?_eq_getElem hj]
        rfl
      have hlt := List.pairwise_iff_getElem.mp has j (j + 1) (by omega) hj1 (by omega)
      refine s_if (et_geS (e_ixL j (eo_lst rfl hl') (e_var rfl (Tp.int (j : Int))) (hget j (by omega))) (e_ixL (j + 1) (eo_lst rfl hl') (E.is (e_opI (e_var rfl (Tp.int (j : Int))) e_int) rfl) (hget (j + 1) hj1))) (fun z => ?_) fun _ H10 e10 => ⟨_, rfl, e'.trans e10⟩
      rw [decide_eq_true hlt] at z
      cases z
    · rintro σ' H' ⟨v4, rfl, e'⟩
      exact ⟨_, _, _, _, rfl, (e67.trans e8).trans e'⟩
  · rintro σ' H' ⟨v2, v4, v5, v6, rfl, e⟩
    exact s_ret e_bl fun v H7 e7 hv => q v H7 (((e1.trans e15).trans e).trans e7) hv
end
end VL

namespace VL
open PySem L2
section
variable {P : Program} {w : World} {K : PySem.W.Frag} {mg : Str → Option Value} {base : Heap}
variable {σ : L2.St} {H H' : Hp} {ta tb te : TE} {tt tu : TT} {tA : TA} {r r' : Rs} {b b' : Bool} {D : Ends} {t u tz : TS} {g : TG}
def lessM (S : Nat → List Rs → (Hp → V → Hp → Prop) → Prop) : Nat → List Rs → (Hp → V → Hp → Prop) → Prop
  | 0 => fun _ _ => False
  | n + 1 => S n
theorem cl_noM {x : Str} {st : Stmt} {ps : List Str} {k : Nat} (D : Dn K mg x st ps) : Cl P w K mg base k x ps (FM fun _ _ => False) := (cl_no2 D).imp fun vs H Q E ⟨_, _, _, _, _, _, _, z, _⟩ => z
/-- if digit(state, m) == 0: x = e -/
theorem q_whenSet {i j : Nat} {st : Addr} {m : Int} {X : XK} {x : Int} {old : V} (hv : σ[i]? = some (some (.ref st))) (hs : SS st H) (h0 : 0 < m) (h1 : m < 1073741824) (ho : σ[j]? = some (some old)) (he : ∀ H1, Ch [st] H H1 → E te σ H1 (.d (.int x))) (k : ∀ (y : V) H2, (y = old ∨ y = .int x) → Ch [st] H H2 → SS st H2 → tz D (σ.set j (some y)) H2) :
    tSeq (tIfS (tTest (tOp rEq (tCall (FM S_digit) [] X (tCons (tVar i) (tCons (tC (.int m)) tNil))) (tC (.int 0)))) (tAsg te (gName j)) tNext) tz D σ H :=
  m_when (mt_dig hv hs h0 h1 fun H2 b c s2 => by
    cases b with
    | true =>
      refine he H2 c H2 (Same.refl H2) _ fun v H3 e3 hv => ?_
      obtain rfl := Tp.int_inv hv
      exact k _ H3 (.inr rfl) (c.same e3) (s2.same e3)
    | false =>
      have e : σ.set j (some old) = σ := by
        obtain ⟨hj, he⟩ := List.getElem?_eq_some_iff.mp ho
        rw [← he, List.set_getElem_self]
      have := k old H2 (.inl rfl) c s2
      rw [e] at this
      exact this)
/-- xs = xs[:k] + [y] + xs[k:] -/
theorem s_ins {i j m : Nat} {l : Addr} {ns : List Node} {k : Nat} {u : V} {y : Node} (h6 : σ[i]? = some (some (.ref l))) (h7 : σ[j]? = some (some (.int (k : Int)))) (h8 : σ[m]? = some (some u)) (hl : Ls H l (ns.map eN)) (hu : Tp H u (eN y)) (hn : ns.length < 50000)
    (q : ∀ l' H', Same H H' → H l' = none → Ls H' l' ((ns.take k ++ ([y] ++ ns.drop k)).map eN) → D.nx (σ.set i (some (.ref l'))) H') :
    tAsg (tOp rCat (tOp rCat (tSl (rSlL K) (tVar i) tNoPart (tPart (tVar j))) (tLst (tCons (tVar m) tNil))) (tSl (rSlL K) (tVar i) (tPart (tVar j)) tNoPart)) (gName i) D σ H := by
  refine s_asg (r := .l ((ns.take k ++ ([y] ++ ns.drop k)).map eN)) (E.is (e_cat (E.o (e_cat (E.o (e_slL (eo_lst h6 hl) eo_no (eo_part (e_var h7 (Tp.int (k : Int)))))) (E.o (e_lst (ds := [eN y]) (ea_cons (E.o (e_var h8 hu)) ea_nil))) ?_)) (E.o (e_slL (eo_lst h6 hl) (eo_part (e_var h7 (Tp.int (k : Int)))) eo_no)) ?_) ?_) fun v H1 e1 hv => ?_
  · rw [cutD_to]
    simp only [List.length_take, List.length_map, List.length_cons, List.length_nil]
    omega
  · rw [cutD_to, cutD_from]
    simp only [List.length_append, List.length_take, List.length_drop, List.length_map, List.length_cons, List.length_nil]
    omega
  · rw [cutD_to, cutD_from]
    simp [List.map_take, List.map_drop]
  · obtain ⟨l', rfl, h1, h2⟩ := hv
    exact q l' H1 e1 h1 h2
theorem ids_put (ns : List Node) (k : Nat) (y : Node) : (ids (ns.take k ++ ([y] ++ ns.drop k))).Perm (ids ns ++ idsN y) := by
  have := ids_perm (put_perm ns k y)
  rw [ids_append ns, ids_one] at this
  exact this
theorem gd_put {n : Nat} {ns : List Node} {y : Node} (k : Nat) (h : GD (n + 1) ns) (hy : GD (n + 1) [y]) : GD (n + 1) (ns.take k ++ ([y] ++ ns.drop k)) := by
  refine gd_all.mpr fun x hx => ?_
  have := (put_perm ns k y).mem_iff.mp hx
  rcases List.mem_append.mp this with h1 | h1
  · exact gd_all.mp h x h1
  · rw [List.mem_singleton.mp h1]; exact hy
theorem ids_drop {ks d : List Node} (h : ks.Sublist d) : ∃ rest, (ids ks ++ rest).Perm (ids d) := by
  induction h with
  | slnil => exact ⟨[], List.Perm.refl _⟩
  | cons x h ih =>
    obtain ⟨rest, hr⟩ := ih
    refine ⟨rest ++ idsN x, ?_⟩
    rw [ids_cons, ← List.append_assoc]
    exact List.perm_append_comm.trans (hr.append_left _)
  | cons_cons x h ih =>
    obtain ⟨rest, hr⟩ := ih
    refine ⟨rest, ?_⟩
    rw [ids_cons, ids_cons, List.append_assoc]
    exact hr.append_left _
/-- _law_turned -/
def S_turned (N : Nat) : List Rs → (Hp → V → Hp → Prop) → Prop := fun as Po => ∃ (d : List Node) (lv : Int) (n : Nat), n ≤ N ∧ as = [.d (eD d), .d (.int lv)] ∧ GD n d ∧ (ids d).length ≤ 1000 ∧ Po = fun _ v H' => ∃ d' rest, (ids d' ++ rest).Perm (ids d) ∧ GD n d' ∧ Tp H' v (eD d')
theorem c__law_turned (T : Txt K mg) : ∀ N : Nat, Cl P w K mg base (N + 5) "_law_turned" ["_law_state", "_law_document_here", "_law_levels"] (FM (S_turned N)) := by
  intro N
  induction N with
  | zero => exact go 0 (cl_noM T.d__law_turned)
  | succ N ih => exact go (N + 1) ih
where
  go (N : Nat) (C__law_turned : Cl P w K mg base (N + 4) "_law_turned" ["_law_state", "_law_document_here", "_law_levels"] (FM (lessM S_turned N))) : Cl P w K mg base (N + 5) "_law_turned" ["_law_state", "_law_document_here", "_law_levels"] (FM (S_turned N)) := by
    have C__law_digit := c__law_digit (P := P) (w := w) (base := base) T
    have C__law_word := c__law_word (P := P) (w := w) (base := base) T
    have C__law_attributes := c__law_attributes (P := P) (w := w) (base := base) T
    have C__law_flat := c__law_flat (P := P) (w := w) (base := base) T N
    refine cl_fm T.d__law_turned sc__law_turned (fun as r ⟨d, lv, n, _, e, _⟩ => by rw [e]; rfl) fun f cdv A outer s H sa vs as Po Q Ew hr hs ha ⟨d, lv, n, hnN, e1, hg, hz, e2⟩ q => ?_
    subst e1 e2
    obtain - | ⟨hd, - | ⟨hlvv, - | -⟩⟩ := ha
    obtain rfl := Tp.int_inv hlvv
    have hd : Tp H _ (eD d) := hd
    refine ⟨_, (pss_cons (ps_set (i := 3) sc__law_turned.nd rfl (Or.inl rfl) (pe_cl C__law_flat (hr.mono (by omega)) rfl (pa_cons (pv 1) (pa_cons pe_int (pa_cons pe_int pa_nil)))))
      (pss_cons (ps_setLc (i := 5) (own := [("_law_node_here", 4)]) (g := (gName 4)) (tt := (tTest (tOp (rI0 fun i j => .bl (decide (j < i))) (tCall _ [] E0 (tCons (tVar 0) (tCons (tC _) tNil))) (tC _)))) (te := (tVar 4)) rfl sc__law_turned.nd rfl rfl (sw_true rfl rfl rfl (by decide +kernel)) (pi_tup (pv 1)) (blkOk_by (own := [("_law_node_here", 4)]) (N := ["_law_state", "_law_document_here", "_law_levels", "_law_rows", "_law_node_here", "_law_kept_here", "_law_nodes", "_law_place", "_law_changed", "_law_tag", "_law_attributes_here"]) (sc := defScope s__law_turned) (by decide +kernel)) (fun _ _ _ _ _ => (pg_name (i := 4) sc__law_turned.nd rfl (Or.inl rfl))) (fun _ _ _ _ _ => (pts_one (pt_cmpR op_gt (pe_cl C__law_digit (hr.mono (by omega)) rfl (pa_cons (pv 0) (pa_cons pe_int pa_nil))) pe_int (nomark _)))) (fun _ _ _ _ _ => (pv 4)))
      (pss_cons (ps_set (i := 6) sc__law_turned.nd rfl (Or.inl rfl) (pe_lst pa_nil))
      (pss_cons (ps_for PassesOwn.never rfl (pi_list (pv 5)) (pg_name (i := 4) sc__law_turned.nd rfl (Or.inl rfl)) (pss_cons (ps_set (i := 7) sc__law_turned.nd rfl (Or.inl rfl) (pe_cl C__law_digit (hr.mono (by omega)) rfl (pa_cons (pv 0) (pa_cons (pe_op op_add (pe_callB call_ln rfl T.n_len bt_len (pa_cons (pv 6) pa_nil)) pe_int) pa_nil))))
      (pss_cons (ps_if (pt_cmpR op_eq (pe_cl C__law_digit (hr.mono (by omega)) rfl (pa_cons (pv 0) (pa_cons pe_int pa_nil))) pe_int (nomark _)) (pss_one (ps_set (i := 7) sc__law_turned.nd rfl (Or.inl rfl) (pe_callB call_ln rfl T.n_len bt_len (pa_cons (pv 6) pa_nil)))) pss_nil)
      (pss_cons (ps_if (pt_cmpR op_eq (pe_ix ix_tup (pv 4) pe_int (fun _ _ => rfl)) pe_str (nomark _)) (pss_one (ps_set (i := 8) sc__law_turned.nd rfl (Or.inl rfl) (pe_tup (pa_cons pe_str (pa_cons (pe_ix ix_tup (pv 4) pe_int (fun _ _ => rfl)) (pa_cons (pe_ix ix_tup (pe_tup (pa_cons (pe_ix ix_tup (pv 4) pe_int (fun _ _ => rfl)) (pa_cons (pe_cl C__law_word (hr.mono (by omega)) rfl (pa_cons (pv 0) pa_nil)) pa_nil))) (pe_callTy call_in rfl T.n_int bt_int (pa_cons (pe_cmpR op_eq (pe_cl C__law_digit (hr.mono (by omega)) rfl (pa_cons (pv 0) (pa_cons pe_int pa_nil))) pe_int (nomark _)) pa_nil)) (fun _ _ => rfl)) pa_nil)))))) (pss_cons (ps_set (i := 9) sc__law_turned.nd rfl (Or.inl rfl) (pe_ix ix_tup (pe_tup (pa_cons (pe_ix ix_tup (pv 4) pe_int (fun _ _ => rfl)) (pa_cons pe_str pa_nil))) (pe_callTy call_in rfl T.n_int bt_int (pa_cons (pe_cmpR op_eq (pe_cl C__law_digit (hr.mono (by omega)) rfl (pa_cons (pv 0) (pa_cons pe_int pa_nil))) pe_int (nomark _)) pa_nil)) (fun _ _ => rfl)))
      (pss_cons (ps_set (i := 10) sc__law_turned.nd rfl (Or.inl rfl) (pe_ix ix_tup (pe_tup (pa_cons (pe_ix ix_tup (pv 4) pe_int (fun _ _ => rfl)) (pa_cons (pe_cl C__law_attributes (hr.mono (by omega)) rfl (pa_cons (pv 0) pa_nil)) pa_nil))) (pe_callTy call_in rfl T.n_int bt_int (pa_cons (pe_cmpR op_eq (pe_cl C__law_digit (hr.mono (by omega)) rfl (pa_cons (pv 0) (pa_cons pe_int pa_nil))) pe_int (nomark _)) pa_nil)) (fun _ _ => rfl)))
      (pss_one (ps_set (i := 8) sc__law_turned.nd rfl (Or.inl rfl) (pe_tup (pa_cons pe_str (pa_cons (pe_ix ix_tup (pv 4) pe_int (fun _ _ => rfl)) (pa_cons (pv 9) (pa_cons (pv 10) (pa_cons (pe_cl C__law_turned (hr.mono (by omega)) rfl (pa_cons (pv 0) (pa_cons (pe_ix ix_tup (pv 4) pe_int (fun _ _ => rfl)) (pa_cons (pe_op op_add (pv 2) pe_int) pa_nil)))) pa_nil)))))))))))
      (pss_one (ps_set (i := 6) sc__law_turned.nd rfl (Or.inl rfl) (pe_op op_cat (pe_op op_cat (pe_slice sl_list (pv 6) po_none (po_some (pv 7))) (pe_lst (pa_cons (pv 8) pa_nil))) (pe_slice sl_list (pv 6) (po_some (pv 7)) po_none))))))))
      (pss_one (ps_ret (pe_callTy call_to rfl T.n_tuple bt_tuple (pa_cons (pv 6) pa_nil)))))))), ?_⟩
    refine m_asg (m_cl (m_cons (m_var rfl (m_cons (m_c (m_cons (m_c (m_nil ?_))))))))
    refine ⟨_, 0, 1, d, rfl, hd, hg.1.mono hnN, by omega, fun rl rws H1 e1 _ _ _ => ?_⟩
    have hd1 := hd.mono (tx_of e1)
    have s1 := hs.same e1
    obtain ⟨da, ws, rfl, hda, hws⟩ := Tp.tup_inv hd1
    have hlen : ws.length = d.length := by rw [hws.length, List.length_map]
    have hdl : d.length ≤ 1000 := Nat.le_trans (len_ids d) hz
    refine m_asg ⟨_, rfl, da, rfl, ⟨ws, SqT.of hda⟩, fun Dl hD => ?_⟩
    have hDs : Dl ≠ sa := s1.ne hD
    have eD : Same H1 (upd H1 Dl (.lst [])) := same_new hD
    refine lc_tup (xs := ws) (fun i H' => ∃ ks, ks.Sublist (d.take i) ∧ Ch [sa] H1 H' ∧ SS sa H' ∧ Ls H' Dl (ks.map eN)) ⟨[], List.nil_sublist _, Ch.of eD, s1.same eD, [], upd_same, .nil⟩ (fun i H' _ ⟨_, _, p, _⟩ => SqT.of (p.1 _ _ hda)) (fun i v H' hx ⟨ks, hk, c, s', hl⟩ => ?_) fun H2 ⟨ks, hk, c12, s2, hl2⟩ => ?_
    · obtain ⟨dd, hdd, td⟩ := hws.getV hx
      rw [List.getElem?_map] at hdd
      cases ex : d[i]? with
      | none => rw [ex] at hdd; cases hdd
      | some y =>
        rw [ex] at hdd
        have ed : eN y = dd := Option.some.inj hdd
        have e2 : d.take (i + 1) = d.take i ++ [y] := by rw [List.take_add_one, ex]; rfl
        refine ⟨rfl, mt_digGt rfl s' (by decide) (by decide) fun H3 b c3 s3 => ?_⟩
        have hl3 := c3.ls (n1 hDs) hl
        cases b with
        | false => exact ⟨ks, by rw [e2]; exact hk.trans (List.sublist_append_left _ _), c.trans c3, s3, hl3⟩
        | true =>
          rw [if_pos rfl]
          refine ⟨_, rfl, ?_⟩
          obtain ⟨acc, a1, a2⟩ := hl3
          have hkl := hk.length_le
          rw [List.length_take] at hkl
          have c4 : Ch [Dl] H3 (upd H3 Dl (.lst (acc ++ [v]))) := Ch.upd a1
          refine ⟨acc, a1, by rw [a2.length, List.length_map]; exact sz_lt (by omega), ks ++ [y], by rw [e2]; exact hk.append (List.Sublist.refl _), (c.trans c3).step c4 fun b hb => .inr (List.mem_singleton.mp hb ▸ hD), s3.ch c4 (n1 hDs.symm), acc ++ [v], upd_same, ?_⟩
          rw [List.map_append]
          exact (a2.append (.one (ed ▸ td.mono (c.1.trans c3.1)))).mono c4.1
    rw [hlen, List.take_length] at hk
    have hkl := hk.length_le
    refine q_asg (e_lst (ds := []) ea_nil) fun v3 H3 e3 hv3 => ?_
    obtain ⟨l, rfl, hl0, hl⟩ := hv3
    have cH := ((Ch.of e1).trans c12).same e3
    have s3 := s2.same e3
    have hl2' := hl2.mono e3
    have hlH : H l = none := free_back ((Ch.of (A := [sa]) e1).trans c12) s2.all hl0
    have hDn : Dl ∉ [sa] := n1 hDs
    have hlD : l ≠ Dl := fun z => by
      obtain ⟨ws, w1, _⟩ := hl2
      rw [z, w1] at hl0
      cases hl0
    have hls : l ≠ sa := hs.ne hlH
    refine q_forLV (H0 := H3) (xs := ks) rfl hl2' (fun done todo σ' H' => ∃ l ns v4 v7 v8 v9 v10, σ' = [some (.ref sa), some (.ref da), some (.int lv), some (.ref rl), v4, some (.ref Dl), some (.ref l), v7, v8, v9, v10] ∧ Ch [sa] H3 H' ∧ SS sa H' ∧ l ≠ sa ∧ Ls H' l (ns.map eN) ∧ (∃ rest, (ids ns ++ rest).Perm (ids done)) ∧ GD n ns) ?_ ?_ ?_ ?_
    · exact ⟨l, [], _, _, _, _, _, rfl, Ch.refl _, s3, hls, hl, ⟨[], List.Perm.refl _⟩, gd_nil _⟩
    · rintro a b σ' H' ⟨l, ns, v4, v7, v8, v9, v10, _, c, _⟩
      exact ⟨c.1, fun vs h => c.2 _ _ h hDn⟩
    · rintro done x todo u σ' H' ed ⟨l, ns, v4, v7, v8, v9, v10, rfl, c, s', hls, hl, ⟨rest, hp⟩, hgn⟩ hu
      have hxd : x ∈ d := hk.mem (by rw [ed]; simp)
      obtain ⟨m, rfl, hxk⟩ := hg.1.mem hxd
      have hgx : GD (m + 1) [x] := gd_all.mp hg x hxd
      have hksl : (ids ks).length ≤ 1000 := by
        obtain ⟨rest2, hp2⟩ := ids_drop hk
        have := hp2.length_eq
        rw [List.length_append] at this
        omega
      have hkse := hksl
      rw [ed, ids_append, ids_cons] at hkse
      simp only [List.length_append] at hkse
      have hnl : ns.length ≤ 1000 := by
        have h1 := len_ids ns
        have h2 := hp.length_eq
        rw [List.length_append] at h2
        omega
      refine m_asg (m_call rfl s' (ea_cons (E.o (e_opI (e_lenL (eo_lst rfl hl)) e_int)) ea_nil) ⟨(((ns.map eN).length : Nat) : Int) + 1, rfl, by omega, by rw [List.length_map]; omega, rfl⟩ fun Ha va Hb ea cb sb ⟨k, hk, e⟩ => ?_)
      subst e
      have hlb := cb.ls (n1 hls) hl
      refine q_whenSet rfl sb (by decide) (by decide) rfl (fun H1 c1 => e_lenL (eo_lst rfl (c1.ls (n1 hls) hlb))) fun y Hc hy cc sc => ?_
      obtain ⟨k', rfl⟩ : ∃ k' : Nat, y = .int (k' : Int) := by
        rcases hy with e | e
        · exact ⟨k, e⟩
        · exact ⟨_, e⟩
      have cbc := cb.trans cc
      have hlc := cc.ls (n1 hls) hlb
      have huc := hu.mono cbc.1
      -- the node put in
      have fin : ∀ (H4 : Hp) (z : Node), Ch [sa] Hc H4 → SS sa H4 → (∃ r2, (idsN z ++ r2).Perm (idsN x)) → GD (m + 1) [z] → ∀ (u8 : V) v9 v10, Tp H4 u8 (eN z) → ∀ l' H5, Same H4 H5 → Ls H5 l' ((ns.take k' ++ ([z] ++ ns.drop k')).map eN) → H4 l' = none →
          ∃ l ns v4 v7 v8 v9' v10', [some (V.ref sa), some (V.ref da), some (V.int lv), some (V.ref rl), some u, some (V.ref Dl), some (V.ref l'), some (V.int (k' : Int)), some u8, v9, v10] = [some (V.ref sa), some (V.ref da), some (V.int lv), some (V.ref rl), v4, some (V.ref Dl), some (V.ref l), v7, v8, v9', v10'] ∧ Ch [sa] H3 H5 ∧ SS sa H5 ∧ l ≠ sa ∧ Ls H5 l (ns.map eN) ∧ (∃ rest, (ids ns ++ rest).Perm (ids (done ++ [x]))) ∧ GD (m + 1) ns := by
        intro H4 z c4 s4 ⟨r2, hr2⟩ hgz u8 v9 v10 hv8 l' H5 e5 hl5 hl0
        refine ⟨l', _, _, _, _, _, _, rfl, ((c.trans cbc).trans c4).same e5, s4.same e5, s4.ne hl0, hl5, ⟨r2 ++ rest, ?_⟩, gd_put k' hgn hgz⟩
        rw [ids_append done, ids_one]
        refine ((ids_put ns k' z).append_right _).trans ?_
        rw [List.append_assoc]
        refine (List.Perm.append_left _ (List.append_assoc _ _ _ ▸ hr2.append_right rest)).trans ?_
        refine (List.Perm.append_left _ List.perm_append_comm).trans ?_
        rw [← List.append_assoc]
        exact hp.append_right _
      cases x with
      | text i s =>
        rw [eN_text] at huc
        refine q_if (et_eqS (e_ixT 0 (e_var rfl huc) e_int rfl) e_str) (fun _ Hd ed => ?_) (fun h => absurd h (by decide +kernel))
        have hud := huc.mono (tx_of ed)
        have sd := sc.same ed
        refine m_asg1 (m_tup (m_cons (m_c (m_cons (m_e (e_ixT 1 (e_var rfl hud) e_int rfl) fun v1 He ee hv1 => m_cons (m_op (m_tup (m_cons (m_e (e_ixT 2 (e_var rfl (Tp.mono (tx_of ee) hud)) e_int rfl) fun v2 Hf ef hv2 => m_cons (m_call rfl ((sd.same ee).same ef) ea_nil ⟨rfl, rfl⟩ fun Hg vw Hh eg ch sh ⟨s', hw, e⟩ => m_nil ⟨sz_c rfl, fun p hpn => ?_⟩))))))))))
        subst e
        obtain rfl := Tp.int_inv hv1
        obtain rfl := Tp.str_inv hv2
        obtain ⟨e5, hp5⟩ := tup_new (ds := [.str s, .str s']) (.cons (.str s) (.cons (.str s') .nil)) hpn
        refine pick2 hp5 rfl (sh.same e5) (by decide) (by decide) fun u6 d6 H6 hd6 c6 s6 hu6 => m_nil ⟨sz_c rfl, fun p2 hpn2 => ?_⟩
        obtain ⟨s2, rfl, hs2⟩ : ∃ s2, d6 = .str s2 ∧ Wo s2 := by
          rcases hd6 with e | e
          · exact ⟨s, e, gd_text_inv hgx⟩
          · exact ⟨s', e, hw⟩
        obtain ⟨e7, hp7⟩ := tup_new (ds := [.str "text", .int i, .str s2]) (.cons (.str _) (.cons (.int i) (.cons hu6 .nil))) hpn2
        have call : Ch [sa] Hc _ := (((((Ch.of (A := [sa]) ed).same ee).same ef).trans ch).same e5).trans c6 |>.same e7
        have hl7 := call.ls (n1 hls) hlc
        have s7 := s6.same e7
        rw [← eN_text] at hp7
        exact s_ins rfl rfl rfl hl7 hp7 (by omega) fun l' H8 e8 h0 hl8 => fin _ (.text i s2) call s7 ⟨[], by simp [idsN]⟩ (gd_text hs2) _ _ _ hp7 l' H8 e8 hl8 h0
      | elem i t a kk =>
        obtain ⟨ht, hga, hgk⟩ := gd_elem_inv hgx
        rw [eN_elem] at huc
        refine q_if (et_eqS (e_ixT 0 (e_var rfl huc) e_int rfl) e_str) (fun h => absurd h (by decide +kernel)) (fun _ Hd ed => ?_)
        have hud := huc.mono (tx_of ed)
        have sd := sc.same ed
        have hkkl : (ids kk).length ≤ 1000 := by
          have := idsN_eq (.elem i t a kk)
          rw [this] at hkse
          simp only [List.length_cons, Node.kids] at hkse
          omega
        obtain ⟨M, rfl⟩ : ∃ M, N = M + 1 := ⟨N - 1, by omega⟩
        refine m_asg (m_op (m_e (e_tup (ds := [.str t, .str "i"]) (ea_cons (E.o (e_ixT 2 (e_var rfl hud) e_int rfl)) (ea_cons (E.o e_str) ea_nil))) fun v1 He ee hv1 => pick2 hv1 rfl (sd.same ee) (by decide) (by decide) fun u1 d1 Hf hd1 cf sf hu1 => ?_))
        obtain ⟨t2, rfl, ht2⟩ : ∃ t2, d1 = .str t2 ∧ Wo t2 := by
          rcases hd1 with e | e
          · exact ⟨t, e, ht⟩
          · exact ⟨_, e, by unfold Wo; decide +kernel⟩
        have cdf : Ch [sa] Hd Hf := (Ch.of ee).trans cf
        have huf := hud.mono cdf.1
        refine m_asg (m_op (m_tup (m_cons (m_e (e_ixT 3 (e_var rfl huf) e_int rfl) fun v2 Hg eg hv2 => m_cons (m_call rfl (sf.same eg) ea_nil ⟨rfl, rfl⟩ fun Hh vw Hi eh ci si ⟨a', ha', hva'⟩ => m_nil ⟨sz_c rfl, fun p hpn => ?_⟩)))))
        obtain ⟨e5, hp5⟩ := tup_new (ds := [.tuple (a.map eP), .tuple (a'.map eP)]) (.cons (Tp.mono ci.1 hv2) (.cons hva' .nil)) hpn
        refine pick2 hp5 rfl (si.same e5) (by decide) (by decide) fun u3 d3 Hk hd3 ck sk hu3 => ?_
        obtain ⟨a2, rfl, ha2⟩ : ∃ a2 : Attrs, d3 = .tuple (a2.map eP) ∧ GA a2 := by
          rcases hd3 with e | e
          · exact ⟨a, e, hga⟩
          · exact ⟨a', e, ha'⟩
        have cfk : Ch [sa] Hf Hk := (((Ch.of (A := [sa]) eg).trans ci).same e5).trans ck
        have huk := huf.mono cfk.1
        refine m_asg1 (m_tup (m_cons (m_c (m_cons (m_e (e_ixT 1 (e_var rfl huk) e_int rfl) fun v4 Hl el hv4 => m_cons (m_var rfl (m_cons (m_var rfl (m_cons (m_call rfl (sk.same el) (ea_cons (E.o (e_ixT 4 (e_var rfl (Tp.mono (tx_of el) huk)) e_int rfl)) (ea_cons (E.o (e_opI (e_var rfl (Tp.int lv)) e_int)) ea_nil)) ⟨kk, lv + 1, m, by omega, rfl, hgk, hkkl, rfl⟩ fun Hm vt Hn em cn sn ⟨k2, r2, hr2, hgk2, hvt⟩ => m_nil ⟨sz_c rfl, fun p2 hpn2 => ?_⟩))))))))))
        obtain rfl := Tp.int_inv hv4
        have ckn : Ch [sa] Hk Hn := (Ch.of el).trans cn
        obtain ⟨e7, hp7⟩ := tup_new (ds := [.str "element", .int i, .str t2, .tuple (a2.map eP), VL.eD k2]) (.cons (.str _) (.cons (.int i) (.cons (Tp.mono (cfk.trans ckn).1 hu1) (.cons (Tp.mono ckn.1 hu3) (.cons hvt .nil))))) hpn2
        have call : Ch [sa] Hc _ := ((((Ch.of (A := [sa]) ed).trans cdf).trans cfk).trans ckn).same e7
        have hl7 := call.ls (n1 hls) hlc
        have s7 := sn.same e7
        rw [← eN_elem] at hp7
        exact s_ins rfl rfl rfl hl7 hp7 (by omega) fun l' H8 e8 h0 hl8 => fin _ (.elem i t2 a2 k2) call s7 ⟨r2, by simp only [idsN, List.cons_append]; exact List.Perm.cons i hr2⟩ (gd_elem ht2 ha2 hgk2) _ _ _ hp7 l' H8 e8 hl8 h0
    · rintro σ' H' ⟨l, ns, v4, v7, v8, v9, v10, rfl, c, s', hls, hl, ⟨rest, hp⟩, hgn⟩
      obtain ⟨rest2, hp2⟩ := ids_drop hk
      refine s_ret (e_to (eo_lst rfl hl)) fun v H5 e5 hv => q v H5 ((cH.trans c).same e5) (s'.same e5) ⟨ns, rest ++ rest2, ?_, hgn, hv⟩
      rw [← List.append_assoc]
      exact (hp.append_right _).trans hp2
end
end VL

namespace VL
open PySem L2
section
variable {P : Program} {w : World} {K : PySem.W.Frag} {mg : Str → Option Value} {base : Heap}
variable {σ : L2.St} {H H' : Hp} {ta tb te : TE} {tt tu : TT} {tA : TA} {r r' : Rs} {b b' : Bool} {D : Ends} {t u tz : TS} {g : TG}
/-- [f(k) for k in range(a, b, -1)], ints -/
theorem e_lcDown {i j : Int} {vs : List Nat} (f : Nat → Int) {n : Nat} (h : EA tA σ H [.d (.int i), .d (.int j), .d (.int (-1))]) (hr : RgC i j (-1) n) (hl : n < 100000)
    (hs : ∀ k, k < n → ∀ H1, Same H H1 → ∀ Q : L2.St → Hp → Prop, (∀ σ2 H2, Same H1 H2 → wipe σ2 vs = wipe σ vs → E tb σ2 H2 (.d (.int (f k))) → Q σ2 H2) → g (.int (i + (k : Int) * (-1))) (wipe σ vs) H1 Q) :
    E (tLc (iRng3 tA) g tYes tb vs) σ H (.l (eI ((List.range n).map f))) := fun H0 e0 Q q => h H0 e0 _ fun v H1 e1 hvs => by
  obtain - | ⟨h1, - | ⟨h2, - | ⟨h3, - | -⟩⟩⟩ := hvs
  obtain rfl := Tp.int_inv h1
  obtain rfl := Tp.int_inv h2
  obtain rfl := Tp.int_inv h3
  refine ⟨i, j, -1, n, rfl, hr, fun Dl hD => ?_⟩
  have eD : Same H1 (upd H1 Dl (.lst [])) := same_new hD
  refine ⟨fun k m H' => m = n - k ∧ k ≤ n ∧ Same H1 H' ∧ Ls H' Dl (eI ((List.range k).map f)), ⟨n, by simp, Nat.zero_le _, eD, [], upd_same, .nil⟩, ?_⟩
  rintro k m H' ⟨rfl, hk, q1, q2⟩
  by_cases hlt : k < n
  · refine .inr ⟨hlt, fun H2 => k + 1 ≤ n ∧ Same H1 H2 ∧ Ls H2 Dl (eI ((List.range (k + 1)).map f)), fun H2 p' => ⟨n - (k + 1), by omega, rfl, p'⟩, fun x H2 y => ?_⟩
    obtain ⟨eh, ex⟩ := y
    subst eh ex
    refine hs k hlt H2 ((e0.trans e1).trans q1) _ fun σ2 H3 s2 hw hE => ⟨hw, ?_⟩
    show tb σ2 H3 _
    refine hE H3 (Same.refl H3) _ fun w H4 s4 hw' => ?_
    obtain ⟨acc, a1, a2⟩ := q2.mono (s2.trans s4)
    refine ⟨acc, a1, by rw [a2.length, List.length_map, List.length_map, List.length_range]; exact sz_lt (by omega), hlt, (But.upd).same hD ((q1.trans s2).trans s4), acc ++ [w], upd_same, ?_⟩
    have h3 : TpAll H4 (acc ++ [w]) (eI ((List.range (k + 1)).map f)) := by
      rw [show eI ((List.range (k + 1)).map f) = eI ((List.range k).map f) ++ [.int (f k)] by rw [List.range_succ]; simp]
      exact a2.append (.one hw')
    exact h3.mono (tx_lst a1)
  · have : k = n := by omega
    subst this
    exact .inl ⟨Nat.le_refl _, q _ H' (e1.trans q1) ⟨Dl, rfl, e1.free hD, q2⟩⟩
/-- first .. first + 5 -/
def six (f : Int) : List Int := (List.range 6).map fun k : Nat => f + (5 + (k : Int) * (-1))
/-- _law_fresh -/
def S_fresh : List Rs → (Hp → V → Hp → Prop) → Prop := fun as Po => ∃ (d : List Node) (f : Int) (n : Nat), 3 ≤ n ∧ as = [.d (eD d), .d (.int f)] ∧ GD n d ∧ d.length ≤ 1000 ∧ Po = fun _ v H' => ∃ d' rest, (ids d' ++ rest).Perm (ids d ++ six f) ∧ GD n d' ∧ Tp H' v (eD d')
theorem c__law_fresh (T : Txt K mg) : Cl P w K mg base 7 "_law_fresh" ["_law_state", "_law_document_here", "_law_first"] (FM S_fresh) := by
  have C__law_digit := c__law_digit (P := P) (w := w) (base := base) T
  have C__law_node := c__law_node (P := P) (w := w) (base := base) T 2
  refine cl_fm T.d__law_fresh sc__law_fresh (fun as r ⟨d, lv, n, _, e, _⟩ => by rw [e]; rfl) fun f cdv A outer s H sa vs as Po Q Ew hr hs ha ⟨d, ff, n, hn, e1, hg, hz, e2⟩ q => ?_
  subst e1 e2
  obtain - | ⟨hd, - | ⟨hfv, - | -⟩⟩ := ha
  obtain rfl := Tp.int_inv hfv
  have hd : Tp H _ (eD d) := hd
  obtain ⟨n, rfl⟩ : ∃ k, n = k + 1 := ⟨n - 1, by omega⟩
  refine ⟨_, (pss_cons (ps_if (pt_cmpR op_eq (pe_cl C__law_digit (hr.mono (by omega)) rfl (pa_cons (pv 0) (pa_cons pe_int pa_nil))) pe_int (nomark _)) (pss_one (ps_ret (pv 1))) pss_nil)
      (pss_cons (ps_set (i := 3) sc__law_fresh.nd rfl (Or.inl rfl) (pe_cl C__law_node (hr.mono (by omega)) rfl (pa_cons (pv 0) (pa_cons pe_int (pa_cons (pe_lc (own := [("_law_k", 5)]) (g := (gName 5)) (tt := tYes) (te := (tOp (rI0 fun i j => .int (i + j)) (tVar 2) (tVar 5))) rfl sc__law_fresh.nd (pi_range3 rfl T.n_range (pa_cons pe_int (pa_cons (pe_un un_neg pe_int) (pa_cons (pe_un un_neg pe_int) pa_nil)))) (blkOk_by (own := [("_law_k", 5)]) (N := ["_law_state", "_law_document_here", "_law_first", "_law_node_here", "_law_place", "_law_k"]) (sc := defScope s__law_fresh) (by decide +kernel)) (fun _ _ _ _ _ => (pg_name (i := 5) sc__law_fresh.nd rfl (Or.inl rfl))) (fun _ _ _ _ _ => pts_nil) (fun _ _ _ _ _ => (pe_op op_add (pv 2) (pv 5)))) pa_nil)))))
      (pss_cons (ps_set (i := 4) sc__law_fresh.nd rfl (Or.inl rfl) (pe_cl C__law_digit (hr.mono (by omega)) rfl (pa_cons (pv 0) (pa_cons (pe_op op_add (pe_callB call_ln rfl T.n_len bt_len (pa_cons (pv 1) pa_nil)) pe_int) pa_nil))))
      (pss_one (ps_ret (pe_op op_catA (pe_op op_catA (pe_slice sl_tupA (pv 1) po_none (po_some (pv 4))) (pe_tup (pa_cons (pv 3) pa_nil))) (pe_slice sl_tupA (pv 1) (po_some (pv 4)) po_none))))))), ?_⟩
  refine m_when (mt_dig rfl hs (by decide) (by decide) fun H1 b c1 s1 => ?_)
  cases b with
  | true =>
    rw [if_pos rfl]
    exact s_ret (e_var rfl (hd.mono c1.1)) fun v H2 e2 hv => q v H2 (c1.same e2) (s1.same e2) ⟨d, six ff, List.Perm.refl _, hg, hv⟩
  | false =>
    rw [if_neg Bool.false_ne_true]
    refine m_asg (m_cl (m_cons (m_var rfl (m_cons (m_c (m_cons (m_e (e_lcDown (i := 5) (j := -1) (n := 6) (fun k => ff + (5 + (k : Int) * (-1))) (ea_cons (E.o e_int) (ea_cons (E.o (e_neg e_int)) (ea_cons (E.o (e_neg e_int)) ea_nil))) (RgC.neg (by decide) (by decide) (by decide) (by decide)) (by decide) fun k hk H2 e2 Q' k' => ?_) fun v H2 e2 hv => m_nil ?_)))))))
    · exact k' _ H2 (Same.refl H2) rfl (e_opI (e_var rfl (Tp.int ff)) (e_var rfl (Tp.int _)))
    obtain ⟨pl, rfl, hpl0, hpl⟩ := hv
    have hplH := free_back c1 s1.all hpl0
    have hd2 := (hd.mono c1.1).mono (tx_of e2)
    refine ⟨sa, pl, 2, six ff, rfl, by decide, s1.same e2, (s1.ne hpl0).symm, ints_ls hpl, fun z => absurd (congrArg List.length z) (by simp [six]), by simp [six], fun v3 H3 x ns' c3 s3 _ hpm hgx hx => ?_⟩
    have c13 : Ch [sa] H H3 := (c1.same e2).step c3 fun b hb => by
      rw [List.mem_cons, List.mem_singleton] at hb
      rcases hb with hb | hb
      · exact .inl (by rw [hb]; simp)
      · exact .inr (by rw [hb]; exact hplH)
    have hd3 := hd.mono c13.1
    refine m_asg (m_call rfl s3 (ea_cons (E.o (e_opI (e_lenT (e_var rfl hd3)) e_int)) ea_nil) ⟨(((d.map eN).length : Nat) : Int) + 1, rfl, by omega, by rw [List.length_map]; omega, rfl⟩ fun Ha va H4 ea c4 s4 ⟨k, hk, e⟩ => ?_)
    subst e
    have hd4 := hd3.mono c4.1
    have hx4 := hx.mono c4.1
    refine s_ret (r := .d (eD (d.take k ++ ([x] ++ d.drop k)))) (E.is (e_catT (e_catT (e_slT (e_var rfl hd4) eo_no (eo_part (e_var rfl (Tp.int (k : Int))))) (e_tup (ds := [eN x]) (ea_cons (E.o (e_var rfl hx4)) ea_nil)) ?_) (e_slT (e_var rfl hd4) (eo_part (e_var rfl (Tp.int (k : Int)))) eo_no) ?_) ?_) fun v H5 e5 hv => q v H5 ((c13.trans c4).same e5) (s4.same e5) ⟨_, ns', ?_, gd_put k hg (hgx.mono hn), hv⟩
    · rw [cutD_to]
      simp only [List.length_take, List.length_map, List.length_cons, List.length_nil]
      omega
    · rw [cutD_to, cutD_from]
      simp only [List.length_append, List.length_take, List.length_drop, List.length_map, List.length_cons, List.length_nil]
      omega
    · rw [cutD_to, cutD_from]
      simp [List.map_take, List.map_drop]
    · refine ((ids_put d k x).append_right _).trans ?_
      rw [List.append_assoc]
      exact hpm.append_left _
/-! ### _law_pair -/
/-- a document as the law makes it -/
def FD (d : List Node) : Prop := Doc 10 60 4 d ∧ CL d
theorem up_nodup (m : Nat) : (up m).Nodup := by
  unfold up
  refine List.Pairwise.map _ (fun a b h => ?_) List.nodup_range
  intro z
  exact h (by omega)
theorem up_mem {m : Nat} {i : Int} (h : i ∈ up m) : 1 ≤ i ∧ i ≤ (m : Int) := by
  unfold up at h
  obtain ⟨k, hk, e⟩ := List.mem_map.mp h
  have := List.mem_range.mp hk
  omega
theorem fd_of {d : List Node} {rest L : List Int} {n : Nat} (hp : (ids d ++ rest).Perm L) (hL : L.Nodup) (h1 : ∀ i ∈ L, 1 ≤ i) (hl : L.length ≤ 60) (hg : GD n d) (hn : n ≤ 10) : FD d := by
  have hnd := hp.nodup_iff.mpr hL
  have hlen := hp.length_eq
  rw [List.length_append] at hlen
  exact ⟨⟨(List.nodup_append.mp hnd).1, fun i hi => h1 i (hp.mem_iff.mp (List.mem_append_left _ hi)), by omega, hg.1.mono hn, hg.2.1⟩, hg.2.2⟩
/-- a made document: ids from 1 .. 18, five levels -/
def G5 (d : List Node) : Prop := GD 5 d ∧ ∃ rest, (ids d ++ rest).Perm (up 18)
theorem up_more {m n : Nat} (h : m ≤ n) : ∃ rest, up n = up m ++ rest := by
  induction n with
  | zero => exact ⟨[], by rw [show m = 0 by omega, List.append_nil]⟩
  | succ n ih =>
    by_cases e : m = n + 1
    · exact ⟨[], by rw [e, List.append_nil]⟩
    · obtain ⟨rest, hr⟩ := ih (by omega)
      exact ⟨rest ++ [(n : Int) + 1], by rw [up_succ, hr, List.append_assoc]⟩
theorem m_doc {i : Nat} {st : Addr} {X X1 X2 : XK} {Q : VK} (hv : σ[i]? = some (some (.ref st))) (hs : SS st H) (k : ∀ v H2 d, Ch [st] H H2 → SS st H2 → G5 d → Tp H2 v (eD d) → Q v H2) :
    tCall (FM (S_doc 4)) [] X (tCons (tVar i) (tCons (tOp (rI0 fun i j => .int (i + j)) (tC (.int 1)) (tCall (FM S_digit) [] X1 (tCons (tVar i) (tCons (tC (.int 18)) tNil)))) (tCons (tOp (rI0 fun i j => .int (i + j)) (tC (.int 1)) (tCall (FM S_digit) [] X2 (tCons (tVar i) (tCons (tC (.int 4)) tNil)))) tNil))) σ H Q :=
  m_cl (m_cons (m_var hv (m_cons (m_op (m_c (m_call hv hs (ea_cons (E.o e_int) ea_nil) ⟨18, rfl, by decide, by decide, rfl⟩ fun H1 v1 H2 e1 c2 s2 ⟨k1, hk1, ev1⟩ => by
    subst ev1
    refine ⟨1, (k1 : Int), rfl, rfl, m_cons (m_op (m_c (m_call hv s2 (ea_cons (E.o e_int) ea_nil) ⟨4, rfl, by decide, by decide, rfl⟩ fun H3 v3 H4 e3 c4 s4 ⟨k2, hk2, ev2⟩ => ?_)))⟩
    subst ev2
    refine ⟨1, (k2 : Int), rfl, rfl, m_nil ?_⟩
    have g1 : (1 : Int) + (k1 : Int) = ((1 + k1 : Nat) : Int) := by omega
    have g2 : (1 : Int) + (k2 : Int) = ((1 + k2 : Nat) : Int) := by omega
    refine ⟨st, [.int (1 + (k1 : Int)), .int (1 + (k2 : Int))], [.d (.int ((1 + k1 : Nat) : Int)), .d (.int ((1 + k2 : Nat) : Int))], _, rfl, s4, ?_, ⟨1 + k1, 1 + k2, rfl, by omega, by omega, rfl⟩, fun v H5 c5 s5 ⟨d, rest, hp, hg, hd⟩ => ?_⟩
    · rw [g1, g2]
      exact .cons (Tp.int _) (.cons (Tp.int _) .nil)
    · obtain ⟨r2, h2⟩ := up_more (m := 1 + k1) (n := 18) (by omega)
      refine k v H5 d ((c2.trans c4).trans c5) s5 ⟨hg.mono (by omega), rest ++ r2, ?_⟩ hd
      rw [h2, ← List.append_assoc]
      exact hp.append_right _))))))
end
end VL

namespace VL
open PySem L2
section
variable {P : Program} {w : World} {K : PySem.W.Frag} {mg : Str → Option Value} {base : Heap}
variable {σ : L2.St} {H H' : Hp} {ta tb te : TE} {tt tu : TT} {tA : TA} {r r' : Rs} {b b' : Bool} {D : Ends} {t u tz : TS} {g : TG}
theorem e_k {v : V} {x : PyData} (h : Tp H v x) : E (fun _ H2 Q => Q v H2) σ H (.d x) := fun H1 e Q q => q v H1 (Same.refl H1) (h.mono (tx_of e))
theorem cat_fin {v w : V} {xs ys : List PyData} {Q : VK} (hv : Tp H v (.tuple xs)) (hw : Tp H w (.tuple ys)) (hl : xs.length + ys.length ≤ 100000) (q : ∀ u H', Same H H' → Tp H' u (.tuple (xs ++ ys)) → Q u H') : rCatA K v w H Q :=
  e_catT (σ := []) (e_k hv) (e_k hw) hl H (Same.refl H) Q q
theorem m_yes {Q : Bool → Hp → Prop} (h : Q true H) : tYes σ H Q := h
theorem m_lcL {vs : List Nat} {Q : VK} (h : ta σ H fun x H1 => tLc (iList K fun _ H2 Q' => Q' x H2) g tt tb vs σ H1 Q) : tLc (iList K ta) g tt tb vs σ H Q := h
theorem pair_ret {i j : Nat} {v u : V} {x y : PyData} (h3 : σ[i]? = some (some v)) (h8 : σ[j]? = some (some u)) (hv : Tp H v x) (hu : Tp H u y) (q : ∀ v H', Same H H' → Tp H' v (.tuple [x, y]) → D.rt v H') : tRet (tTup (tCons (tVar i) (tCons (tVar j) tNil))) D σ H :=
  s_ret (e_tup (ds := [x, y]) (ea_cons (E.o (e_var h3 hv)) (ea_cons (E.o (e_var h8 hu)) ea_nil))) fun v H1 e1 hv => q v H1 e1 hv
theorem big_ok : (up 18 ++ six 40 ++ six 60).Nodup ∧ (∀ i ∈ up 18 ++ six 40 ++ six 60, 1 ≤ i) ∧ (up 18 ++ six 40 ++ six 60).length ≤ 60 := by decide +kernel
theorem fd_g5 {d : List Node} (h : G5 d) : FD d := by
  obtain ⟨hg, rest, hp⟩ := h
  exact fd_of hp (up_nodup 18) (fun i hi => (up_mem hi).1) (by rw [up_len]; decide) hg (by decide)
def P_pair (K : PySem.W.Frag) : Sp := fun vs H Q _ => ∃ (sp : Addr) (ns : List Int) (k : Nat), vs = [.ref sp, .int (k : Int)] ∧ SqL K H sp (ns.map V.int) ∧ k ≤ 20 ∧ ∀ v H' a b, Same H H' → FD a → FD b → Tp H' v (.tuple [eD a, eD b]) → Q v H'
theorem ls_ss {l : Addr} {n : Int} (h : Ls H l [.int n]) : SS l H := ⟨n, by
  obtain ⟨vs, h1, h2⟩ := h
  have := TpAll.ints (ns := [n]) h2
  rw [h1, this]
  rfl⟩
theorem c__law_pair (T : Txt K mg) : Cl P w K mg base 20 "_law_pair" ["_law_script", "_law_k"] (P_pair K) := by
  have C__law_cell := c__law_cell (P := P) (w := w) (base := base) T
  have C__law_start := c__law_start (P := P) (w := w) (base := base) T
  have C__law_digit := c__law_digit (P := P) (w := w) (base := base) T
  have C__law_word := c__law_word (P := P) (w := w) (base := base) T
  have C__law_pool := c__law_pool (P := P) (w := w) (base := base) T
  have C__law_document := c__law_document (P := P) (w := w) (base := base) T 4
  have C__law_turned := c__law_turned (P := P) (w := w) (base := base) T 5
  have C__law_fresh := c__law_fresh (P := P) (w := w) (base := base) T
  refine cl_of T.d__law_pair sc__law_pair (fun vs H Q E ⟨_, _, _, e, _⟩ => by rw [e]; rfl) fun f cdv A outer s H vs Q Ew hr ⟨sp, ns, k, e, hsp, hk, q⟩ => ?_
  subst e
  refine ⟨_, (pss_cons (ps_set (i := 2) sc__law_pair.nd rfl (Or.inr rfl) (pe_cl C__law_start (hr.mono (by omega)) rfl (pa_cons (pe_cl C__law_cell (hr.mono (by omega)) rfl (pa_cons (pv 0) (pa_cons (pe_op op_mulW pe_int (pv 1)) pa_nil))) (pa_cons (pv 1) pa_nil))))
      (pss_cons (ps_set (i := 3) sc__law_pair.nd rfl (Or.inl rfl) (pe_cl C__law_document (hr.mono (by omega)) rfl (pa_cons (pv 2) (pa_cons (pe_op op_add pe_int (pe_cl C__law_digit (hr.mono (by omega)) rfl (pa_cons (pv 2) (pa_cons pe_int pa_nil)))) (pa_cons (pe_op op_add pe_int (pe_cl C__law_digit (hr.mono (by omega)) rfl (pa_cons (pv 2) (pa_cons pe_int pa_nil)))) pa_nil)))))
      (pss_cons (ps_set (i := 2) sc__law_pair.nd rfl (Or.inr rfl) (pe_cl C__law_start (hr.mono (by omega)) rfl (pa_cons (pe_cl C__law_cell (hr.mono (by omega)) rfl (pa_cons (pv 0) (pa_cons (pe_op op_add (pe_op op_mulW pe_int (pv 1)) pe_int) pa_nil))) (pa_cons (pv 1) pa_nil))))
      (pss_cons (ps_set (i := 4) sc__law_pair.nd rfl (Or.inl rfl) (pe_cl C__law_digit (hr.mono (by omega)) rfl (pa_cons (pv 2) (pa_cons pe_int pa_nil))))
      (pss_cons (ps_if (pt_cmpR op_eq (pv 4) pe_int (nomark _)) (pss_one (ps_ret (pe_tup (pa_cons (pv 3) (pa_cons (pe_cl C__law_document (hr.mono (by omega)) rfl (pa_cons (pv 2) (pa_cons (pe_op op_add pe_int (pe_cl C__law_digit (hr.mono (by omega)) rfl (pa_cons (pv 2) (pa_cons pe_int pa_nil)))) (pa_cons (pe_op op_add pe_int (pe_cl C__law_digit (hr.mono (by omega)) rfl (pa_cons (pv 2) (pa_cons pe_int pa_nil)))) pa_nil)))) pa_nil))))) pss_nil)
      (pss_cons (ps_if (pt_cmpR op_eq (pv 4) pe_int (nomark _)) (pss_cons (ps_set (i := 5) sc__law_pair.nd rfl (Or.inl rfl) (pe_op op_add pe_int (pe_cl C__law_digit (hr.mono (by omega)) rfl (pa_cons (pv 2) (pa_cons pe_int pa_nil)))))
      (pss_cons (ps_set (i := 6) sc__law_pair.nd rfl (Or.inl rfl) (pe_lst pa_nil))
      (pss_cons (ps_for PassesOwn.never rfl (pi_range1 rfl T.n_range (pa_cons pe_int pa_nil)) (pg_name (i := 7) sc__law_pair.nd rfl (Or.inl rfl)) (pss_one (ps_expr (pe_bm PySem.F.plainAttrs_list PySem.F.slot_list_append PySem.F.type_list_append mt_append (pv 6) (pa_cons (pe_callTy call_to rfl T.n_tuple bt_tuple (pa_cons (pe_lc (own := [("_law_number", 10)]) (g := (gName 10)) (tt := tYes) (te := (tTup (tCons (tC _) (tCons (tVar 10) (tCons (tCall _ [] E0 (tCons (tVar 2) tNil)) tNil))))) rfl sc__law_pair.nd (pi_list (pe_cl C__law_pool (hr.mono (by omega)) rfl (pa_cons (pv 2) (pa_cons (pe_op op_sub (pv 5) (pe_op op_mulW pe_int (pv 7))) pa_nil)))) (blkOk_by (own := [("_law_number", 10)]) (N := ["_law_script", "_law_k", "_law_state", "_law_old", "_law_choice", "_law_many", "_law_rows", "_law_turn", "_law_new", "_law_head", "_law_number"]) (sc := defScope s__law_pair) (by decide +kernel)) (fun _ _ _ _ _ => (pg_name (i := 10) sc__law_pair.nd rfl (Or.inl rfl))) (fun _ _ _ _ _ => pts_nil) (fun _ _ _ _ _ => (pe_tup (pa_cons pe_str (pa_cons (pv 10) (pa_cons (pe_cl C__law_word (hr.mono (by omega)) rfl (pa_cons (pv 2) pa_nil)) pa_nil)))))) pa_nil)) pa_nil)))))
      (pss_one (ps_ret (pe_tup (pa_cons (pe_ix ix_list (pv 6) pe_int (fun _ _ => rfl)) (pa_cons (pe_ix ix_list (pv 6) pe_int (fun _ _ => rfl)) pa_nil)))))))) pss_nil)
      (pss_cons (ps_set (i := 8) sc__law_pair.nd rfl (Or.inl rfl) (pe_cl C__law_turned (hr.mono (by omega)) rfl (pa_cons (pv 2) (pa_cons (pv 3) (pa_cons pe_int pa_nil)))))
      (pss_cons (ps_set (i := 8) sc__law_pair.nd rfl (Or.inl rfl) (pe_cl C__law_fresh (hr.mono (by omega)) rfl (pa_cons (pv 2) (pa_cons (pv 8) (pa_cons pe_int pa_nil)))))
      (pss_cons (ps_if (PW.pt (pw_and (pt_cmpR op_gt (pe_callB call_ln rfl T.n_len bt_len (pa_cons (pv 8) pa_nil)) pe_int (nomark _)) (pw_and1 (pt_cmpR op_eq (pe_ix ix_tup (pe_ix ix_tup (pv 8) pe_int (fun _ _ => rfl)) pe_int (fun _ _ => rfl)) pe_str (nomark _))))) (pss_cons (ps_set (i := 9) sc__law_pair.nd rfl (Or.inl rfl) (pe_ix ix_tup (pv 8) pe_int (fun _ _ => rfl)))
      (pss_one (ps_set (i := 8) sc__law_pair.nd rfl (Or.inl rfl) (pe_op op_catA (pe_tup (pa_cons (pe_tup (pa_cons pe_str (pa_cons (pe_ix ix_tup (pv 9) pe_int (fun _ _ => rfl)) (pa_cons (pe_ix ix_tup (pv 9) pe_int (fun _ _ => rfl)) (pa_cons (pe_ix ix_tup (pv 9) pe_int (fun _ _ => rfl)) (pa_cons (pe_cl C__law_fresh (hr.mono (by omega)) rfl (pa_cons (pv 2) (pa_cons (pe_ix ix_tup (pv 9) pe_int (fun _ _ => rfl)) (pa_cons pe_int pa_nil)))) pa_nil)))))) pa_nil)) (pe_slice sl_tupA (pv 8) (po_some pe_int) po_none))))) pss_nil)
      (pss_one (ps_ret (pe_tup (pa_cons (pv 3) (pa_cons (pv 8) pa_nil)))))))))))))), ?_⟩
  have ek : (2 : Int) * (k : Int) = ((2 * k : Nat) : Int) := by omega
  have ek1 : (2 : Int) * (k : Int) + 1 = ((2 * k + 1 : Nat) : Int) := by omega
  have hw2 : CMulW 2 (k : Int) := wide_mul (a := 2) (b := 10) (by decide) (by omega) (by decide) (by decide) (by decide)
  refine q_asg (e_call (r := .l [.int (startF (ns.getD (2 * k) 0) k)]) (ea_cons (E.o (e_cell (k := 2 * k) rfl hsp (E.is (e_opIC e_int (e_var rfl (Tp.int (k : Int))) hw2) (by rw [ek])))) (ea_cons (E.o (e_var rfl (Tp.int (k : Int)))) ea_nil)) ⟨_, k, rfl, by omega, by omega, rfl⟩) fun v1 H1 e1 hv1 => ?_
  obtain ⟨sa, rfl, hsa0, hsa⟩ := hv1
  have s1 := ls_ss hsa
  refine m_asg (m_doc rfl s1 fun v2 H2 old c2 s2 hgo hold => ?_)
  have e2 : Same H H2 := c2.back e1 fun b hb => List.mem_singleton.mp hb ▸ hsa0
  refine q_asg (e_call (r := .l [.int (startF (ns.getD (2 * k + 1) 0) k)]) (ea_cons (E.o (e_cell (k := 2 * k + 1) rfl (e2.seq hsp) (E.is (e_opI (e_opIC e_int (e_var rfl (Tp.int (k : Int))) hw2) e_int) (by rw [ek1])))) (ea_cons (E.o (e_var rfl (Tp.int (k : Int)))) ea_nil)) ⟨_, k, rfl, by omega, by omega, rfl⟩) fun v3 H3 e3 hv3 => ?_
  obtain ⟨sb, rfl, hsb0, hsb⟩ := hv3
  have s3 := ls_ss hsb
  have hsbH : ∀ b ∈ [sb], H b = none := fun b hb => List.mem_singleton.mp hb ▸ e2.free hsb0
  have hold3 := hold.mono (tx_of e3)
  refine m_asg (m_call rfl s3 (ea_cons (E.o e_int) ea_nil) ⟨6, rfl, by decide, by decide, rfl⟩ fun H4 v4 H5 e4 c5 s5 ⟨k5, hk5, ev5⟩ => ?_)
  subst ev5
  have hold5 := hold3.mono c5.1
  refine q_when (et_eqI (e_var rfl (Tp.int (k5 : Int))) e_int) (fun _ H6 e6 => ?_) fun _ H6 e6 => ?_
  · have c6 := c5.same e6
    refine m_ret (m_tup (m_cons (m_var rfl (m_cons (m_doc rfl (s5.same e6) fun v7 H7 new c7 s7 hgn hnew => m_nil ⟨sz_c rfl, fun p hpn => ?_⟩)))))
    obtain ⟨e8, hp8⟩ := tup_new (ds := [eD old, eD new]) (.cons (hold3.mono (c6.trans c7).1) (.cons hnew .nil)) hpn
    exact q _ _ old new ((((c6.trans c7).same e8).back (e2.trans e3)) hsbH) (fd_g5 hgo) (fd_g5 hgn) hp8
  have c6 := c5.same e6
  have s6 := s5.same e6
  have hold6 := hold5.mono (tx_of e6)
  refine q_when (et_eqI (e_var rfl (Tp.int (k5 : Int))) e_int) (fun _ H7 e7 => ?_) fun _ H7 e7 => ?_
  · have c7 := c6.same e7
    have s7 := s6.same e7
    refine m_asg (m_op (m_c (m_call rfl s7 (ea_cons (E.o e_int) ea_nil) ⟨30, rfl, by decide, by decide, rfl⟩ fun H8 v8 H9 e8 c9 s9 ⟨k9, hk9, ev9⟩ => ?_)))
    subst ev9
    refine ⟨12, (k9 : Int), rfl, rfl, ?_⟩
    have c79 := c7.trans c9
    refine q_asg (e_lst (ds := []) ea_nil) fun v10 HA eA hv10 => ?_
    obtain ⟨l, rfl, hl0, hl⟩ := hv10
    have hlsb := s9.ne hl0
    have hl3 := free_back c79 s9.all hl0
    refine q_rng1 (n := 2) (ea_cons (E.o e_int) ea_nil) (by decide) fun HB eB => ?_
    refine ⟨fun i σ' H' => ∃ v7 v8 v9 v10 ds, σ' = [some (.ref sp), some (.int (k : Int)), some (.ref sb), some v2, some (.int (k5 : Int)), some (.int (12 + (k9 : Int))), some (.ref l), v7, v8, v9, v10] ∧ Ch [sb] H3 H' ∧ SS sb H' ∧ Ls H' l (ds.map eD) ∧ ds.length = i ∧ ∀ d ∈ ds, FD d, ⟨_, _, _, _, [], rfl, (c79.same eA).same eB, (s9.same eA).same eB, hl.mono eB, rfl, fun _ h => (List.not_mem_nil h).elim⟩, ?_, ?_⟩
    · rintro i σ' H' hi ⟨v7, v8, v9, v10, ds, rfl, c, s', hl', hdl, hds⟩
      obtain ⟨ws, w1, w2⟩ := hl'
      have em : (12 : Int) + (k9 : Int) - 5 * (i : Int) = ((12 + k9 - 5 * i : Nat) : Int) := by omega
      refine m_app rfl w1 (m_cb (m_cons (m_lcL (m_call rfl s' (ea_cons (E.o (e_opI (e_var rfl (Tp.int (12 + (k9 : Int)))) (e_opIC e_int (e_var rfl (Tp.int (i : Int))) (wide_mul (a := 10) (b := 10) (by decide) (by omega) (by decide) (by decide) (by decide))))) ea_nil) ⟨12 + k9 - 5 * i, by rw [em], by omega, rfl⟩ fun Ha va Hb ea cb sb' ⟨pl, ns', ev, hpl0, hpl, hpm⟩ => ?_))))
      subst ev
      have hplsb : pl ≠ sb := (s'.same ea).ne hpl0
      have hplH := free_back ((Ch.refl H').same ea : Ch [sb] H' Ha) (s'.same ea).all hpl0
      have hpl1 := ints_ls hpl
      refine ⟨pl, rfl, ⟨_, SqL.of hpl1⟩, fun Dl hD => ?_⟩
      have hDsb := sb'.ne hD
      have hDl : Dl ≠ l := fun z => by
        have := cb.2 _ _ w1 (n1 hlsb)
        rw [z, this] at hD
        cases hD
      have eDl : Same Hb (upd Hb Dl (.lst [])) := same_new hD
      have hnl : ns'.length ≤ 60 := by rw [hpm.length_eq, up_len]; omega
      refine lc_list (xs := ns'.map V.int) (fun j H' => ∃ ts : List Node, Ch [sb] Hb H' ∧ SS sb H' ∧ Ls H' Dl (ts.map eN) ∧ ids ts = ns'.take j ∧ GD 5 ts) ⟨[], Ch.of eDl, sb'.same eDl, ⟨[], upd_same, .nil⟩, ids_nil, gd_nil _⟩ (fun j H' _ ⟨_, c', _⟩ => SqL.of (c'.2 _ _ hpl1 (n1 hplsb))) (fun j x H' hx ⟨ts, c', s'', hlt, hids, hgt⟩ => ?_) fun Hc ⟨ts, c', s'', hlt, hids, hgt⟩ => ?_
      · rw [List.getElem?_map] at hx
        cases ex : ns'[j]? with
        | none => rw [ex] at hx; cases hx
        | some y =>
          rw [ex] at hx
          obtain rfl : V.int y = x := Option.some.inj hx
          refine ⟨rfl, ?_⟩
          refine m_yes ?_
          rw [if_pos rfl]
          refine m_tup (m_cons (m_c (m_cons (m_var rfl (m_cons (m_call rfl s'' ea_nil ⟨rfl, rfl⟩ fun Hd vw He ed ce se ⟨wd', hwd, ew⟩ => m_nil ⟨sz_c rfl, fun p hpn => ?_⟩))))))
          subst ew
          obtain ⟨e5, hp5⟩ := tup_new (ds := [.str "text", .int y, .str wd']) (.cons (.str _) (.cons (.int y) (.cons (.str wd') .nil))) hpn
          rw [← eN_text] at hp5
          obtain ⟨acc, a1, a2⟩ := (ce.ls (n1 hDsb) hlt).mono e5
          have c5' : Ch [sb] Hb _ := (c'.trans ce).same e5
          have ca := Ch.upd (ys := acc ++ [V.ref p]) a1
          have htl : ts.length ≤ 60 := by
            have h1 := len_ids ts
            rw [hids, List.length_take] at h1
            omega
          refine ⟨acc, a1, by rw [a2.length, List.length_map]; exact sz_lt (by omega), ts ++ [.text y wd'], c5'.step ca fun b hb => .inr (List.mem_singleton.mp hb ▸ hD), (se.same e5).ch ca (n1 hDsb.symm), ⟨_, upd_same, ?_⟩, ?_, ?_⟩
          · rw [List.map_append]
            exact (a2.append (.one hp5)).mono ca.1
          · rw [ids_append, hids, List.take_add_one, ex, ids_one]
            simp [idsN]
          · refine gd_all.mpr fun z hz => ?_
            rcases List.mem_append.mp hz with hz | hz
            · exact gd_all.mp hgt z hz
            · rw [List.mem_singleton.mp hz]; exact gd_text hwd
      · rw [List.length_map, List.take_length] at hids
        obtain ⟨ts', t1, t2⟩ := hlt
        refine m_nil ⟨Dl, ts', rfl, .inl ⟨SqL.of t1, fun qa hqa => ?_⟩⟩
        obtain ⟨e5, hp5⟩ := tup_new t2 hqa
        have cc : Ch [sb] H' _ := (cb.trans c').same e5
        have hl5 := cc.ls (n1 hlsb) ⟨ws, w1, w2⟩
        refine app_fin hl5 (by rw [List.length_map]; omega) (d := eD ts) hp5 fun Hf wf cf hlf => ?_
        refine ⟨_, _, _, _, ds ++ [ts], rfl, (c.trans cc).step cf fun b hb => .inr (List.mem_singleton.mp hb ▸ hl3), (s''.same e5).ch cf (n1 hlsb.symm), by rw [List.map_append]; exact hlf, by rw [List.length_append, hdl]; rfl, fun z hz => ?_⟩
        rcases List.mem_append.mp hz with hz | hz
        · exact hds z hz
        · rw [List.mem_singleton.mp hz]
          refine fd_of (rest := []) (L := up (12 + k9 - 5 * i)) (by rw [List.append_nil, hids]; exact hpm) (up_nodup _) (fun i hi => (up_mem hi).1) (by rw [up_len]; omega) hgt (by decide)
    · rintro σ' H' ⟨v7, v8, v9, v10, ds, rfl, c, s', hl', hdl, hds⟩
      obtain ⟨a, b, rfl⟩ : ∃ a b, ds = [a, b] := by
        match ds, hdl with
        | [a, b], _ => exact ⟨a, b, rfl⟩
      exact s_ret (e_tup (ds := [eD a, eD b]) (ea_cons (E.o (e_ixL 0 (eo_lst rfl hl') e_int rfl)) (ea_cons (E.o (e_ixL 1 (eo_lst rfl hl') e_int rfl)) ea_nil))) fun v HD eD' hv => q v HD a b (((c.same eD').back (e2.trans e3)) hsbH) (hds a (by simp)) (hds b (by simp)) hv
  · have c7 := c6.same e7
    have s7 := s6.same e7
    have hold7 := hold6.mono (tx_of e7)
    obtain ⟨hg5, rest, hpo⟩ := hgo
    have hol : (ids old).length ≤ 18 := by
      have := hpo.length_eq
      rw [List.length_append, up_len] at this
      omega
    refine m_asg (m_call rfl s7 (ea_cons (E.o (e_var rfl hold7)) (ea_cons (E.o e_int) ea_nil)) ⟨old, 1, 5, Nat.le_refl _, rfl, hg5, by omega, rfl⟩ fun H8 v8 H9 e8 c9 s9 ⟨d1, r1, hp1, hg1, hv1⟩ => ?_)
    have hl1 : (ids d1).length ≤ 18 := by
      have := hp1.length_eq
      rw [List.length_append] at this
      omega
    refine m_asg (m_call rfl s9 (ea_cons (E.o (e_var rfl hv1)) (ea_cons (E.o e_int) ea_nil)) ⟨d1, 40, 5, by decide, rfl, hg1, by have := len_ids d1; omega, rfl⟩ fun HA vA HB eA cB sB ⟨d2, r2, hp2, hg2, hv2⟩ => ?_)
    have c7B := (c7.trans c9).trans cB
    have hold8 := hold3.mono c7B.1
    have hq2 : (ids d2 ++ (r2 ++ (r1 ++ rest))).Perm (up 18 ++ six 40) := by
      rw [← List.append_assoc]
      refine (hp2.append_right _).trans ?_
      rw [List.append_assoc]
      refine (List.Perm.append_left _ List.perm_append_comm).trans ?_
      rw [← List.append_assoc, ← List.append_assoc]
      exact ((hp1.append_right _).trans hpo).append_right _
    have hfd2 : FD d2 := by
      refine fd_of (rest := (r2 ++ (r1 ++ rest)) ++ six 60) (L := up 18 ++ six 40 ++ six 60) ?_ big_ok.1 big_ok.2.1 big_ok.2.2 hg2 (by decide)
      rw [← List.append_assoc]
      exact hq2.append_right _
    cases d2 with
    | nil =>
      refine q_when (ET.is (et_and (b' := false) (et_cmpI (e_lenT (e_var rfl hv2)) e_int) fun z => absurd z (by decide)) (by rfl)) (fun z => absurd z (by decide)) fun _ HC eC => ?_
      exact pair_ret rfl rfl (hold8.mono (tx_of eC)) (hv2.mono (tx_of eC)) fun v HD eD' hv => q v HD old [] ((((c7B.same eC).same eD').back (e2.trans e3)) hsbH) (fd_g5 ⟨hg5, rest, hpo⟩) hfd2 hv
    | cons x r =>
      have hlen : decide ((0 : Int) < (((x :: r).map eN).length : Nat)) = true := decide_eq_true (by rw [List.length_map, List.length_cons]; omega)
      cases x with
      | text i s =>
        refine q_when (ET.is (et_and (et_cmpI (e_lenT (e_var rfl hv2)) e_int) fun _ => et_eqS (e_ixT 0 (e_ixT 0 (e_var rfl hv2) e_int (by rw [List.map_cons, eN_text]; rfl)) e_int rfl) e_str) (by rw [hlen]; decide +kernel : _ = false)) (fun z => absurd z (by decide)) fun _ HC eC => ?_
        exact pair_ret rfl rfl (hold8.mono (tx_of eC)) (hv2.mono (tx_of eC)) fun v HD eD' hv => q v HD old _ ((((c7B.same eC).same eD').back (e2.trans e3)) hsbH) (fd_g5 ⟨hg5, rest, hpo⟩) hfd2 hv
      | elem i t a kk =>
        refine q_when (ET.is (et_and (et_cmpI (e_lenT (e_var rfl hv2)) e_int) fun _ => et_eqS (e_ixT 0 (e_ixT 0 (e_var rfl hv2) e_int (by rw [List.map_cons, eN_elem]; rfl)) e_int rfl) e_str) (by rw [hlen]; decide +kernel : _ = true)) (fun _ HC eC => ?_) (fun z => absurd z (by decide))
        have c7C := c7B.same eC
        have sC := sB.same eC
        obtain ⟨ht, ha, hgk⟩ := gd_elem_inv (gd_all.mp hg2 _ (List.mem_cons_self))
        have hkl : (ids kk).length ≤ 1000 := by
          have := hq2.length_eq
          rw [ids_cons] at this
          simp only [idsN, List.length_append, List.length_cons, up_len, six, List.length_map, List.length_range] at this
          omega
        refine q_asg (e_ixT 0 (e_var rfl (hv2.mono (tx_of eC))) e_int (x := eN (.elem i t a kk)) rfl) fun v9 HD eD' hv9 => ?_
        have hv9 : Tp HD v9 (eN (.elem i t a kk)) := hv9
        rw [eN_elem] at hv9
        refine m_asg1 (m_op (m_tup (m_cons (m_tup (m_cons (m_c (m_cons (m_e (e_ixT 1 (e_var rfl hv9) e_int rfl) fun w1 G1 f1 hw1 => m_cons (m_e (e_ixT 2 (e_var rfl (hv9.mono (tx_of f1))) e_int rfl) fun w2 G2 f2 hw2' => m_cons (m_e (e_ixT 3 (e_var rfl (hv9.mono (tx_of (f1.trans f2)))) e_int rfl) fun w3 G3 f3 hw3 => m_cons (m_call rfl ((sC.same eD').same ((f1.trans f2).trans f3)) (ea_cons (E.o (e_ixT 4 (e_var rfl (hv9.mono (tx_of ((f1.trans f2).trans f3)))) e_int rfl)) (ea_cons (E.o e_int) ea_nil)) ⟨kk, 60, 4, by decide, rfl, hgk, by have := len_ids kk; omega, rfl⟩ fun G4 w4 G5' f4 c4 s4 ⟨k2, r3, hp3, hg3, hw4⟩ => m_nil ⟨sz_c rfl, fun p hpn => m_nil ⟨sz_c rfl, fun p2 hpn2 => ?_⟩⟩)))))))))))
        obtain rfl := Tp.int_inv hw1
        obtain ⟨e5, hp5⟩ := tup_new (ds := [.str "element", .int i, .str t, .tuple (a.map eP), eD k2]) (.cons (.str _) (.cons (.int i) (.cons (Tp.mono ((tx_of f3).trans c4.1) hw2') (.cons (Tp.mono c4.1 hw3) (.cons hw4 .nil))))) hpn
        rw [← eN_elem] at hp5
        obtain ⟨e6', hp6⟩ := tup_new (ds := [eN (.elem i t a k2)]) (.cons hp5 .nil) hpn2
        have cD : Ch [sb] HC _ := (((((Ch.of (A := [sb]) eD').same ((f1.trans f2).trans f3)).trans c4).same e5).same e6')
        have hv8 := (hv2.mono (tx_of eC)).mono cD.1
        refine m_e (e_slT (e_var rfl hv8) (eo_part (i := ((1 : Nat) : Int)) e_int) eo_no) fun w8 G8 f8 hw8 => cat_fin (Tp.mono (tx_of f8) hp6) hw8 ?_ fun u9 G9 f9 hu9 => ?_
        · rw [cutD_from]
          simp only [List.length_cons, List.length_nil, List.length_map, List.map_cons, List.drop_succ_cons, List.drop_zero]
          have := len_ids (Node.elem i t a kk :: r)
          have h2 := hq2.length_eq
          simp only [List.length_append, up_len, six, List.length_map, List.length_range, List.length_cons] at this h2
          omega
        · rw [cutD_from] at hu9
          have hu9 : Tp G9 u9 (eD (.elem i t a k2 :: r)) := hu9
          have call : Ch [sb] H3 G9 := ((c7C.trans cD).same f8).same f9
          refine pair_ret rfl rfl (hold3.mono call.1) hu9 fun v HE eE hv => q v HE old _ ((((call.same eE)).back (e2.trans e3)) hsbH) (fd_g5 ⟨hg5, rest, hpo⟩) ?_ hv
          refine fd_of (n := 5) (rest := r3 ++ (r2 ++ (r1 ++ rest))) (L := up 18 ++ six 40 ++ six 60) ?_ big_ok.1 big_ok.2.1 big_ok.2.2 (gd_all.mpr fun y hy => ?_) (by decide)
          · refine List.perm_iff_count.mpr fun z => ?_
            have h1 := hp3.count_eq z
            have h2 := hq2.count_eq z
            rw [ids_cons] at h2 ⊢
            simp only [idsN, List.count_append, List.count_cons] at h1 h2 ⊢
            omega
          · rcases List.mem_cons.mp hy with e | hy
            · rw [e]; exact gd_elem ht ha hg3
            · exact gd_all.mp hg2 y (List.mem_cons_of_mem _ hy)
end
end VL

namespace VL
open PySem L2
/-! ### what the law asks of a pair, in plain data -/
def InN (x : Node) (new : List Node) : Prop := (idsN x).length ≤ (ids new).length ∧ ∀ m, Lv m new → Lv m [x]
theorem InN.of_mem {x : Node} {new : List Node} (h : x ∈ new) : InN x new := by
  refine ⟨?_, fun m hm => hm.sub fun y hy => by rw [List.mem_singleton.mp hy]; exact h⟩
  have := (ids_sub (List.singleton_sublist.mpr h)).length_le
  rwa [ids_one] at this
theorem InN.kids {x m : Node} {new : List Node} (hm : m ∈ new) (h : InN x m.kids) : InN x new := by
  obtain ⟨h1, h2⟩ := h
  have h3 := (InN.of_mem hm).1
  rw [idsN_eq, List.length_cons] at h3
  refine ⟨by omega, fun n hn => ?_⟩
  obtain ⟨k, rfl, hk⟩ := hn.mem hm
  exact (h2 k hk).mono (by omega)
theorem chg_in : ∀ (part new : List Node) (q : Int) (x : Node) (a : Option Int), Op.insert q x a ∈ chgL new part → InN x new := by
  intro part
  induction part using forest with
  | nil => intro new q x a h; rw [chgL_nil] at h; cases h
  | cons n' r' g1 g2 =>
    intro new q x a h
    rw [chgL_cons, chgN_eq, List.mem_append] at h
    rcases h with h | h
    · cases e' : partner new n' with
      | none => rw [e'] at h; cases h
      | some m' =>
        rw [e'] at h
        rcases List.mem_append.mp h with h | h
        · exact absurd rfl ((own_no n' m' _ h).2 q x a)
        · cases n' with
          | text => cases h
          | elem i' t' b' k' =>
            refine InN.kids (partner_mem e').1 ?_
            rcases List.mem_append.mp h with h | h
            · exact g1 m'.kids q x a h
            · have := ((placeGo_mem _ _ _ _ _ _ h).2 q x a rfl).1
              exact InN.of_mem (by simpa using this)
    · exact g2 new q x a h
theorem patch_in {old new : List Node} {q : Int} {x : Node} {a : Option Int} (h : Op.insert q x a ∈ patch old new) : InN x new := by
  unfold patch at h
  rcases List.mem_append.mp h with h | h
  · obtain ⟨p, i, e⟩ := remL_all _ _ _ _ h
    cases e
  · rcases List.mem_append.mp h with h | h
    · exact chg_in _ _ _ _ _ h
    · have := ((placeGo_mem _ _ _ _ _ _ h).2 q x a rfl).1
      exact InN.of_mem (by simpa using this)
theorem depth_all {xs : List PyData} {n : Nat} (h : ∀ x ∈ xs, x.depth ≤ n) : PyData.depthAll xs ≤ n := by
  induction xs with
  | nil => simp [PyData.depthAll]
  | cons x xs ih =>
    rw [PyData.depthAll]
    exact Nat.max_le.mpr ⟨h x (by simp), ih fun y hy => h y (by simp [hy])⟩
theorem depth_eD : ∀ (n : Nat) (d : List Node), Lv n d → (eD d).depth ≤ 2 * n + 2
  | 0, d, h => by
    have e : d = [] := h
    subst e
    simp [PyData.depth, PyData.depthAll]
  | n + 1, d, h => by
    rw [PyData.depth]
    have : PyData.depthAll (d.map eN) ≤ 2 * n + 3 := by
      refine depth_all fun x hx => ?_
      obtain ⟨y, hy, rfl⟩ := List.mem_map.mp hx
      have hk := h y hy
      cases y with
      | text i s =>
        rw [eN_text]
        simp [PyData.depth, PyData.depthAll]
      | elem i t a k =>
        have h1 := depth_eD n k hk
        have h2 : (PyData.tuple (a.map eP)).depth ≤ 2 := by
          rw [PyData.depth]
          have : PyData.depthAll (a.map eP) ≤ 1 := depth_all fun x hx => by
            obtain ⟨p, _, rfl⟩ := List.mem_map.mp hx
            simp [eP, PyData.depth, PyData.depthAll]
          omega
        rw [eN_elem, PyData.depth]
        have : PyData.depthAll [.str "element", .int i, .str t, .tuple (a.map eP), eD k] ≤ 2 * n + 2 := by
          refine depth_all fun x hx => ?_
          simp only [List.mem_cons, List.not_mem_nil, or_false] at hx
          rcases hx with e | e | e | e | e
          · rw [e]; simp [PyData.depth]
          · rw [e]; simp [PyData.depth]
          · rw [e]; simp [PyData.depth]
          · rw [e]; omega
          · rw [e]; exact h1
        omega
    omega
theorem shaped_eD {d : List Node} (h : FD d) : SeqAt.shaped (eD d) = true := by
  unfold SeqAt.shaped
  have h1 := depth_eD 10 d h.1.lv
  have h2 : (eD d).canLay0 = true := by
    have := h.2
    unfold CL at this
    rw [PyData.canLay0]
    exact this
  rw [h2, Bool.true_and]
  exact decide_eq_true (by omega)
theorem wk_of {N A : Nat} {d : List Node} (h : Doc 10 N A d) (hN : N ≤ 10000) (hA : A ≤ 1000) : Wk d := ⟨h.lv.mono (by decide), by have := h.len; omega, At.imp (fun a ⟨_, p⟩ => by show a.length ≤ 1000; omega) _ h.att⟩
theorem chg_len {a b : List Node} (ha : FD a) (hb : FD b) : (changes 0 a b).length ≤ 5000 := by
  have := changes_len (p := 0) (M := 60) ha.1.att hb.1.att hb.1.len ha.1.len
  omega
theorem patch_len {a b : List Node} (ha : FD a) (hb : FD b) : (patch a b).length ≤ 6000 := by
  unfold patch
  rw [List.length_append]
  have h1 := chg_len ha hb
  have h2 := remL_len a b 0
  have h3 := ha.1.len
  omega
theorem al_of {d : List Node} (h : FD d) : At AL d := At.imp (fun a ⟨_, p⟩ => by show a.length ≤ 1000; omega) _ h.1.att
theorem fs_patch {a b : List Node} (ha : FD a) (hb : FD b) : S_patch 40 [.d (eD a), .d (eD b)] (.l ((patch a b).map eOp)) :=
  ⟨a, b, rfl, ha.1.lv.mono (by decide), ha.2, hb.2, al_of ha, al_of hb, by have := ha.1.len; omega, by have := hb.1.len; omega, by have := chg_len ha hb; omega, rfl⟩
theorem ins_len {a b : List Node} (hb : FD b) : ∀ op ∈ patch a b, insLen op := fun op h q x ah e => by
  subst e
  have h1 := (patch_in h).1
  have h2 := hb.1.len
  rw [ids_one]
  omega
theorem steps_of {a b : List Node} (ha : FD a) (hb : FD b) : Steps (Doc 10 120 8) a (patch a b) b := patch_steps ha.1 hb.1 (by decide)
theorem fs_apply {a b : List Node} (ha : FD a) (hb : FD b) : S_apply [.d (eD a), .l ((patch a b).map eOp)] (.d (eD b)) :=
  ⟨a, b, patch a b, rfl, by have := patch_len ha hb; omega, wk_of ha.1 (by decide) (by decide), ins_len hb, Steps.imp (fun d h => wk_of h (by decide) (by decide)) (steps_of ha hb), rfl⟩
theorem fs_careful {a b : List Node} (ha : FD a) (hb : FD b) : S_careful 40 [.d (eD a), .d (eD b), .l ((patch a b).map eOp)] (.b true) := by
  obtain ⟨h1, h2⟩ := patch_careful ha.1.nd hb.1.nd
  exact ⟨a, b, patch a b, rfl, hb.1.lv.mono (by decide), by have := hb.1.len; omega, h1, fun q x ah h => ⟨((patch_in h).2 10 hb.1.lv).mono (by decide), ins_len hb _ h q x ah rfl, h2 q x ah h⟩, rfl⟩
theorem fm_congr {α β : Type} {f g : α → Option β} : ∀ {l : List α}, (∀ x ∈ l, f x = g x) → l.filterMap f = l.filterMap g
  | [], _ => rfl
  | x :: l, h => by rw [List.filterMap_cons, List.filterMap_cons, h x (by simp), fm_congr fun y hy => h y (by simp [hy])]
/-- the removals come first -/
theorem places_of (a b : List Node) : (List.range (patch a b).length).filterMap (fun j : Nat => if ((patch a b)[j]?.map isRem).getD false = true then some (PyData.int (j : Int)) else none) = (List.range (remL 0 b a).length).map fun j : Nat => PyData.int (j : Int) := by
  have e : (patch a b).length = (remL 0 b a).length + (changes 0 a b).length := by unfold patch; rw [List.length_append]
  rw [e, List.range_add, List.filterMap_append]
  have h1 : (List.range (remL 0 b a).length).filterMap (fun j : Nat => if ((patch a b)[j]?.map isRem).getD false = true then some (PyData.int (j : Int)) else none) = (List.range (remL 0 b a).length).map fun j : Nat => PyData.int (j : Int) := by
    rw [← List.filterMap_eq_map]
    refine fm_congr fun j hj => ?_
    have hj := List.mem_range.mp hj
    unfold patch
    rw [List.getElem?_append_left hj, List.getElem?_eq_getElem hj]
    obtain ⟨q, i, e⟩ := remL_all a b 0 _ (List.getElem_mem hj)
    rw [e]
    rfl
  have h2 : ((List.range (changes 0 a b).length).map fun x => (remL 0 b a).length + x).filterMap (fun j : Nat => if ((patch a b)[j]?.map isRem).getD false = true then some (PyData.int (j : Int)) else none) = [] := by
    refine List.filterMap_eq_nil_iff.mpr fun j hj => ?_
    obtain ⟨k, hk, rfl⟩ := List.mem_map.mp hj
    have hk := List.mem_range.mp hk
    unfold patch
    rw [List.getElem?_append_right (by omega), Nat.add_sub_cancel_left, List.getElem?_eq_getElem hk]
    have := changes_no 0 a b _ (List.getElem_mem hk)
    simp [this]
  rw [h1, h2, List.append_nil]
end VL

namespace VL
open PySem L2
section
variable {P : Program} {w : World} {K : PySem.W.Frag} {mg : Str → Option Value} {base : Heap}
variable {σ : L2.St} {H H' : Hp} {ta tb te : TE} {tt tu : TT} {tA : TA} {r r' : Rs} {b b' : Bool} {D : Ends} {t u tz : TS} {g : TG}
theorem m_asgG (h : te σ H fun v H1 => g v σ H1 fun σ2 H2 => tz D σ2 H2) : tSeq (tAsg te g) tz D σ H := h
/-- a, b = a pair -/
theorem g_two {i j : Nat} {v : V} {x y : PyData} {Q : L2.St → Hp → Prop} (h : Tp H v (.tuple [x, y])) (k : ∀ a b, Tp H a x → Tp H b y → Q ((σ.set i (some a)).set j (some b)) H) : gTup K 2 (gCons (gName i) (gCons (gName j) gNil)) v σ H Q := by
  obtain ⟨c, xs, rfl, hc, hx⟩ := Tp.tup_inv h
  obtain - | ⟨ha, - | ⟨hb, - | -⟩⟩ := hx
  exact ⟨c, _, rfl, SqT.of hc, rfl, _, _, rfl, _, _, rfl, rfl, k _ _ ha hb⟩
theorem ne_same {d : PyData} (h : SeqAt.shaped d = true) : (!PyData.eqv d d) = false := by rw [SeqAt.eqv_refl d (SeqAt.canLay_of_shaped h)]; rfl
/-- a def, its function object given -/
theorem fn_mk {x : Str} {st : Stmt} {N ps : List Str} {k : Nat} {sp : Sp} {f : Addr} {fd : FuncData} (F : Fun K x x st f fd) (Sc : FnScope N ps (defScope st)) (len : ∀ vs H Q E, sp vs H Q E → vs.length = ps.length)
    (hbody : ∀ (cdv : Value) (A : Around) (outer : List Env) (s : Shared) (H : Hp) (vs : List V) (Q : VK) (E : XK), Room k (A.deeper (PyProof.Rows.envOfC x (defScope st) s.heap.objs.size f cdv)) → sp vs H Q E →
      ∃ t, PSs (cxOf CX0 P w K mg base N x (defScope st) f cdv A outer s H E).nox (defBody st) t ∧ t { nx := fun _ H' => Q .non H', rt := Q } (start N vs) H) : FnOk P w K mg base CX0 (k + 1) f fd ps sp := F.ok Sc len hbody
/-- the law -/
def P_law (K : PySem.W.Frag) : Sp := fun vs H Q _ => ∃ (a : Addr) (ns : List Int), vs = [.ref a] ∧ SqL K H a (ns.map V.int) ∧ ∀ H', Q (.bl true) H'
theorem ok_law (T : Txt K mg) {f : Addr} {fd : FuncData} (F : Fun K "law" "law" s_law f fd) : FnOk P w K mg base CX0 94 f fd ["_law_script"] (P_law K) := by
  have C__law_pair := c__law_pair (P := P) (w := w) (base := base) T
  have C_patch := c_patch (P := P) (w := w) (base := base) T 40
  have C_apply_all := c_apply_all (P := P) (w := w) (base := base) T
  have C_apply_operation := c_apply_operation (P := P) (w := w) (base := base) T
  have C_fault_of := c_fault_of (P := P) (w := w) (base := base) T
  have C__law_good := c__law_good (P := P) (w := w) (base := base) T
  have C_is_careful := c_is_careful (P := P) (w := w) (base := base) T 40
  refine fn_mk F sc_law (fun vs H Q E ⟨_, _, e, _⟩ => by rw [e]; rfl) fun cdv A outer s H vs Q Ew hr ⟨sp, ns, e, hsp, q⟩ => ?_
  subst e
  refine ⟨_, (pss_cons (ps_set (i := 1) sc_law.nd rfl (Or.inl rfl) (pe_lst pa_nil))
      (pss_cons (ps_for PassesOwn.never rfl (pi_range1 rfl T.n_range (pa_cons (pe_callB (call_mn rfl) rfl T.n_min bt_min (pa_cons pe_int (pa_cons (pe_callB (call_mx rfl) rfl T.n_max bt_max (pa_cons pe_int (pa_cons (pe_op op_fdiv (pe_callB call_ln rfl T.n_len bt_len (pa_cons (pv 0) pa_nil)) pe_int) pa_nil))) pa_nil))) pa_nil)) (pg_name (i := 2) sc_law.nd rfl (Or.inl rfl)) (pss_cons (ps_asg (pe_cl C__law_pair (hr.mono (by omega)) rfl (pa_cons (pv 0) (pa_cons (pv 2) pa_nil))) (pg_tup rfl (pgs_cons (pg_name (i := 3) sc_law.nd rfl (Or.inl rfl)) (pgs_cons (pg_name (i := 4) sc_law.nd rfl (Or.inl rfl)) pgs_nil))))
      (pss_one (ps_set (i := 1) sc_law.nd rfl (Or.inl rfl) (pe_op op_cat (pv 1) (pe_lst (pa_cons (pv 3) (pa_cons (pv 4) pa_nil))))))))
      (pss_cons (ps_for PassesOwn.never rfl (pi_range1 rfl T.n_range (pa_cons (pe_op op_sub (pe_callB call_ln rfl T.n_len bt_len (pa_cons (pv 1) pa_nil)) pe_int) pa_nil)) (pg_name (i := 2) sc_law.nd rfl (Or.inl rfl)) (pss_cons (ps_set (i := 3) sc_law.nd rfl (Or.inl rfl) (pe_ix ix_list (pv 1) (pv 2) (fun _ _ => rfl)))
      (pss_cons (ps_set (i := 4) sc_law.nd rfl (Or.inl rfl) (pe_ix ix_list (pv 1) (pe_op op_add (pv 2) pe_int) (fun _ _ => rfl)))
      (pss_cons (ps_set (i := 5) sc_law.nd rfl (Or.inr rfl) (pe_cl C_patch (hr.mono (by omega)) rfl (pa_cons (pv 3) (pa_cons (pv 4) pa_nil))))
      (pss_cons (ps_if (PW.pt (pw_or (pt_cmpR (op_neD hr.units) (pe_cl C_apply_all (hr.mono (by omega)) rfl (pa_cons (pv 3) (pa_cons (pv 5) pa_nil))) (pv 4) (nomark _)) (pw_or1 (pt_cmpR (op_neD hr.units) (pe_cl C_apply_all (hr.mono (by omega)) rfl (pa_cons (pv 4) (pa_cons (pe_cl C_patch (hr.mono (by omega)) rfl (pa_cons (pv 4) (pa_cons (pv 3) pa_nil))) pa_nil))) (pv 3) (nomark _))))) (pss_one (ps_ret pe_bl)) pss_nil)
      (pss_cons (ps_set (i := 6) sc_law.nd rfl (Or.inl rfl) (pv 3))
      (pss_cons (ps_for PassesOwn.never rfl (pi_list (pv 5)) (pg_name (i := 7) sc_law.nd rfl (Or.inl rfl)) (pss_cons (ps_if (pt_cmpR op_notN1 (pe_cl C_fault_of (hr.mono (by omega)) rfl (pa_cons (pv 6) (pa_cons (pv 7) pa_nil))) pe_non (nomark _)) (pss_one (ps_ret pe_bl)) pss_nil)
      (pss_cons (ps_set (i := 6) sc_law.nd rfl (Or.inl rfl) (pe_cl C_apply_operation (hr.mono (by omega)) rfl (pa_cons (pv 6) (pa_cons (pv 7) pa_nil))))
      (pss_one (ps_if (pt_not (pt_val (pe_cl C__law_good (hr.mono (by omega)) rfl (pa_cons (pv 6) pa_nil)))) (pss_one (ps_ret pe_bl)) pss_nil)))))
      (pss_cons (ps_if (PW.pt (pw_or (pt_cmpR (op_neD hr.units) (pv 6) (pv 4) (nomark _)) (pw_or1 (pt_not (pt_val (pe_cl C_is_careful (hr.mono (by omega)) rfl (pa_cons (pv 3) (pa_cons (pv 4) (pa_cons (pv 5) pa_nil))))))))) (pss_one (ps_ret pe_bl)) pss_nil)
      (pss_cons (ps_setLc (i := 8) (own := [("_law_j", 9)]) (g := (gName 9)) (tt := (tTest (tOp rEq (tOp (rIxT K) (tOp (rIxL K) (tVar 5) (tVar 9)) (tC _)) (tC _)))) (te := (tVar 9)) rfl sc_law.nd rfl rfl (sw_true rfl rfl rfl (by decide +kernel)) (pi_range1 rfl T.n_range (pa_cons (pe_callB call_ln rfl T.n_len bt_len (pa_cons (pv 5) pa_nil)) pa_nil)) (blkOk_by (own := [("_law_j", 9)]) (N := ["_law_script", "_law_documents", "_law_k", "_law_old", "_law_new", "_law_operations", "_law_document_here", "_law_operation", "_law_places", "_law_j"]) (sc := defScope s_law) (by decide +kernel)) (fun _ _ _ _ _ => (pg_name (i := 9) sc_law.nd rfl (Or.inl rfl))) (fun _ _ _ _ _ => (pts_one (pt_cmpR op_eq (pe_ix ix_tup (pe_ix ix_list (pv 5) (pv 9) (fun _ _ => rfl)) pe_int (fun _ _ => rfl)) pe_str (nomark _)))) (fun _ _ _ _ _ => (pv 9)))
      (pss_one (ps_if (pt_cmpR (op_neD hr.units) (pv 8) (pe_lc (own := [("_law_j", 9)]) (g := (gName 9)) (tt := tYes) (te := (tVar 9)) rfl sc_law.nd (pi_range1 rfl T.n_range (pa_cons (pe_callB call_ln rfl T.n_len bt_len (pa_cons (pv 8) pa_nil)) pa_nil)) (blkOk_by (own := [("_law_j", 9)]) (N := ["_law_script", "_law_documents", "_law_k", "_law_old", "_law_new", "_law_operations", "_law_document_here", "_law_operation", "_law_places", "_law_j"]) (sc := defScope s_law) (by decide +kernel)) (fun _ _ _ _ _ => (pg_name (i := 9) sc_law.nd rfl (Or.inl rfl))) (fun _ _ _ _ _ => pts_nil) (fun _ _ _ _ _ => (pv 9))) (nomark _)) (pss_one (ps_ret pe_bl)) pss_nil)))))))))))
      (pss_one (ps_ret pe_bl))))), ?_⟩
  refine q_new (Same.refl H) fun l H1 e1 hlc => ?_
  have hmx := e_mn (σ := [some (.ref sp), some (.ref l), none, none, none, none, none, none, none, none]) (H := H1) (e_int (i := 8)) (e_mx (e_int (i := 1)) (e_opIC (C := CDiv) (g := fun i j => i / j) (e_lenS (K := K) (i := 0) rfl (e1.seq hsp)) (e_int (i := 2)) ⟨by decide, by decide⟩))
  obtain ⟨n, hn, hn1, hn8⟩ : ∃ n : Nat, (if (if ((((ns.map V.int).length : Nat) : Int) / 2) > 1 then ((((ns.map V.int).length : Nat) : Int) / 2) else 1) < 8 then (if ((((ns.map V.int).length : Nat) : Int) / 2) > 1 then ((((ns.map V.int).length : Nat) : Int) / 2) else 1) else 8) = ((n : Nat) : Int) ∧ 1 ≤ n ∧ n ≤ 8 := by
    generalize ((((ns.map V.int).length : Nat) : Int) / 2) = z
    by_cases h1 : z > 1
    · rw [if_pos h1]
      by_cases h2 : z < 8
      · rw [if_pos h2]; exact ⟨z.toNat, by omega, by omega, by omega⟩
      · rw [if_neg h2]; exact ⟨8, rfl, by decide, by decide⟩
    · rw [if_neg h1, if_pos (by decide)]; exact ⟨1, rfl, by decide, by decide⟩
  refine q_rng1 (n := n) (ea_cons (E.o (E.is hmx (by rw [← hn]))) ea_nil) (by omega) fun H2 e2 => ?_
  refine ⟨fun i σ' H' => ∃ l v2 v3 v4 ds, σ' = [some (.ref sp), some (.ref l), v2, v3, v4, none, none, none, none, none] ∧ Lc H H' l (ds.map eD) ∧ ds.length = 2 * i ∧ ∀ d ∈ ds, FD d, ⟨l, _, _, _, [], rfl, hlc.same e2, rfl, fun _ h => (List.not_mem_nil h).elim⟩, ?_, ?_⟩
  · rintro i σ' H' hi ⟨l, v2, v3, v4, ds, rfl, hlc, hdl, hds⟩
    refine m_asgG (m_cl (m_cons (m_var rfl (m_cons (m_var rfl (m_nil ?_))))))
    refine ⟨sp, ns, i, rfl, hlc.2.1.seq hsp, by omega, fun v H3 a b e3 ha hb hv => ?_⟩
    refine g_two hv fun va vb hva hvb => ?_
    refine s_grow (es := [eD a, eD b]) rfl (hlc.same e3) (E.o (e_lst (ds := [eD a, eD b]) (ea_cons (E.o (e_var rfl hva)) (ea_cons (E.o (e_var rfl hvb)) ea_nil)))) (by rw [List.length_map, hdl]; simp only [List.length_cons, List.length_nil]; omega) fun l' H4 hlc4 e4 => ?_
    refine ⟨l', _, _, _, ds ++ [a, b], rfl, by rw [List.map_append]; exact hlc4, by rw [List.length_append, hdl]; simp only [List.length_cons, List.length_nil]; omega, fun d hd => ?_⟩
    rcases List.mem_append.mp hd with hd | hd
    · exact hds d hd
    · simp only [List.mem_cons, List.not_mem_nil, or_false] at hd
      rcases hd with e | e
      · rw [e]; exact ha
      · rw [e]; exact hb
  rintro σ' H3 ⟨l, v2, v3, v4, ds, rfl, hlc3, hdl, hds⟩
  refine q_rng1 (n := ds.length - 1) (ea_cons (E.o (E.is (e_opI (e_lenL (eo_lst rfl hlc3.2.2)) e_int) (by rw [List.length_map]; congr 2; omega))) ea_nil) (by omega) fun H4 e4 => ?_
  refine ⟨fun i σ' H' => ∃ v2 v3 v4 v5 v6 v7 v8 v9, σ' = [some (.ref sp), some (.ref l), v2, v3, v4, v5, v6, v7, v8, v9] ∧ Lc H H' l (ds.map eD), ⟨_, _, _, _, _, _, _, _, rfl, hlc3.same e4⟩, ?_, ?_⟩
  · rintro k σ' H' hk ⟨v2, v3, v4, v5, v6, v7, v8, v9, rfl, hlc⟩
    have hk0 : k < ds.length := by omega
    have hk1 : k + 1 < ds.length := by omega
    obtain ⟨a, ea⟩ : ∃ a, ds[k]? = some a := ⟨_, List.getElem?_eq_getElem hk0⟩
    obtain ⟨b, eb⟩ : ∃ b, ds[k + 1]? = some b := ⟨_, List.getElem?_eq_getElem hk1⟩
    have ha := hds a (List.mem_of_getElem? ea)
    have hb := hds b (List.mem_of_getElem? eb)
    refine q_asg (e_ixL k (x := eD a) (eo_lst rfl hlc.2.2) (e_var rfl (Tp.int (k : Int))) (by rw [List.getElem?_map, ea]; rfl)) fun va H5 e5 hva => ?_
    refine q_asg (e_ixL (k + 1) (x := eD b) (eo_lst rfl (hlc.2.2.mono e5)) (E.is (e_opI (e_var rfl (Tp.int (k : Int))) e_int) rfl) (by rw [List.getElem?_map, eb]; rfl)) fun vb H6 e6 hvb => ?_
    have hva6 := Tp.mono (tx_of e6) hva
    refine q_asg (e_call (r := .l ((patch a b).map eOp)) (ea_cons (E.o (e_var rfl hva6)) (ea_cons (E.o (e_var rfl hvb)) ea_nil)) (fs_patch ha hb)) fun v5' H7 e7 hv5 => ?_
    obtain ⟨pl, rfl, _, hpl⟩ := hv5
    have hva7 := Tp.mono (tx_of e7) hva6
    have hvb7 := Tp.mono (tx_of e7) hvb
    refine q_when (ET.is (et_or (et_neD (e_call (r := .d (eD b)) (ea_cons (E.o (e_var rfl hva7)) (ea_cons (eo_lst rfl hpl) ea_nil)) (fs_apply ha hb)) (e_var rfl hvb7) (shaped_eD hb) (shaped_eD hb)) fun _ => et_neD (e_call (r := .d (eD a)) (ea_cons (E.o (e_var rfl hvb7)) (ea_cons (E.o (e_call (r := .l ((patch b a).map eOp)) (ea_cons (E.o (e_var rfl hvb7)) (ea_cons (E.o (e_var rfl hva7)) ea_nil)) (fs_patch hb ha))) ea_nil)) (fs_apply hb ha)) (e_var rfl hva7) (shaped_eD ha) (shaped_eD ha)) (by rw [ne_same (shaped_eD ha), ne_same (shaped_eD hb)])) (fun z => absurd z (by decide)) fun _ H8 e8 => ?_
    have hva8 := hva7.mono (tx_of e8)
    have hpl8 := hpl.mono e8
    refine q_asg (e_var rfl hva8) fun v6' H9 e9 hv6 => ?_
    have e59 := (((e5.trans e6).trans e7).trans e8).trans e9
    have hlc9 := hlc.same e59
    have hpl9 := hpl8.mono e9
    have hva9 := hva8.mono (tx_of e9)
    have hvb9 := (hvb7.mono (tx_of e8)).mono (tx_of e9)
    refine q_forLV (H0 := H9) (xs := patch a b) rfl hpl9 (fun done todo σ' H' => ∃ u v7 d, σ' = [some (.ref sp), some (.ref l), some (.int (k : Int)), some va, some vb, some (.ref pl), some u, v7, v8, v9] ∧ Same H9 H' ∧ Tp H' u (eD d) ∧ Steps (Doc 10 120 8) d todo b ∧ Doc 10 120 8 d) ⟨_, _, a, rfl, Same.refl _, hv6, steps_of ha hb, ?_⟩ (fun _ _ _ _ ⟨_, _, _, _, e, _⟩ => ⟨tx_of e, fun vs h => e _ _ h⟩) ?_ ?_
    · exact ⟨ha.1.nd, ha.1.one, by have := ha.1.len; omega, ha.1.lv, At.imp (fun a ⟨p1, p2⟩ => ⟨p1, by omega⟩) _ ha.1.att⟩
    · rintro done op todo uo σ' H' ed ⟨u, v7, d, rfl, e, hu, ⟨hok, hgm, hst⟩, hgd⟩ huo
      have hin : insLen op := ins_len hb op (by rw [ed]; simp)
      refine q_when (ET.is (et_notN (e_call (r := .d .none) (ea_cons (E.o (e_var rfl hu)) (ea_cons (E.o (e_var rfl huo)) ea_nil)) ⟨d, op, rfl, wk_of hgd (by decide) (by decide), hin, hok, rfl⟩)) rfl) (fun z => absurd z (by decide)) fun _ HA eA => ?_
      refine q_asg (e_call (r := .d (eD (made d op))) (ea_cons (E.o (e_var rfl (hu.mono (tx_of eA)))) (ea_cons (E.o (e_var rfl (Tp.mono (tx_of eA) huo))) ea_nil)) ⟨d, op, rfl, wk_of hgd (by decide) (by decide), hin, hok, wk_of hgm (by decide) (by decide), rfl⟩) fun u' HB eB hu' => ?_
      refine s_if (ET.is (et_not (et_B (e_call (r := .b true) (ea_cons (E.o (e_var rfl hu')) ea_nil) ⟨made d op, 120, 8, rfl, ⟨hgm.nd, hgm.one, hgm.len, hgm.lv.mono (by decide), hgm.att⟩, by decide, by decide, rfl⟩))) rfl) (fun z => absurd z (by decide)) fun _ HC eC => ?_
      exact ⟨u', _, made d op, rfl, ((e.trans eA).trans eB).trans eC, Tp.mono (tx_of eC) hu', hst, hgm⟩
    · rintro σ' H' ⟨u, v7, d, rfl, e, hu, hst, _⟩
      have hdb : d = b := hst
      subst hdb
      have hva' := hva9.mono (tx_of e)
      have hvb' := hvb9.mono (tx_of e)
      have hpl' := hpl9.mono e
      refine q_when (ET.is (et_or (et_neD (e_var rfl hu) (e_var rfl hvb') (shaped_eD hb) (shaped_eD hb)) fun _ => et_not (et_B (e_call (r := .b true) (ea_cons (E.o (e_var rfl hva')) (ea_cons (E.o (e_var rfl hvb')) (ea_cons (eo_lst rfl hpl') ea_nil))) (fs_careful ha hb)))) (by rw [ne_same (shaped_eD hb)])) (fun z => absurd z (by decide)) fun _ HA eA => ?_
      have hplA := hpl'.mono eA
      have hpn := patch_len ha hb
      refine q_asg (e_lcR (n := (patch a d).length) (fun j : Nat => if ((patch a d)[j]?.map isRem).getD false = true then some (PyData.int (j : Int)) else none) (ea_cons (E.o (E.is (e_lenL (eo_lst rfl hplA)) (by rw [List.length_map]))) ea_nil) (by omega) fun j hj H2' e2' Q' k' => k' _ H2' (Same.refl H2') rfl ?_) fun v8' HB eB hv8 => ?_
      · obtain ⟨op, eop⟩ : ∃ op, (patch a d)[j]? = some op := ⟨_, List.getElem?_eq_getElem hj⟩
        obtain ⟨y, hy, hy0⟩ := eOp_get op
        refine ⟨isRem op, ET.is (et_eqS (e_ixT 0 (e_ixL j (eo_lst rfl (hplA.mono e2')) (e_var rfl (Tp.int (j : Int))) (by rw [List.getElem?_map, eop, ← hy]; rfl)) e_int hy0) e_str) (opW_rem op), ?_⟩
        rw [eop]
        cases hrm : isRem op with
        | true =>
          rw [if_pos rfl]
          refine ⟨.int (j : Int), ?_, e_var rfl (Tp.int (j : Int))⟩
          simp [hrm]
        | false =>
          rw [if_neg Bool.false_ne_true]
          simp [hrm]
      rw [places_of] at hv8
      obtain ⟨p8, rfl, _, hl8⟩ := hv8
      have hm : (remL 0 d a).length ≤ 60 := by
        have h1 := remL_len a d 0
        have h2 := ha.1.len
        omega
      have hints : (List.range (remL 0 d a).length).map (fun j : Nat => PyData.int (j : Int)) = eI ((List.range (remL 0 d a).length).map fun j : Nat => (j : Int)) := by show _ = List.map _ (List.map _ _); rw [List.map_map]; rfl
      refine s_if (ET.is (b' := false) (et_neL (eo_lst rfl hl8) (E.o (e_lcR (n := (remL 0 d a).length) (fun j : Nat => some (PyData.int (j : Int))) (ea_cons (E.o (E.is (e_lenL (eo_lst rfl hl8)) (by rw [List.length_map, List.length_range]))) ea_nil) (by omega) fun j hj H2' e2' Q' k' => k' _ H2' (Same.refl H2') rfl ⟨true, et_yes, .int (j : Int), rfl, e_var rfl (Tp.int (j : Int))⟩)) (by rw [hints]; exact shaped_ints _) (by rw [filterMap_some, hints]; exact shaped_ints _)) (by rw [filterMap_some, hints, ne_same (shaped_ints _)])) (fun z => absurd z (by decide)) fun _ HC eC => ?_
      exact ⟨_, _, _, _, _, _, _, _, rfl, hlc9.same (((e.trans eA).trans eB).trans eC)⟩
  · rintro σ' H' ⟨v2, v3, v4, v5, v6, v7, v8, v9, rfl, hlc⟩
    exact s_ret e_bl fun v H7 e7 hv => by
      have hv : v = .bl true := hv
      rw [hv]
      exact q H7
end
end VL

namespace VL
open PySem L2
/-! ### the top: each def stands there as the text says -/
theorem dn_mk {K : PySem.W.Frag} {h : Heap} {mg : Str → Option Value} (X : K.In h) (G : h.Ns mainGlobals mg) {x : Str} {st : Stmt} {ps : List Str} {f : Addr} {oc kV dc pm cd ct : Value} {od an : Option Addr} {sl : Array (Option Value)}
    (a : PySem.W.nsIn K mainGlobals x = some (some (.ref f))) (l : K.lookup f = some ⟨oc, od, .func (PySem.W.fnOf x x (defArgs st) (defBody st) (defScope st) .none kV dc pm an cd ct), sl⟩) (c : PySem.W.codeIn K cd x = true) (k : PySem.W.keepIn K (.ref f) = true)
    (hb : ∀ (kV doc pm : Value) (an : Option Addr) (cdv ct : Value) (us : List Value), us.length = ps.length → bindArgs (PySem.W.fnOf x x (defArgs st) (defBody st) (defScope st) .none kV doc pm an cdv ct) ⟨us, []⟩ = pure (ps.zip us)) : Dn K mg x st ps := by
  have F := fun_mk (st := st) l c k
  exact ⟨f, _, PySem.W.mg_of X G a, F, F.binds hb⟩

theorem b_kids_in : ∀ (kV doc pm : Value) (an : Option Addr) (cdv ct : Value) (us : List Value), us.length = [("node" : Str)].length → bindArgs (PySem.W.fnOf "kids_in" "kids_in" (defArgs s_kids_in) (defBody s_kids_in) (defScope s_kids_in) .none kV doc pm an cdv ct) ⟨us, []⟩ = pure ((["node"] : List Str).zip us) :=
  fun _ _ _ _ _ _ us hl => match us, hl with | [_], _ => rfl
theorem b_fits_levels : ∀ (kV doc pm : Value) (an : Option Addr) (cdv ct : Value) (us : List Value), us.length = [("nodes" : Str), ("levels" : Str)].length → bindArgs (PySem.W.fnOf "fits_levels" "fits_levels" (defArgs s_fits_levels) (defBody s_fits_levels) (defScope s_fits_levels) .none kV doc pm an cdv ct) ⟨us, []⟩ = pure ((["nodes", "levels"] : List Str).zip us) :=
  fun _ _ _ _ _ _ us hl => match us, hl with | [_, _], _ => rfl
theorem b_ids_of : ∀ (kV doc pm : Value) (an : Option Addr) (cdv ct : Value) (us : List Value), us.length = [("document" : Str)].length → bindArgs (PySem.W.fnOf "ids_of" "ids_of" (defArgs s_ids_of) (defBody s_ids_of) (defScope s_ids_of) .none kV doc pm an cdv ct) ⟨us, []⟩ = pure ((["document"] : List Str).zip us) :=
  fun _ _ _ _ _ _ us hl => match us, hl with | [_], _ => rfl
theorem b_find_node : ∀ (kV doc pm : Value) (an : Option Addr) (cdv ct : Value) (us : List Value), us.length = [("document" : Str), ("number" : Str)].length → bindArgs (PySem.W.fnOf "find_node" "find_node" (defArgs s_find_node) (defBody s_find_node) (defScope s_find_node) .none kV doc pm an cdv ct) ⟨us, []⟩ = pure ((["document", "number"] : List Str).zip us) :=
  fun _ _ _ _ _ _ us hl => match us, hl with | [_, _], _ => rfl
theorem b_kids_of : ∀ (kV doc pm : Value) (an : Option Addr) (cdv ct : Value) (us : List Value), us.length = [("document" : Str), ("parent" : Str)].length → bindArgs (PySem.W.fnOf "kids_of" "kids_of" (defArgs s_kids_of) (defBody s_kids_of) (defScope s_kids_of) .none kV doc pm an cdv ct) ⟨us, []⟩ = pure ((["document", "parent"] : List Str).zip us) :=
  fun _ _ _ _ _ _ us hl => match us, hl with | [_, _], _ => rfl
theorem b_level_of : ∀ (kV doc pm : Value) (an : Option Addr) (cdv ct : Value) (us : List Value), us.length = [("document" : Str), ("number" : Str)].length → bindArgs (PySem.W.fnOf "level_of" "level_of" (defArgs s_level_of) (defBody s_level_of) (defScope s_level_of) .none kV doc pm an cdv ct) ⟨us, []⟩ = pure ((["document", "number"] : List Str).zip us) :=
  fun _ _ _ _ _ _ us hl => match us, hl with | [_, _], _ => rfl
theorem b_lengths_from : ∀ (kV doc pm : Value) (an : Option Addr) (cdv ct : Value) (us : List Value), us.length = [("numbers" : Str)].length → bindArgs (PySem.W.fnOf "lengths_from" "lengths_from" (defArgs s_lengths_from) (defBody s_lengths_from) (defScope s_lengths_from) .none kV doc pm an cdv ct) ⟨us, []⟩ = pure ((["numbers"] : List Str).zip us) :=
  fun _ _ _ _ _ _ us hl => match us, hl with | [_], _ => rfl
theorem b_best_row : ∀ (kV doc pm : Value) (an : Option Addr) (cdv ct : Value) (us : List Value), us.length = [("numbers" : Str)].length → bindArgs (PySem.W.fnOf "best_row" "best_row" (defArgs s_best_row) (defBody s_best_row) (defScope s_best_row) .none kV doc pm an cdv ct) ⟨us, []⟩ = pure ((["numbers"] : List Str).zip us) :=
  fun _ _ _ _ _ _ us hl => match us, hl with | [_], _ => rfl
theorem b_partner_in : ∀ (kV doc pm : Value) (an : Option Addr) (cdv ct : Value) (us : List Value), us.length = [("kids" : Str), ("node" : Str)].length → bindArgs (PySem.W.fnOf "partner_in" "partner_in" (defArgs s_partner_in) (defBody s_partner_in) (defScope s_partner_in) .none kV doc pm an cdv ct) ⟨us, []⟩ = pure ((["kids", "node"] : List Str).zip us) :=
  fun _ _ _ _ _ _ us hl => match us, hl with | [_, _], _ => rfl
theorem b_kept_ids : ∀ (kV doc pm : Value) (an : Option Addr) (cdv ct : Value) (us : List Value), us.length = [("old" : Str), ("new" : Str)].length → bindArgs (PySem.W.fnOf "kept_ids" "kept_ids" (defArgs s_kept_ids) (defBody s_kept_ids) (defScope s_kept_ids) .none kV doc pm an cdv ct) ⟨us, []⟩ = pure ((["old", "new"] : List Str).zip us) :=
  fun _ _ _ _ _ _ us hl => match us, hl with | [_, _], _ => rfl
theorem b_removals : ∀ (kV doc pm : Value) (an : Option Addr) (cdv ct : Value) (us : List Value), us.length = [("parent" : Str), ("old" : Str), ("new" : Str)].length → bindArgs (PySem.W.fnOf "removals" "removals" (defArgs s_removals) (defBody s_removals) (defScope s_removals) .none kV doc pm an cdv ct) ⟨us, []⟩ = pure ((["parent", "old", "new"] : List Str).zip us) :=
  fun _ _ _ _ _ _ us hl => match us, hl with | [_, _, _], _ => rfl
theorem b_own_changes : ∀ (kV doc pm : Value) (an : Option Addr) (cdv ct : Value) (us : List Value), us.length = [("old" : Str), ("new" : Str)].length → bindArgs (PySem.W.fnOf "own_changes" "own_changes" (defArgs s_own_changes) (defBody s_own_changes) (defScope s_own_changes) .none kV doc pm an cdv ct) ⟨us, []⟩ = pure ((["old", "new"] : List Str).zip us) :=
  fun _ _ _ _ _ _ us hl => match us, hl with | [_, _], _ => rfl
theorem b_placings : ∀ (kV doc pm : Value) (an : Option Addr) (cdv ct : Value) (us : List Value), us.length = [("parent" : Str), ("old" : Str), ("new" : Str)].length → bindArgs (PySem.W.fnOf "placings" "placings" (defArgs s_placings) (defBody s_placings) (defScope s_placings) .none kV doc pm an cdv ct) ⟨us, []⟩ = pure ((["parent", "old", "new"] : List Str).zip us) :=
  fun _ _ _ _ _ _ us hl => match us, hl with | [_, _, _], _ => rfl
theorem b_changes : ∀ (kV doc pm : Value) (an : Option Addr) (cdv ct : Value) (us : List Value), us.length = [("parent" : Str), ("old" : Str), ("new" : Str)].length → bindArgs (PySem.W.fnOf "changes" "changes" (defArgs s_changes) (defBody s_changes) (defScope s_changes) .none kV doc pm an cdv ct) ⟨us, []⟩ = pure ((["parent", "old", "new"] : List Str).zip us) :=
  fun _ _ _ _ _ _ us hl => match us, hl with | [_, _, _], _ => rfl
theorem b_patch : ∀ (kV doc pm : Value) (an : Option Addr) (cdv ct : Value) (us : List Value), us.length = [("old" : Str), ("new" : Str)].length → bindArgs (PySem.W.fnOf "patch" "patch" (defArgs s_patch) (defBody s_patch) (defScope s_patch) .none kV doc pm an cdv ct) ⟨us, []⟩ = pure ((["old", "new"] : List Str).zip us) :=
  fun _ _ _ _ _ _ us hl => match us, hl with | [_, _], _ => rfl
theorem b_is_careful : ∀ (kV doc pm : Value) (an : Option Addr) (cdv ct : Value) (us : List Value), us.length = [("old" : Str), ("new" : Str), ("operations" : Str)].length → bindArgs (PySem.W.fnOf "is_careful" "is_careful" (defArgs s_is_careful) (defBody s_is_careful) (defScope s_is_careful) .none kV doc pm an cdv ct) ⟨us, []⟩ = pure ((["old", "new", "operations"] : List Str).zip us) :=
  fun _ _ _ _ _ _ us hl => match us, hl with | [_, _, _], _ => rfl
theorem b_is_kid : ∀ (kV doc pm : Value) (an : Option Addr) (cdv ct : Value) (us : List Value), us.length = [("kids" : Str), ("number" : Str)].length → bindArgs (PySem.W.fnOf "is_kid" "is_kid" (defArgs s_is_kid) (defBody s_is_kid) (defScope s_is_kid) .none kV doc pm an cdv ct) ⟨us, []⟩ = pure ((["kids", "number"] : List Str).zip us) :=
  fun _ _ _ _ _ _ us hl => match us, hl with | [_, _], _ => rfl
theorem b_insert_fault : ∀ (kV doc pm : Value) (an : Option Addr) (cdv ct : Value) (us : List Value), us.length = [("document" : Str), ("parent" : Str), ("node" : Str), ("ahead" : Str)].length → bindArgs (PySem.W.fnOf "insert_fault" "insert_fault" (defArgs s_insert_fault) (defBody s_insert_fault) (defScope s_insert_fault) .none kV doc pm an cdv ct) ⟨us, []⟩ = pure ((["document", "parent", "node", "ahead"] : List Str).zip us) :=
  fun _ _ _ _ _ _ us hl => match us, hl with | [_, _, _, _], _ => rfl
theorem b_kid_fault : ∀ (kV doc pm : Value) (an : Option Addr) (cdv ct : Value) (us : List Value), us.length = [("document" : Str), ("operation" : Str)].length → bindArgs (PySem.W.fnOf "kid_fault" "kid_fault" (defArgs s_kid_fault) (defBody s_kid_fault) (defScope s_kid_fault) .none kV doc pm an cdv ct) ⟨us, []⟩ = pure ((["document", "operation"] : List Str).zip us) :=
  fun _ _ _ _ _ _ us hl => match us, hl with | [_, _], _ => rfl
theorem b_attribute_fault : ∀ (kV doc pm : Value) (an : Option Addr) (cdv ct : Value) (us : List Value), us.length = [("document" : Str), ("operation" : Str)].length → bindArgs (PySem.W.fnOf "attribute_fault" "attribute_fault" (defArgs s_attribute_fault) (defBody s_attribute_fault) (defScope s_attribute_fault) .none kV doc pm an cdv ct) ⟨us, []⟩ = pure ((["document", "operation"] : List Str).zip us) :=
  fun _ _ _ _ _ _ us hl => match us, hl with | [_, _], _ => rfl
theorem b_fault_of : ∀ (kV doc pm : Value) (an : Option Addr) (cdv ct : Value) (us : List Value), us.length = [("document" : Str), ("operation" : Str)].length → bindArgs (PySem.W.fnOf "fault_of" "fault_of" (defArgs s_fault_of) (defBody s_fault_of) (defScope s_fault_of) .none kV doc pm an cdv ct) ⟨us, []⟩ = pure ((["document", "operation"] : List Str).zip us) :=
  fun _ _ _ _ _ _ us hl => match us, hl with | [_, _], _ => rfl
theorem b_with_kids : ∀ (kV doc pm : Value) (an : Option Addr) (cdv ct : Value) (us : List Value), us.length = [("document" : Str), ("parent" : Str), ("kids" : Str)].length → bindArgs (PySem.W.fnOf "with_kids" "with_kids" (defArgs s_with_kids) (defBody s_with_kids) (defScope s_with_kids) .none kV doc pm an cdv ct) ⟨us, []⟩ = pure ((["document", "parent", "kids"] : List Str).zip us) :=
  fun _ _ _ _ _ _ us hl => match us, hl with | [_, _, _], _ => rfl
theorem b_node_with_kids : ∀ (kV doc pm : Value) (an : Option Addr) (cdv ct : Value) (us : List Value), us.length = [("node" : Str), ("parent" : Str), ("kids" : Str)].length → bindArgs (PySem.W.fnOf "node_with_kids" "node_with_kids" (defArgs s_node_with_kids) (defBody s_node_with_kids) (defScope s_node_with_kids) .none kV doc pm an cdv ct) ⟨us, []⟩ = pure ((["node", "parent", "kids"] : List Str).zip us) :=
  fun _ _ _ _ _ _ us hl => match us, hl with | [_, _, _], _ => rfl
theorem b_with_node : ∀ (kV doc pm : Value) (an : Option Addr) (cdv ct : Value) (us : List Value), us.length = [("document" : Str), ("number" : Str), ("node" : Str)].length → bindArgs (PySem.W.fnOf "with_node" "with_node" (defArgs s_with_node) (defBody s_with_node) (defScope s_with_node) .none kV doc pm an cdv ct) ⟨us, []⟩ = pure ((["document", "number", "node"] : List Str).zip us) :=
  fun _ _ _ _ _ _ us hl => match us, hl with | [_, _, _], _ => rfl
theorem b_put : ∀ (kV doc pm : Value) (an : Option Addr) (cdv ct : Value) (us : List Value), us.length = [("kids" : Str), ("node" : Str), ("ahead" : Str)].length → bindArgs (PySem.W.fnOf "put" "put" (defArgs s_put) (defBody s_put) (defScope s_put) .none kV doc pm an cdv ct) ⟨us, []⟩ = pure ((["kids", "node", "ahead"] : List Str).zip us) :=
  fun _ _ _ _ _ _ us hl => match us, hl with | [_, _, _], _ => rfl
theorem b_changed_attributes : ∀ (kV doc pm : Value) (an : Option Addr) (cdv ct : Value) (us : List Value), us.length = [("attributes" : Str), ("name" : Str), ("text" : Str)].length → bindArgs (PySem.W.fnOf "changed_attributes" "changed_attributes" (defArgs s_changed_attributes) (defBody s_changed_attributes) (defScope s_changed_attributes) .none kV doc pm an cdv ct) ⟨us, []⟩ = pure ((["attributes", "name", "text"] : List Str).zip us) :=
  fun _ _ _ _ _ _ us hl => match us, hl with | [_, _, _], _ => rfl
theorem b_made_operation : ∀ (kV doc pm : Value) (an : Option Addr) (cdv ct : Value) (us : List Value), us.length = [("document" : Str), ("operation" : Str)].length → bindArgs (PySem.W.fnOf "made_operation" "made_operation" (defArgs s_made_operation) (defBody s_made_operation) (defScope s_made_operation) .none kV doc pm an cdv ct) ⟨us, []⟩ = pure ((["document", "operation"] : List Str).zip us) :=
  fun _ _ _ _ _ _ us hl => match us, hl with | [_, _], _ => rfl
theorem b_apply_operation : ∀ (kV doc pm : Value) (an : Option Addr) (cdv ct : Value) (us : List Value), us.length = [("document" : Str), ("operation" : Str)].length → bindArgs (PySem.W.fnOf "apply_operation" "apply_operation" (defArgs s_apply_operation) (defBody s_apply_operation) (defScope s_apply_operation) .none kV doc pm an cdv ct) ⟨us, []⟩ = pure ((["document", "operation"] : List Str).zip us) :=
  fun _ _ _ _ _ _ us hl => match us, hl with | [_, _], _ => rfl
theorem b_apply_all : ∀ (kV doc pm : Value) (an : Option Addr) (cdv ct : Value) (us : List Value), us.length = [("document" : Str), ("operations" : Str)].length → bindArgs (PySem.W.fnOf "apply_all" "apply_all" (defArgs s_apply_all) (defBody s_apply_all) (defScope s_apply_all) .none kV doc pm an cdv ct) ⟨us, []⟩ = pure ((["document", "operations"] : List Str).zip us) :=
  fun _ _ _ _ _ _ us hl => match us, hl with | [_, _], _ => rfl
theorem b__law_cell : ∀ (kV doc pm : Value) (an : Option Addr) (cdv ct : Value) (us : List Value), us.length = [("_law_script" : Str), ("_law_k" : Str)].length → bindArgs (PySem.W.fnOf "_law_cell" "_law_cell" (defArgs s__law_cell) (defBody s__law_cell) (defScope s__law_cell) .none kV doc pm an cdv ct) ⟨us, []⟩ = pure ((["_law_script", "_law_k"] : List Str).zip us) :=
  fun _ _ _ _ _ _ us hl => match us, hl with | [_, _], _ => rfl
theorem b__law_start : ∀ (kV doc pm : Value) (an : Option Addr) (cdv ct : Value) (us : List Value), us.length = [("_law_cell_here" : Str), ("_law_k" : Str)].length → bindArgs (PySem.W.fnOf "_law_start" "_law_start" (defArgs s__law_start) (defBody s__law_start) (defScope s__law_start) .none kV doc pm an cdv ct) ⟨us, []⟩ = pure ((["_law_cell_here", "_law_k"] : List Str).zip us) :=
  fun _ _ _ _ _ _ us hl => match us, hl with | [_, _], _ => rfl
theorem b__law_digit : ∀ (kV doc pm : Value) (an : Option Addr) (cdv ct : Value) (us : List Value), us.length = [("_law_state" : Str), ("_law_many" : Str)].length → bindArgs (PySem.W.fnOf "_law_digit" "_law_digit" (defArgs s__law_digit) (defBody s__law_digit) (defScope s__law_digit) .none kV doc pm an cdv ct) ⟨us, []⟩ = pure ((["_law_state", "_law_many"] : List Str).zip us) :=
  fun _ _ _ _ _ _ us hl => match us, hl with | [_, _], _ => rfl
theorem b__law_word : ∀ (kV doc pm : Value) (an : Option Addr) (cdv ct : Value) (us : List Value), us.length = [("_law_state" : Str)].length → bindArgs (PySem.W.fnOf "_law_word" "_law_word" (defArgs s__law_word) (defBody s__law_word) (defScope s__law_word) .none kV doc pm an cdv ct) ⟨us, []⟩ = pure ((["_law_state"] : List Str).zip us) :=
  fun _ _ _ _ _ _ us hl => match us, hl with | [_], _ => rfl
theorem b__law_attributes : ∀ (kV doc pm : Value) (an : Option Addr) (cdv ct : Value) (us : List Value), us.length = [("_law_state" : Str)].length → bindArgs (PySem.W.fnOf "_law_attributes" "_law_attributes" (defArgs s__law_attributes) (defBody s__law_attributes) (defScope s__law_attributes) .none kV doc pm an cdv ct) ⟨us, []⟩ = pure ((["_law_state"] : List Str).zip us) :=
  fun _ _ _ _ _ _ us hl => match us, hl with | [_], _ => rfl
theorem b__law_node : ∀ (kV doc pm : Value) (an : Option Addr) (cdv ct : Value) (us : List Value), us.length = [("_law_state" : Str), ("_law_levels" : Str), ("_law_pool_here" : Str)].length → bindArgs (PySem.W.fnOf "_law_node" "_law_node" (defArgs s__law_node) (defBody s__law_node) (defScope s__law_node) .none kV doc pm an cdv ct) ⟨us, []⟩ = pure ((["_law_state", "_law_levels", "_law_pool_here"] : List Str).zip us) :=
  fun _ _ _ _ _ _ us hl => match us, hl with | [_, _, _], _ => rfl
theorem b__law_pool : ∀ (kV doc pm : Value) (an : Option Addr) (cdv ct : Value) (us : List Value), us.length = [("_law_state" : Str), ("_law_many" : Str)].length → bindArgs (PySem.W.fnOf "_law_pool" "_law_pool" (defArgs s__law_pool) (defBody s__law_pool) (defScope s__law_pool) .none kV doc pm an cdv ct) ⟨us, []⟩ = pure ((["_law_state", "_law_many"] : List Str).zip us) :=
  fun _ _ _ _ _ _ us hl => match us, hl with | [_, _], _ => rfl
theorem b__law_document : ∀ (kV doc pm : Value) (an : Option Addr) (cdv ct : Value) (us : List Value), us.length = [("_law_state" : Str), ("_law_many" : Str), ("_law_levels" : Str)].length → bindArgs (PySem.W.fnOf "_law_document" "_law_document" (defArgs s__law_document) (defBody s__law_document) (defScope s__law_document) .none kV doc pm an cdv ct) ⟨us, []⟩ = pure ((["_law_state", "_law_many", "_law_levels"] : List Str).zip us) :=
  fun _ _ _ _ _ _ us hl => match us, hl with | [_, _, _], _ => rfl
theorem b__law_below : ∀ (kV doc pm : Value) (an : Option Addr) (cdv ct : Value) (us : List Value), us.length = [("_law_node_here" : Str)].length → bindArgs (PySem.W.fnOf "_law_below" "_law_below" (defArgs s__law_below) (defBody s__law_below) (defScope s__law_below) .none kV doc pm an cdv ct) ⟨us, []⟩ = pure ((["_law_node_here"] : List Str).zip us) :=
  fun _ _ _ _ _ _ us hl => match us, hl with | [_], _ => rfl
theorem b__law_flat : ∀ (kV doc pm : Value) (an : Option Addr) (cdv ct : Value) (us : List Value), us.length = [("_law_document_here" : Str), ("_law_parent" : Str), ("_law_level" : Str)].length → bindArgs (PySem.W.fnOf "_law_flat" "_law_flat" (defArgs s__law_flat) (defBody s__law_flat) (defScope s__law_flat) .none kV doc pm an cdv ct) ⟨us, []⟩ = pure ((["_law_document_here", "_law_parent", "_law_level"] : List Str).zip us) :=
  fun _ _ _ _ _ _ us hl => match us, hl with | [_, _, _], _ => rfl
theorem b__law_good : ∀ (kV doc pm : Value) (an : Option Addr) (cdv ct : Value) (us : List Value), us.length = [("_law_document_here" : Str)].length → bindArgs (PySem.W.fnOf "_law_good" "_law_good" (defArgs s__law_good) (defBody s__law_good) (defScope s__law_good) .none kV doc pm an cdv ct) ⟨us, []⟩ = pure ((["_law_document_here"] : List Str).zip us) :=
  fun _ _ _ _ _ _ us hl => match us, hl with | [_], _ => rfl
theorem b__law_turned : ∀ (kV doc pm : Value) (an : Option Addr) (cdv ct : Value) (us : List Value), us.length = [("_law_state" : Str), ("_law_document_here" : Str), ("_law_levels" : Str)].length → bindArgs (PySem.W.fnOf "_law_turned" "_law_turned" (defArgs s__law_turned) (defBody s__law_turned) (defScope s__law_turned) .none kV doc pm an cdv ct) ⟨us, []⟩ = pure ((["_law_state", "_law_document_here", "_law_levels"] : List Str).zip us) :=
  fun _ _ _ _ _ _ us hl => match us, hl with | [_, _, _], _ => rfl
theorem b__law_fresh : ∀ (kV doc pm : Value) (an : Option Addr) (cdv ct : Value) (us : List Value), us.length = [("_law_state" : Str), ("_law_document_here" : Str), ("_law_first" : Str)].length → bindArgs (PySem.W.fnOf "_law_fresh" "_law_fresh" (defArgs s__law_fresh) (defBody s__law_fresh) (defScope s__law_fresh) .none kV doc pm an cdv ct) ⟨us, []⟩ = pure ((["_law_state", "_law_document_here", "_law_first"] : List Str).zip us) :=
  fun _ _ _ _ _ _ us hl => match us, hl with | [_, _, _], _ => rfl
theorem b__law_pair : ∀ (kV doc pm : Value) (an : Option Addr) (cdv ct : Value) (us : List Value), us.length = [("_law_script" : Str), ("_law_k" : Str)].length → bindArgs (PySem.W.fnOf "_law_pair" "_law_pair" (defArgs s__law_pair) (defBody s__law_pair) (defScope s__law_pair) .none kV doc pm an cdv ct) ⟨us, []⟩ = pure ((["_law_script", "_law_k"] : List Str).zip us) :=
  fun _ _ _ _ _ _ us hl => match us, hl with | [_, _], _ => rfl
theorem b_law : ∀ (kV doc pm : Value) (an : Option Addr) (cdv ct : Value) (us : List Value), us.length = [("_law_script" : Str)].length → bindArgs (PySem.W.fnOf "law" "law" (defArgs s_law) (defBody s_law) (defScope s_law) .none kV doc pm an cdv ct) ⟨us, []⟩ = pure ((["_law_script"] : List Str).zip us) :=
  fun _ _ _ _ _ _ us hl => match us, hl with | [_], _ => rfl

theorem most_mk {K : PySem.W.Frag} {h : Heap} {mg : Str → Option Value} (X : K.In h) (G : h.Ns mainGlobals mg) {v : Value} (a : PySem.W.nsIn K mainGlobals "MOST_LEVELS" = some (some v)) (e : ∃ t, v = .int 40 t) : ∃ t, mg "MOST_LEVELS" = some (.int 40 t) := by
  obtain ⟨t, rfl⟩ := e
  exact ⟨t, PySem.W.mg_of X G a⟩
/-- the law's promise behind the top -/
theorem fin_mk {l : PySem.W.OpenLaw} {w : World} {K : PySem.W.Frag} {mg : Str → Option Value} {fa : Addr} (hfa : mg "law" = some (.ref fa)) (T : Txt K mg) :
    ∃ fd : FuncData, (∀ (s : Shared) (v : Value), BindsTo s fd ⟨[v], []⟩ [("_law_script", v)]) ∧ ∀ base : Heap, K.In base → base.Ns mainGlobals mg → FnOk l.prog w K mg base CX0 94 fa fd ["_law_script"] (P_law K) := by
  obtain ⟨f, fd, h1, F, _⟩ := T.d_law
  have e := hfa.symm.trans h1
  cases e
  refine ⟨fd, ?_, fun base _ _ => ok_law T F⟩
  obtain ⟨oc, od, kV, doc, pm, an, cdv, ct, osl, rfl, _, _⟩ := F.ex
  exact fun s v => .of_eq rfl
theorem walk {l : PySem.W.OpenLaw} {q : Program} {loose : List Str} {XP : (Str → Option Value) → Heap → Prop} {YP : World → Heap → Prop} {d : DefRec} {K : Params → PySem.W.Frag} (hn : l.most = some 63) (hdf : d.params.defaults = [])
    (hY : ∀ (w : World) (h : Heap), YP w h → (K w.params).In h)
    (F : ∀ (w : World) (mg : Str → Option Value) (fa : Addr) (h : Heap), (K w.params).In h → h.Ns mainGlobals mg → mg d.name = some (.ref fa) →
      ∃ fd : FuncData, (∀ (s : Shared) (u : Value), BindsTo s fd ⟨[u], []⟩ [("_law_script", u)]) ∧ ∀ base : Heap, (K w.params).In base → base.Ns mainGlobals mg → FnOk l.prog w (K w.params) mg base CX0 94 fa fd ["_law_script"] (P_law (K w.params))) :
    PySem.W.WalkO q loose XP YP l.row.toRowW d [] (fun f vs => PySem.call f vs) :=
  L2.walk_of (n := 63) (k := 94) (x := "_law_script") (CX := fun _ => CX0) (sp := fun w => P_law (K w.params)) hn (by decide) hdf ⟨rfl, by decide, by decide⟩ hY F (fun _ _ a ns hl _ hS => ⟨a, ns, rfl, hS, fun _ => rfl⟩) fun _ _ _ _ _ z => z
end VL

open PySem PySem.W PyProof.Rows
set_option maxRecDepth 100000 in
set_option maxHeartbeats 0 in
theorem PySem.Challenge.cw_viewloom_k33_whole_patches_lead_holds : PySem.Challenge.rw_viewloom_k33_whole_patches_lead.Holds := by
  w_on; o_law; k_head; (case hw => w_witness2)
  k_fill
  refine VL.walk (l := PySem.Challenge.rw_viewloom_k33_whole_patches_lead) rfl rfl (fun w h Y => PySem.W.kIn_of Y) ?F
  case F =>
    intro w mg fa h KX G hmg
    refine' VL.fin_mk hmg ⟨?d0, ?d1, ?d2, ?d3, ?d4, ?d5, ?d6, ?d7, ?d8, ?d9, ?d10, ?d11, ?d12, ?d13, ?d14, ?d15, ?d16, ?d17, ?d18, ?d19, ?d20, ?d21, ?d22, ?d23, ?d24, ?d25, ?d26, ?d27, ?d28, ?d29, ?d30, ?d31, ?d32, ?d33, ?d34, ?d35, ?d36, ?d37, ?d38, ?d39, ?d40, ?d41, ?d42, ?d43, ?z0, ?z1, ?z2, ?z3, ?z4, ?z5, ?z6, ?z7, ?z8, ?z9, ?most⟩
    (case d0 => refine' VL.dn_mk KX G ?a ?l ?c ?k VL.b_kids_in; (case a => k_is); (case l => k_is); (case c => k_is); (case k => k_is))
    (case d1 => refine' VL.dn_mk KX G ?a ?l ?c ?k VL.b_fits_levels; (case a => k_is); (case l => k_is); (case c => k_is); (case k => k_is))
    (case d2 => refine' VL.dn_mk KX G ?a ?l ?c ?k VL.b_ids_of; (case a => k_is); (case l => k_is); (case c => k_is); (case k => k_is))
    (case d3 => refine' VL.dn_mk KX G ?a ?l ?c ?k VL.b_find_node; (case a => k_is); (case l => k_is); (case c => k_is); (case k => k_is))
    (case d4 => refine' VL.dn_mk KX G ?a ?l ?c ?k VL.b_kids_of; (case a => k_is); (case l => k_is); (case c => k_is); (case k => k_is))
    (case d5 => refine' VL.dn_mk KX G ?a ?l ?c ?k VL.b_level_of; (case a => k_is); (case l => k_is); (case c => k_is); (case k => k_is))
    (case d6 => refine' VL.dn_mk KX G ?a ?l ?c ?k VL.b_lengths_from; (case a => k_is); (case l => k_is); (case c => k_is); (case k => k_is))
    (case d7 => refine' VL.dn_mk KX G ?a ?l ?c ?k VL.b_best_row; (case a => k_is); (case l => k_is); (case c => k_is); (case k => k_is))
    (case d8 => refine' VL.dn_mk KX G ?a ?l ?c ?k VL.b_partner_in; (case a => k_is); (case l => k_is); (case c => k_is); (case k => k_is))
    (case d9 => refine' VL.dn_mk KX G ?a ?l ?c ?k VL.b_kept_ids; (case a => k_is); (case l => k_is); (case c => k_is); (case k => k_is))
    (case d10 => refine' VL.dn_mk KX G ?a ?l ?c ?k VL.b_removals; (case a => k_is); (case l => k_is); (case c => k_is); (case k => k_is))
    (case d11 => refine' VL.dn_mk KX G ?a ?l ?c ?k VL.b_own_changes; (case a => k_is); (case l => k_is); (case c => k_is); (case k => k_is))
    (case d12 => refine' VL.dn_mk KX G ?a ?l ?c ?k VL.b_placings; (case a => k_is); (case l => k_is); (case c => k_is); (case k => k_is))
    (case d13 => refine' VL.dn_mk KX G ?a ?l ?c ?k VL.b_changes; (case a => k_is); (case l => k_is); (case c => k_is); (case k => k_is))
    (case d14 => refine' VL.dn_mk KX G ?a ?l ?c ?k VL.b_patch; (case a => k_is); (case l => k_is); (case c => k_is); (case k => k_is))
    (case d15 => refine' VL.dn_mk KX G ?a ?l ?c ?k VL.b_is_careful; (case a => k_is); (case l => k_is); (case c => k_is); (case k => k_is))
    (case d16 => refine' VL.dn_mk KX G ?a ?l ?c ?k VL.b_is_kid; (case a => k_is); (case l => k_is); (case c => k_is); (case k => k_is))
    (case d17 => refine' VL.dn_mk KX G ?a ?l ?c ?k VL.b_insert_fault; (case a => k_is); (case l => k_is); (case c => k_is); (case k => k_is))
    (case d18 => refine' VL.dn_mk KX G ?a ?l ?c ?k VL.b_kid_fault; (case a => k_is); (case l => k_is); (case c => k_is); (case k => k_is))
    (case d19 => refine' VL.dn_mk KX G ?a ?l ?c ?k VL.b_attribute_fault; (case a => k_is); (case l => k_is); (case c => k_is); (case k => k_is))
    (case d20 => refine' VL.dn_mk KX G ?a ?l ?c ?k VL.b_fault_of; (case a => k_is); (case l => k_is); (case c => k_is); (case k => k_is))
    (case d21 => refine' VL.dn_mk KX G ?a ?l ?c ?k VL.b_with_kids; (case a => k_is); (case l => k_is); (case c => k_is); (case k => k_is))
    (case d22 => refine' VL.dn_mk KX G ?a ?l ?c ?k VL.b_node_with_kids; (case a => k_is); (case l => k_is); (case c => k_is); (case k => k_is))
    (case d23 => refine' VL.dn_mk KX G ?a ?l ?c ?k VL.b_with_node; (case a => k_is); (case l => k_is); (case c => k_is); (case k => k_is))
    (case d24 => refine' VL.dn_mk KX G ?a ?l ?c ?k VL.b_put; (case a => k_is); (case l => k_is); (case c => k_is); (case k => k_is))
    (case d25 => refine' VL.dn_mk KX G ?a ?l ?c ?k VL.b_changed_attributes; (case a => k_is); (case l => k_is); (case c => k_is); (case k => k_is))
    (case d26 => refine' VL.dn_mk KX G ?a ?l ?c ?k VL.b_made_operation; (case a => k_is); (case l => k_is); (case c => k_is); (case k => k_is))
    (case d27 => refine' VL.dn_mk KX G ?a ?l ?c ?k VL.b_apply_operation; (case a => k_is); (case l => k_is); (case c => k_is); (case k => k_is))
    (case d28 => refine' VL.dn_mk KX G ?a ?l ?c ?k VL.b_apply_all; (case a => k_is); (case l => k_is); (case c => k_is); (case k => k_is))
    (case d29 => refine' VL.dn_mk KX G ?a ?l ?c ?k VL.b__law_cell; (case a => k_is); (case l => k_is); (case c => k_is); (case k => k_is))
    (case d30 => refine' VL.dn_mk KX G ?a ?l ?c ?k VL.b__law_start; (case a => k_is); (case l => k_is); (case c => k_is); (case k => k_is))
    (case d31 => refine' VL.dn_mk KX G ?a ?l ?c ?k VL.b__law_digit; (case a => k_is); (case l => k_is); (case c => k_is); (case k => k_is))
    (case d32 => refine' VL.dn_mk KX G ?a ?l ?c ?k VL.b__law_word; (case a => k_is); (case l => k_is); (case c => k_is); (case k => k_is))
    (case d33 => refine' VL.dn_mk KX G ?a ?l ?c ?k VL.b__law_attributes; (case a => k_is); (case l => k_is); (case c => k_is); (case k => k_is))
    (case d34 => refine' VL.dn_mk KX G ?a ?l ?c ?k VL.b__law_node; (case a => k_is); (case l => k_is); (case c => k_is); (case k => k_is))
    (case d35 => refine' VL.dn_mk KX G ?a ?l ?c ?k VL.b__law_pool; (case a => k_is); (case l => k_is); (case c => k_is); (case k => k_is))
    (case d36 => refine' VL.dn_mk KX G ?a ?l ?c ?k VL.b__law_document; (case a => k_is); (case l => k_is); (case c => k_is); (case k => k_is))
    (case d37 => refine' VL.dn_mk KX G ?a ?l ?c ?k VL.b__law_below; (case a => k_is); (case l => k_is); (case c => k_is); (case k => k_is))
    (case d38 => refine' VL.dn_mk KX G ?a ?l ?c ?k VL.b__law_flat; (case a => k_is); (case l => k_is); (case c => k_is); (case k => k_is))
    (case d39 => refine' VL.dn_mk KX G ?a ?l ?c ?k VL.b__law_good; (case a => k_is); (case l => k_is); (case c => k_is); (case k => k_is))
    (case d40 => refine' VL.dn_mk KX G ?a ?l ?c ?k VL.b__law_turned; (case a => k_is); (case l => k_is); (case c => k_is); (case k => k_is))
    (case d41 => refine' VL.dn_mk KX G ?a ?l ?c ?k VL.b__law_fresh; (case a => k_is); (case l => k_is); (case c => k_is); (case k => k_is))
    (case d42 => refine' VL.dn_mk KX G ?a ?l ?c ?k VL.b__law_pair; (case a => k_is); (case l => k_is); (case c => k_is); (case k => k_is))
    (case d43 => refine' VL.dn_mk KX G ?a ?l ?c ?k VL.b_law; (case a => k_is); (case l => k_is); (case c => k_is); (case k => k_is))
    (case z0 => refine' PySem.W.mg_none_of KX G ?z; (case z => k_is))
    (case z1 => refine' PySem.W.mg_none_of KX G ?z; (case z => k_is))
    (case z2 => refine' PySem.W.mg_none_of KX G ?z; (case z => k_is))
    (case z3 => refine' PySem.W.mg_none_of KX G ?z; (case z => k_is))
    (case z4 => refine' PySem.W.mg_none_of KX G ?z; (case z => k_is))
    (case z5 => refine' PySem.W.mg_none_of KX G ?z; (case z => k_is))
    (case z6 => refine' PySem.W.mg_none_of KX G ?z; (case z => k_is))
    (case z7 => refine' PySem.W.mg_none_of KX G ?z; (case z => k_is))
    (case z8 => refine' PySem.W.mg_none_of KX G ?z; (case z => k_is))
    (case z9 => refine' PySem.W.mg_none_of KX G ?z; (case z => k_is))
    (case most => refine' VL.most_mk KX G ?m ?e; (case m => k_is); (case e => exact ⟨_, rfl⟩))
