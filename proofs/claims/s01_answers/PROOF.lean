import PyProof.Rows.All
import PySq32
import PyFlatLaws
import Wide.All
import OpenK.AllK
import Wide.FinOn
import HandS.ForSpec
import KE.OsGo
import HandS.Comp
import HandS.Iter
import HandS.TupSets
import PySem.Challenge.RW_vectordelivery_s01_answers
import HandS.Zip
import Open.SpecLaws
/-! ## part mir -/
section
set_option Elab.async false
/-! The mirror: each def of the program as a total function over plain data. -/
namespace VD
/-- an event's name: its replica, its number -/
abbrev Ev := Nat × Nat
/-- what an event is -/
structure EvI where
  val : Nat
  needs : List Nat
structure MR where
  vec : List Nat
  app : List Ev
  pend : List Ev
  known : List (List Nat)
structure MG where
  frm : Nat
  to : Nat
  vec : List Nat
  evs : List Ev
structure MW where
  reps : List MR
  rows : List (List EvI)
  msgs : List MG

def mkR (n : Nat) : MR := ⟨List.replicate n 0, [], [], List.replicate n (List.replicate n 0)⟩
def mkW (n : Nat) : MW := ⟨List.replicate n (mkR n), List.replicate n [], []⟩
def isIn (e : Ev) (v : List Nat) : Bool := decide (e.2 ≤ v.getD e.1 0)
def within : List Nat → List Nat → Bool
  | x :: a, y :: b => decide (x ≤ y) && within a b
  | _, _ => true
def gre (a b : List Nat) : List Nat := List.zipWith max a b
def les (a b : List Nat) : List Nat := List.zipWith min a b
def withE (v : List Nat) (e : Ev) : List Nat := v.set e.1 e.2
def MW.row (w : MW) (j : Nat) : List EvI := w.rows.getD j []
def MW.ev (w : MW) (e : Ev) : EvI := (w.row e.1).getD (e.2 - 1) ⟨0, []⟩
def MW.rep (w : MW) (k : Nat) : MR := w.reps.getD k (mkR 0)
def can (w : MW) (v : List Nat) (e : Ev) : Bool := decide (e.2 = v.getD e.1 0 + 1) && within (w.ev e).needs v
def applyE (r : MR) (e : Ev) : MR := { r with vec := withE r.vec e, app := r.app ++ [e] }
def MW.setR (w : MW) (k : Nat) (r : MR) : MW := { w with reps := w.reps.set k r }
def MW.addEv (w : MW) (k : Nat) (i : EvI) : MW := { w with rows := w.rows.set k (w.row k ++ [i]) }
def createE (w : MW) (k v : Nat) : MW := (w.addEv k ⟨v, (w.rep k).vec⟩).setR k (applyE (w.rep k) (k, (w.row k).length + 1))
def nextE (w : MW) (r : MR) : List Ev := (r.pend.filter (can w r.vec)).take 1
def dropA (r : MR) : MR := { r with pend := r.pend.filter fun e => !isIn e r.vec }
def insE (d : Ev) : List Ev → List Ev
  | [] => [d]
  | e :: l => if d.1 = e.1 ∧ d.2 = e.2 then e :: l else if d.1 < e.1 ∨ (d.1 = e.1 ∧ d.2 < e.2) then d :: e :: l else e :: insE d l
def sortE (l : List Ev) : List Ev := l.foldl (fun w d => insE d w) []
def loopE (w : MW) : Nat → MR → MR
  | 0, r => r
  | f + 1, r => match nextE w r with
    | [] => r
    | e :: _ => loopE w f (applyE (dropA r) e)
def arriveE (r : MR) (l : List Ev) : MR := { r with pend := sortE (r.pend ++ l) }
def takeE (w : MW) (r : MR) (l : List Ev) : MR := dropA (loopE w ((arriveE r l).pend.length + 1) (arriveE r l))
def knownV (w : MW) (k j : Nat) : List Nat := if k = j then (w.rep k).vec else (w.rep k).known.getD j []
def lackE (w : MW) (k j : Nat) : List Ev := (w.rep k).app.filter fun e => !isIn e (knownV w k j)
def putM (w : MW) (k j : Nat) (l : List Ev) : MW := { w with msgs := w.msgs ++ [⟨k, j, (w.rep k).vec, l⟩] }
def learnE (r : MR) (m : MG) : MR := { r with known := r.known.set m.frm (gre (r.known.getD m.frm []) m.vec) }
def deliverM (w : MW) (m : MG) : MW := w.setR m.to (learnE (takeE w (w.rep m.to) m.evs) m)
def stableV (w : MW) (k : Nat) : List Nat := (List.range w.reps.length).foldl (fun f j => les f (knownV w k j)) (w.rep k).vec
def MW.many (w : MW) : Nat := (w.rows.map List.length).sum
def MW.isEv (w : MW) (j n : Nat) : Bool := decide (j < w.rows.length) && (decide (1 ≤ n) && decide (n ≤ (w.row j).length))
def told3 (w : MW) (l : List Ev) : List Int := (l.length : Int) :: l.flatMap fun e => [(e.1 : Int), (e.2 : Int), ((w.ev e).val : Int)]
def told2 (l : List Ev) : List Int := (l.length : Int) :: l.flatMap fun e => [(e.1 : Int), (e.2 : Int)]
def intsN (l : List Nat) : List Int := l.map Int.ofNat
def dep (w : MW) (a b : Ev) : Bool := isIn b (w.ev a).needs

open Sq32 in
def stepM (w : MW) : Call → MW × List Int
  | .begin_ n => if 1 ≤ n ∧ n ≤ 6 then (mkW n, [0]) else (w, [-1])
  | .does k v => if w.reps.length ≤ k then (w, [-2]) else if 1000000000 < v then (w, [-1]) else if w.many = 60 then (w, [-5]) else
    (createE w k v, [((w.row k).length + 1 : Nat)])
  | .send k j => if w.reps.length ≤ k ∨ w.reps.length ≤ j ∨ k = j then (w, [-2]) else if w.msgs.length = 200 then (w, [-5]) else
    (putM w k j (lackE w k j), [(w.msgs.length : Int), ((lackE w k j).length : Int)])
  | .post k j d n => if w.reps.length ≤ k ∨ w.reps.length ≤ j ∨ k = j then (w, [-2]) else if w.isEv d n = true ∧ isIn (d, n) (w.rep k).vec = true then
    if w.msgs.length = 200 then (w, [-5]) else (putM w k j [(d, n)], [(w.msgs.length : Int)]) else (w, [-3])
  | .comes i => match w.msgs[i]? with
    | none => (w, [-2])
    | some m => (deliverM w m, [(((deliverM w m).rep m.to).app.length : Int) - ((w.rep m.to).app.length : Int), (((deliverM w m).rep m.to).pend.length : Int)])
  | .taken k => if w.reps.length ≤ k then (w, [-2]) else (w, told3 w (w.rep k).app)
  | .waits k => if w.reps.length ≤ k then (w, [-2]) else (w, told3 w (w.rep k).pend)
  | .has k => if w.reps.length ≤ k then (w, [-2]) else (w, 0 :: intsN (w.rep k).vec)
  | .sure k j => if w.reps.length ≤ k ∨ w.reps.length ≤ j then (w, [-2]) else (w, 0 :: intsN (knownV w k j))
  | .all k => if w.reps.length ≤ k then (w, [-2]) else (w, 0 :: intsN (stableV w k))
  | .hangs d n e m => if w.isEv d n = true ∧ w.isEv e m = true then (w, [if dep w (e, m) (d, n) = true then 1 else if dep w (d, n) (e, m) = true then 2 else 0]) else (w, [-2])
  | .letter i => match w.msgs[i]? with
    | none => (w, [-2])
    | some m => (w, told2 m.evs)
end VD
end
/-! ## part law1 -/
section
set_option Elab.async false
set_option linter.all false
namespace VD
open Sq32 (Deed Desk Letter House Counts at_)
/-! ### from the mirror's state to the specification's -/
def absD (w : MW) (e : Ev) : Deed := ⟨e.1, e.2, (w.ev e).needs, (w.ev e).val⟩
def absR (w : MW) (r : MR) : Desk := ⟨r.app.map (absD w), r.pend.map (absD w), r.known⟩
def absG (w : MW) (m : MG) : Letter := ⟨m.frm, m.to, m.vec, m.evs.map (absD w)⟩
def abs (w : MW) : House := ⟨w.reps.length, w.reps.map (absR w), w.msgs.map (absG w)⟩
/-! ### what holds of the mirror's state -/
def Lex (a b : Ev) : Prop := a.1 < b.1 ∨ (a.1 = b.1 ∧ a.2 < b.2)
structure EvOk (w : MW) (e : Ev) : Prop where
  r : e.1 < w.reps.length
  lo : 1 ≤ e.2
  hi : e.2 ≤ (w.row e.1).length
structure VecOk (w : MW) (v : List Nat) : Prop where
  len : v.length = w.reps.length
  le : ∀ j, v.getD j 0 ≤ (w.row j).length
structure LWF (w : MW) (k : Nat) (r : MR) : Prop where
  vec : VecOk w r.vec
  kl : r.known.length = w.reps.length
  kv : ∀ v ∈ r.known, v.length = w.reps.length
  app : ∀ j, r.app.filter (fun e => e.1 == j) = (List.range (r.vec.getD j 0)).map fun i => (j, i + 1)
  own : r.vec.getD k 0 = (w.row k).length
  pv : ∀ e ∈ r.pend, EvOk w e
  ps : r.pend.Pairwise Lex
structure RWF (w : MW) (k : Nat) (r : MR) : Prop extends LWF w k r where
  pn : ∀ e ∈ r.pend, isIn e r.vec = false ∧ can w r.vec e = false
structure MWF (w : MW) (m : MG) : Prop where
  frm : m.frm < w.reps.length
  to : m.to < w.reps.length
  ne : m.frm ≠ m.to
  vec : m.vec.length = w.reps.length
  evs : ∀ e ∈ m.evs, EvOk w e
  few : m.evs.length ≤ 60
structure WF (w : MW) : Prop where
  n1 : 1 ≤ w.reps.length
  n6 : w.reps.length ≤ 6
  rl : w.rows.length = w.reps.length
  rep : ∀ (k : Nat) (r : MR), w.reps[k]? = some r → RWF w k r
  need : ∀ e, EvOk w e → VecOk w (w.ev e).needs
  msg : ∀ m ∈ w.msgs, MWF w m
  tot : w.many ≤ 60
  mm : w.msgs.length ≤ 200

theorem getD_at (v : List Nat) (j : Nat) : v.getD j 0 = at_ v j := rfl
theorem getD_lt {α : Type} {l : List α} {i : Nat} {x : α} (d : α) (h : l[i]? = some x) : l.getD i d = x := by
  rw [List.getD_eq_getElem?_getD, h]; rfl
theorem ev_at {w : MW} {e : Ev} (h : EvOk w e) (rl : w.rows.length = w.reps.length) : ∃ row i, w.rows[e.1]? = some row ∧ row[e.2 - 1]? = some i ∧ w.ev e = i := by
  have h1 : e.1 < w.rows.length := by rw [rl]; exact h.r
  have hr : w.row e.1 = w.rows[e.1] := by
    unfold MW.row
    rw [List.getD_eq_getElem?_getD, List.getElem?_eq_getElem h1]; rfl
  have h2 := h.hi
  have h3 := h.lo
  rw [hr] at h2
  have h4 : e.2 - 1 < w.rows[e.1].length := by omega
  refine ⟨w.rows[e.1], w.rows[e.1][e.2 - 1], List.getElem?_eq_getElem h1, List.getElem?_eq_getElem h4, ?_⟩
  unfold MW.ev
  rw [hr, List.getD_eq_getElem?_getD, List.getElem?_eq_getElem h4]; rfl
/-! ### vectors -/
theorem within_iff : ∀ (a b : List Nat), a.length = b.length → (within a b = true ↔ ∀ i, a.getD i 0 ≤ b.getD i 0)
  | [], [], _ => by simp [within]
  | x :: a, y :: b, h => by
    have h' : a.length = b.length := by simpa using h
    have ih := within_iff a b h'
    unfold within
    rw [Bool.and_eq_true, decide_eq_true_eq, ih]
    constructor
    · rintro ⟨h1, h2⟩ i
      cases i with
      | zero => exact h1
      | succ i => exact h2 i
    · intro h
      exact ⟨h 0, fun i => h (i + 1)⟩
  | [], _ :: _, h => by simp at h
  | _ :: _, [], h => by simp at h
theorem below_iff (a b : List Nat) (h : a.length = b.length) : (Sq32.below a b = true ↔ ∀ i, a.getD i 0 ≤ b.getD i 0) := by
  unfold Sq32.below
  rw [List.all_eq_true]
  constructor
  · intro h1 i
    by_cases hi : i < a.length
    · exact of_decide_eq_true (h1 i (List.mem_range.mpr hi))
    · have e : a.getD i 0 = 0 := by rw [List.getD_eq_getElem?_getD, List.getElem?_eq_none (by omega)]; rfl
      rw [e]; exact Nat.zero_le _
  · intro h1 i _
    exact decide_eq_true (h1 i)
theorem within_below (a b : List Nat) (h : a.length = b.length) : Sq32.below a b = within a b := by
  have e1 := within_iff a b h
  have e2 := below_iff a b h
  rw [Bool.eq_iff_iff, e1, e2]
theorem range_getD (v : List Nat) : (List.range v.length).map (fun k => v.getD k 0) = v := by
  refine List.ext_getElem? fun i => ?_
  rw [List.getElem?_map]
  by_cases hi : i < v.length
  · rw [List.getElem?_range hi, List.getElem?_eq_getElem hi]
    show some (v.getD i 0) = _
    rw [List.getD_eq_getElem?_getD, List.getElem?_eq_getElem hi]; rfl
  · rw [List.getElem?_eq_none (by simpa using hi), List.getElem?_eq_none (by omega)]; rfl
theorem zip_at (f : Nat → Nat → Nat) (a b : List Nat) (h : a.length = b.length) : (List.range a.length).map (fun i => f (a.getD i 0) (b.getD i 0)) = List.zipWith f a b := by
  refine List.ext_getElem? fun i => ?_
  rw [List.getElem?_map, List.getElem?_zipWith]
  by_cases hi : i < a.length
  · have hb : i < b.length := by omega
    rw [List.getElem?_range hi, List.getElem?_eq_getElem hi, List.getElem?_eq_getElem hb]
    show some (f (a.getD i 0) (b.getD i 0)) = _
    rw [List.getD_eq_getElem?_getD, List.getElem?_eq_getElem hi, List.getD_eq_getElem?_getD, List.getElem?_eq_getElem hb]; rfl
  · rw [List.getElem?_eq_none (by simpa using hi), List.getElem?_eq_none (l := a) (by omega)]; rfl
theorem most_gre (a b : List Nat) (h : a.length = b.length) : Sq32.most a b = gre a b := zip_at max a b h
theorem gre_len (a b : List Nat) (h : a.length = b.length) : (gre a b).length = a.length := by
  unfold gre; rw [List.length_zipWith]; omega
theorem les_len (a b : List Nat) (h : a.length = b.length) : (les a b).length = a.length := by
  unfold les; rw [List.length_zipWith]; omega
theorem withE_len (v : List Nat) (e : Ev) : (withE v e).length = v.length := by unfold withE; rw [List.length_set]
theorem withE_get (v : List Nat) (e : Ev) (h : e.1 < v.length) (j : Nat) : (withE v e).getD j 0 = if j = e.1 then e.2 else v.getD j 0 := by
  unfold withE
  rw [List.getD_eq_getElem?_getD, List.getElem?_set]
  by_cases c : e.1 = j
  · subst c
    simp [h]
  · rw [if_neg c, if_neg (Ne.symm c)]; rfl
/-! ### the pending events -/
theorem insE_mem (d e : Ev) : ∀ l : List Ev, e ∈ insE d l ↔ e = d ∨ e ∈ l
  | [] => by simp [insE]
  | x :: l => by
    unfold insE
    have ih := insE_mem d e l
    by_cases h1 : d.1 = x.1 ∧ d.2 = x.2
    · rw [if_pos h1]
      have hx : d = x := Prod.ext h1.1 h1.2
      subst hx
      simp
    · rw [if_neg h1]
      by_cases h2 : d.1 < x.1 ∨ (d.1 = x.1 ∧ d.2 < x.2)
      · rw [if_pos h2]; simp
      · rw [if_neg h2, List.mem_cons, ih, List.mem_cons]
        constructor
        · rintro (h | h | h)
          · exact .inr (.inl h)
          · exact .inl h
          · exact .inr (.inr h)
        · rintro (h | h | h)
          · exact .inr (.inl h)
          · exact .inl h
          · exact .inr (.inr h)
theorem insE_sorted (d : Ev) : ∀ l : List Ev, l.Pairwise Lex → (insE d l).Pairwise Lex
  | [], _ => by simp [insE]
  | x :: l, h => by
    unfold insE
    have hx := List.pairwise_cons.mp h
    by_cases h1 : d.1 = x.1 ∧ d.2 = x.2
    · rw [if_pos h1]; exact h
    · rw [if_neg h1]
      by_cases h2 : d.1 < x.1 ∨ (d.1 = x.1 ∧ d.2 < x.2)
      · rw [if_pos h2]
        refine List.pairwise_cons.mpr ⟨fun y hy => ?_, h⟩
        rcases List.mem_cons.mp hy with rfl | hy
        · exact h2
        · have := hx.1 y hy
          unfold Lex at this ⊢
          omega
      · rw [if_neg h2]
        refine List.pairwise_cons.mpr ⟨fun y hy => ?_, insE_sorted d l hx.2⟩
        rcases (insE_mem d y l).mp hy with rfl | hy
        · unfold Lex
          omega
        · exact hx.1 y hy
theorem fold_mem (e : Ev) : ∀ (l w : List Ev), e ∈ l.foldl (fun w d => insE d w) w ↔ e ∈ w ∨ e ∈ l
  | [], w => by simp
  | d :: l, w => by
    rw [List.foldl_cons, fold_mem e l, insE_mem, List.mem_cons]
    constructor
    · rintro ((h | h) | h)
      · exact .inr (.inl h)
      · exact .inl h
      · exact .inr (.inr h)
    · rintro (h | h | h)
      · exact .inl (.inr h)
      · exact .inl (.inl h)
      · exact .inr h
theorem fold_sorted : ∀ (l w : List Ev), w.Pairwise Lex → (l.foldl (fun w d => insE d w) w).Pairwise Lex
  | [], w, h => h
  | d :: l, w, h => fold_sorted l _ (insE_sorted d w h)
theorem sortE_mem (l : List Ev) (e : Ev) : e ∈ sortE l ↔ e ∈ l := by
  unfold sortE; rw [fold_mem]; simp
theorem sortE_sorted (l : List Ev) : (sortE l).Pairwise Lex := fold_sorted l [] List.Pairwise.nil
theorem lex_irr (a : Ev) : ¬ Lex a a := by unfold Lex; omega
theorem lex_asym {a b : Ev} (h : Lex a b) : ¬ Lex b a := by unfold Lex at *; omega
/-- two strictly sorted lists of the same members are one -/
theorem sorted_same : ∀ (l m : List Ev), l.Pairwise Lex → m.Pairwise Lex → (∀ e, e ∈ l ↔ e ∈ m) → l = m
  | [], [], _, _, _ => rfl
  | [], y :: m, _, _, h => absurd ((h y).mpr List.mem_cons_self) (by simp)
  | x :: l, [], _, _, h => absurd ((h x).mp List.mem_cons_self) (by simp)
  | x :: l, y :: m, hl, hm, h => by
    have hl' := List.pairwise_cons.mp hl
    have hm' := List.pairwise_cons.mp hm
    have e : x = y := by
      rcases List.mem_cons.mp ((h x).mp List.mem_cons_self) with e | hx
      · exact e
      · rcases List.mem_cons.mp ((h y).mpr List.mem_cons_self) with e | hy
        · exact e.symm
        · exact absurd (hm'.1 x hx) (lex_asym (hl'.1 y hy))
    subst e
    refine congrArg (x :: ·) (sorted_same l m hl'.2 hm'.2 fun e => ?_)
    constructor
    · intro he
      rcases List.mem_cons.mp ((h e).mp (List.mem_cons_of_mem _ he)) with r | r
      · subst r; exact absurd (hl'.1 e he) (lex_irr e)
      · exact r
    · intro he
      rcases List.mem_cons.mp ((h e).mpr (List.mem_cons_of_mem _ he)) with r | r
      · subst r; exact absurd (hm'.1 e he) (lex_irr e)
      · exact r
theorem sortE_of_sorted {l : List Ev} (h : l.Pairwise Lex) : sortE l = l := sorted_same _ _ (sortE_sorted l) h (sortE_mem l)
theorem sortE_append {l m : List Ev} (h : l.Pairwise Lex) : sortE (l ++ m) = m.foldl (fun w d => insE d w) l := by
  have e : sortE (l ++ m) = m.foldl (fun w d => insE d w) (sortE l) := by unfold sortE; rw [List.foldl_append]
  rw [e, sortE_of_sorted h]
theorem insE_wait (w : MW) (d : Ev) : ∀ l : List Ev, (insE d l).map (absD w) = Sq32.wait (absD w d) (l.map (absD w))
  | [] => rfl
  | e :: l => by
    unfold insE
    rw [List.map_cons]
    unfold Sq32.wait
    show (if _ then _ else _ : List Ev).map (absD w) = if d.1 = e.1 ∧ d.2 = e.2 then _ else if d.1 < e.1 ∨ (d.1 = e.1 ∧ d.2 < e.2) then _ else _
    by_cases h1 : d.1 = e.1 ∧ d.2 = e.2
    · rw [if_pos h1, if_pos h1]; rfl
    · rw [if_neg h1, if_neg h1]
      by_cases h2 : d.1 < e.1 ∨ (d.1 = e.1 ∧ d.2 < e.2)
      · rw [if_pos h2, if_pos h2]; rfl
      · rw [if_neg h2, if_neg h2, List.map_cons, insE_wait w d l]
theorem fold_wait (w : MW) : ∀ (l r : List Ev), (l.foldl (fun w d => insE d w) r).map (absD w) = (l.map (absD w)).foldl (fun x d => Sq32.wait d x) (r.map (absD w))
  | [], r => rfl
  | d :: l, r => by
    rw [List.foldl_cons, fold_wait w l, List.map_cons, List.foldl_cons, insE_wait]
end VD
end
/-! ## part law2 -/
section
set_option Elab.async false
set_option linter.all false
namespace VD
open Sq32 (Deed Desk Letter House Counts at_)
/-! ### the same rows and as many replicas: all stays -/
section
variable {w w' : MW} (hn : w'.reps.length = w.reps.length) (hr : w'.rows = w.rows)
include hn hr
theorem row_c (j : Nat) : w'.row j = w.row j := by unfold MW.row; rw [hr]
theorem ev_c (e : Ev) : w'.ev e = w.ev e := by unfold MW.ev; rw [row_c hn hr]
theorem can_c (v : List Nat) (e : Ev) : can w' v e = can w v e := by unfold can; rw [ev_c hn hr]
theorem absD_c : absD w' = absD w := by funext e; unfold absD; rw [ev_c hn hr]
theorem absR_c : absR w' = absR w := by funext r; unfold absR; rw [absD_c hn hr]
theorem absG_c : absG w' = absG w := by funext r; unfold absG; rw [absD_c hn hr]
theorem EvOk.c {e : Ev} (h : EvOk w e) : EvOk w' e := ⟨by rw [hn]; exact h.r, h.lo, by rw [row_c hn hr]; exact h.hi⟩
theorem EvOk.c' {e : Ev} (h : EvOk w' e) : EvOk w e := ⟨by rw [← hn]; exact h.r, h.lo, by rw [← row_c hn hr]; exact h.hi⟩
theorem VecOk.c {v : List Nat} (h : VecOk w v) : VecOk w' v := ⟨h.len.trans hn.symm, fun j => by rw [row_c hn hr]; exact h.le j⟩
theorem LWF.c {k : Nat} {r : MR} (h : LWF w k r) : LWF w' k r :=
  ⟨h.vec.c hn hr, h.kl.trans hn.symm, fun v hv => (h.kv v hv).trans hn.symm, h.app, by rw [row_c hn hr]; exact h.own, fun e he => (h.pv e he).c hn hr, h.ps⟩
theorem RWF.c {k : Nat} {r : MR} (h : RWF w k r) : RWF w' k r := ⟨h.toLWF.c hn hr, fun e he => by rw [can_c hn hr]; exact h.pn e he⟩
theorem MWF.c {m : MG} (h : MWF w m) : MWF w' m := ⟨by rw [hn]; exact h.frm, by rw [hn]; exact h.to, h.ne, by rw [hn]; exact h.vec, fun e he => (h.evs e he).c hn hr, h.few⟩
theorem many_c : w'.many = w.many := by unfold MW.many; rw [hr]
end
theorem setR_len (w : MW) (k : Nat) (r : MR) : (w.setR k r).reps.length = w.reps.length := List.length_set
/-- one replica is changed -/
theorem WF.setR {w : MW} (h : WF w) {k : Nat} {r : MR} (hr : RWF w k r) : WF (w.setR k r) := by
  have hn := setR_len w k r
  have he : (w.setR k r).rows = w.rows := rfl
  refine ⟨by rw [hn]; exact h.n1, by rw [hn]; exact h.n6, by rw [hn]; exact h.rl, fun j r' hj => ?_, fun e q => ?_, fun m hm => (h.msg m hm).c hn he, by rw [many_c hn he]; exact h.tot, h.mm⟩
  · have hj' : (w.reps.set k r)[j]? = some r' := hj
    rw [List.getElem?_set] at hj'
    by_cases c : k = j
    · subst c
      rw [if_pos rfl] at hj'
      split at hj'
      · cases hj'; exact hr.c hn he
      · cases hj'
    · rw [if_neg c] at hj'
      exact (h.rep j r' hj').c hn he
  · rw [ev_c hn he]
    exact (h.need e (q.c' hn he)).c hn he
theorem abs_setR (w : MW) (k : Nat) (r : MR) : abs (w.setR k r) = (abs w).set k (absR w r) := by
  have hn := setR_len w k r
  have he : (w.setR k r).rows = w.rows := rfl
  unfold abs House.set
  rw [absR_c hn he, absG_c hn he, hn]
  show (⟨_, (w.reps.set k r).map (absR w), _⟩ : House) = _
  rw [List.map_set]; rfl
/-! ### one replica -/
theorem rep_at {w : MW} {k : Nat} (h : k < w.reps.length) : w.reps[k]? = some (w.rep k) := by
  unfold MW.rep
  rw [List.getD_eq_getElem?_getD, List.getElem?_eq_getElem h]; rfl
theorem rep_of {w : MW} {k : Nat} {r : MR} (h : w.reps[k]? = some r) : w.rep k = r := by
  unfold MW.rep; rw [List.getD_eq_getElem?_getD, h]; rfl
theorem desk_at {w : MW} {k : Nat} (h : k < w.reps.length) : (abs w).desk k = absR w (w.rep k) := by
  unfold House.desk
  show ((w.reps.map (absR w))[k]?).getD _ = _
  rw [List.getElem?_map, rep_at h]; rfl
theorem counts_vec {w : MW} {r : MR} {n : Nat} (hl : r.vec.length = n) (h : ∀ j, r.app.filter (fun e => e.1 == j) = (List.range (r.vec.getD j 0)).map fun i => (j, i + 1)) :
    Sq32.counts n (r.app.map (absD w)) = r.vec := by
  unfold Sq32.counts
  subst hl
  refine Eq.trans ?_ (range_getD r.vec)
  refine List.map_congr_left fun k _ => ?_
  rw [List.filter_map, List.length_map]
  show (r.app.filter (fun e => e.1 == k)).length = _
  rw [h k, List.length_map, List.length_range]
theorem has_vec {w : MW} (h : WF w) {k : Nat} (hk : k < w.reps.length) : (abs w).has k = (w.rep k).vec := by
  unfold House.has
  rw [desk_at hk]
  have r := h.rep k _ (rep_at hk)
  exact counts_vec r.vec.len r.app
theorem app_ok {w : MW} {k : Nat} {r : MR} (h : LWF w k r) {e : Ev} (he : e ∈ r.app) : EvOk w e ∧ e.2 ≤ r.vec.getD e.1 0 := by
  have m : e ∈ r.app.filter (fun x => x.1 == e.1) := List.mem_filter.mpr ⟨he, by simp⟩
  rw [h.app e.1] at m
  obtain ⟨i, hi, q⟩ := List.mem_map.mp m
  have hi' := List.mem_range.mp hi
  have e2 : e.2 = i + 1 := by rw [← q]
  have hle := h.vec.le e.1
  refine ⟨⟨?_, by omega, by omega⟩, by omega⟩
  rcases Nat.lt_or_ge e.1 w.reps.length with c | c
  · exact c
  · have z : r.vec.getD e.1 0 = 0 := by
      rw [List.getD_eq_getElem?_getD, List.getElem?_eq_none (by rw [h.vec.len]; exact c)]; rfl
    omega
theorem app_in {w : MW} {k : Nat} {r : MR} (h : LWF w k r) {e : Ev} (h1 : 1 ≤ e.2) (h2 : e.2 ≤ r.vec.getD e.1 0) : e ∈ r.app := by
  have m : e ∈ r.app.filter (fun x => x.1 == e.1) := by
    rw [h.app e.1]
    refine List.mem_map.mpr ⟨e.2 - 1, List.mem_range.mpr (by omega), ?_⟩
    show (e.1, e.2 - 1 + 1) = e
    rw [Nat.sub_add_cancel h1]
  exact (List.mem_filter.mp m).1
theorem may_can {w : MW} (need : ∀ e, EvOk w e → VecOk w (w.ev e).needs) {v : List Nat} (hv : v.length = w.reps.length) {e : Ev} (he : EvOk w e) : Sq32.may v (absD w e) = can w v e := by
  unfold Sq32.may can
  show ((e.2 == at_ v e.1 + 1) && Sq32.below (w.ev e).needs v) = _
  rw [within_below _ _ (by rw [(need e he).len, hv])]
  rfl
theorem was_is (w : MW) (v : List Nat) (e : Ev) : Sq32.was v (absD w e) = isIn e v := rfl
theorem absD_inj {w : MW} {a b : Ev} (h : absD w a = absD w b) : a = b := by
  have h1 : (absD w a).desk = (absD w b).desk := by rw [h]
  have h2 : (absD w a).n = (absD w b).n := by rw [h]
  exact Prod.ext h1 h2
/-! ### one event applied -/
theorem can_not_in {w : MW} {v : List Nat} {e : Ev} (h : can w v e = true) : isIn e v = false := by
  unfold can at h
  rw [Bool.and_eq_true, decide_eq_true_eq] at h
  unfold isIn
  exact decide_eq_false (by omega)
theorem apply_wf {w : MW} {k : Nat} {r : MR} (h : LWF w k r) (hk : k < w.reps.length) {e : Ev} (he : EvOk w e) (hc : e.2 = r.vec.getD e.1 0 + 1) : LWF w k (applyE r e) := by
  have hlt : e.1 < r.vec.length := by rw [h.vec.len]; exact he.r
  have hg : ∀ j, (applyE r e).vec.getD j 0 = if j = e.1 then e.2 else r.vec.getD j 0 := withE_get r.vec e hlt
  refine ⟨⟨(withE_len r.vec e).trans h.vec.len, fun j => ?_⟩, h.kl, h.kv, fun j => ?_, ?_, h.pv, h.ps⟩
  · rw [hg j]
    by_cases c : j = e.1
    · rw [if_pos c, c]; exact he.hi
    · rw [if_neg c]; exact h.vec.le j
  · rw [hg j]
    show (r.app ++ [e]).filter _ = _
    rw [List.filter_append, h.app j]
    by_cases c : j = e.1
    · rw [if_pos c, c, hc, List.range_succ, List.map_append]
      congr 1
      rw [List.filter_cons_of_pos (by simp), List.filter_nil, List.map_singleton, ← hc]
    · have hcf : (e.1 == j) = false := beq_eq_false_iff_ne.mpr (Ne.symm c)
      rw [if_neg c, List.filter_cons_of_neg (by simp [hcf]), List.filter_nil, List.append_nil]
  · rw [hg k]
    by_cases c : k = e.1
    · have h1 := he.hi
      have h2 := h.own
      rw [c] at h2
      omega
    · rw [if_neg c]; exact h.own
theorem drop_wf {w : MW} {k : Nat} {r : MR} (h : LWF w k r) : LWF w k (dropA r) :=
  ⟨h.vec, h.kl, h.kv, h.app, h.own, fun e he => h.pv e (List.mem_filter.mp he).1, h.ps.filter _⟩
/-! ### the loop against settle -/
theorem find_map {α β : Type} (f : α → β) (p : β → Bool) (q : α → Bool) : ∀ (l : List α), (∀ x ∈ l, p (f x) = q x) → (l.map f).find? p = (l.find? q).map f
  | [], _ => rfl
  | x :: l, h => by
    rw [List.map_cons, List.find?_cons, List.find?_cons, h x List.mem_cons_self]
    cases q x with
    | true => rfl
    | false => exact find_map f p q l fun y hy => h y (List.mem_cons_of_mem _ hy)
theorem next_find {w : MW} {r : MR} : nextE w r = ((r.pend.filter fun e => !isIn e r.vec).find? (can w r.vec)).toList := by
  unfold nextE
  have e1 : r.pend.filter (can w r.vec) = (r.pend.filter fun e => !isIn e r.vec).filter (can w r.vec) := by
    rw [List.filter_filter]
    refine List.filter_congr fun x _ => ?_
    cases hc : can w r.vec x with
    | true => rw [can_not_in hc]; rfl
    | false => rfl
  rw [e1]
  generalize r.pend.filter (fun e => !isIn e r.vec) = l
  induction l with
  | nil => rfl
  | cons x l ih =>
    cases hc : can w r.vec x with
    | true => rw [List.filter_cons_of_pos hc, List.find?_cons_of_pos hc]; rfl
    | false =>
      rw [List.filter_cons_of_neg (by simp [hc]), List.find?_cons_of_neg (by simp [hc])]
      exact ih
theorem settle_loop {w : MW} (need : ∀ e, EvOk w e → VecOk w (w.ev e).needs) {k : Nat} (hk : k < w.reps.length) : ∀ (f g : Nat) (r : MR) (W : List Deed), LWF w k r → (r.pend.filter fun e => !isIn e r.vec).length < f → (r.pend.filter fun e => !isIn e r.vec).length < g →
    (W.filter fun d => !Sq32.was r.vec d) = (r.pend.filter fun e => !isIn e r.vec).map (absD w) →
    Sq32.settle w.reps.length f (r.app.map (absD w)) W = ((dropA (loopE w g r)).app.map (absD w), (dropA (loopE w g r)).pend.map (absD w)) ∧
      RWF w k (dropA (loopE w g r)) ∧ (dropA (loopE w g r)).known = r.known
  | 0, _, _, _, _, h, _, _ => absurd h (Nat.not_lt_zero _)
  | _ + 1, 0, _, _, _, _, h, _ => absurd h (Nat.not_lt_zero _)
  | f + 1, g + 1, r, W, hr, hf, hg, hW => by
    have hc : Sq32.counts w.reps.length (r.app.map (absD w)) = r.vec := counts_vec hr.vec.len hr.app
    have hP : ∀ x ∈ (r.pend.filter fun e => !isIn e r.vec), EvOk w x ∧ isIn x r.vec = false := fun x hx => by
      have q := List.mem_filter.mp hx
      exact ⟨hr.pv x q.1, by simpa using q.2⟩
    have hfind : ((r.pend.filter fun e => !isIn e r.vec).map (absD w)).find? (Sq32.may r.vec) = ((r.pend.filter fun e => !isIn e r.vec).find? (can w r.vec)).map (absD w) :=
      find_map _ _ _ _ fun x hx => may_can need hr.vec.len (hP x hx).1
    have hs : Sq32.settle w.reps.length (f + 1) (r.app.map (absD w)) W = (match ((r.pend.filter fun e => !isIn e r.vec).find? (can w r.vec)).map (absD w) with
      | none => (r.app.map (absD w), (r.pend.filter fun e => !isIn e r.vec).map (absD w))
      | some d => Sq32.settle w.reps.length f (r.app.map (absD w) ++ [d]) (((r.pend.filter fun e => !isIn e r.vec).map (absD w)).filter fun e => e != d)) := by
      show (match (W.filter fun d => !Sq32.was (Sq32.counts w.reps.length (r.app.map (absD w))) d).find? (Sq32.may (Sq32.counts w.reps.length (r.app.map (absD w)))) with
        | none => _
        | some d => _) = _
      rw [hc, hW, hfind]
    have hn := next_find (w := w) (r := r)
    cases hd : (r.pend.filter fun e => !isIn e r.vec).find? (can w r.vec) with
    | none =>
      rw [hd] at hs hn
      have hl : loopE w (g + 1) r = r := by
        unfold loopE
        rw [hn]; rfl
      rw [hl]
      refine ⟨hs, ⟨drop_wf hr, fun e he => ?_⟩, rfl⟩
      refine ⟨(hP e he).2, ?_⟩
      have := List.find?_eq_none.mp hd e he
      show can w r.vec e = false
      simpa using this
    | some e =>
      rw [hd] at hs hn
      have hem : e ∈ (r.pend.filter fun e => !isIn e r.vec) := List.mem_of_find?_eq_some hd
      have hec : can w r.vec e = true := List.find?_some hd
      have hev := (hP e hem).1
      have hl : loopE w (g + 1) r = loopE w g (applyE (dropA r) e) := by
        show (match nextE w r with
          | [] => r
          | e :: _ => loopE w g (applyE (dropA r) e)) = _
        rw [hn]; rfl
      rw [hl, hs]
      have hc2 : e.2 = r.vec.getD e.1 0 + 1 := by
        unfold can at hec
        rw [Bool.and_eq_true, decide_eq_true_eq] at hec
        exact hec.1
      have hr' : LWF w k (applyE (dropA r) e) := apply_wf (drop_wf hr) hk hev hc2
      have hin : isIn e (applyE (dropA r) e).vec = true := by
        have hlt : e.1 < r.vec.length := by rw [hr.vec.len]; exact hev.r
        have z : (applyE (dropA r) e).vec.getD e.1 0 = if e.1 = e.1 then e.2 else r.vec.getD e.1 0 := withE_get r.vec e hlt e.1
        unfold isIn
        rw [z, if_pos rfl]
        exact decide_eq_true (Nat.le_refl _)
      have hlt : ((applyE (dropA r) e).pend.filter fun x => !isIn x (applyE (dropA r) e).vec).length < (r.pend.filter fun e => !isIn e r.vec).length := by
        show ((r.pend.filter fun e => !isIn e r.vec).filter fun x => !isIn x (applyE (dropA r) e).vec).length < _
        exact List.length_filter_lt_length_iff_exists.mpr ⟨e, hem, by rw [hin]; simp⟩
      have hW' : ((((r.pend.filter fun e => !isIn e r.vec).map (absD w)).filter fun x => x != absD w e).filter fun d => !Sq32.was (applyE (dropA r) e).vec d) = ((applyE (dropA r) e).pend.filter fun x => !isIn x (applyE (dropA r) e).vec).map (absD w) := by
        rw [List.filter_map, List.filter_map, List.filter_filter]
        refine congrArg (List.map (absD w)) ?_
        show _ = (r.pend.filter fun e => !isIn e r.vec).filter fun x => !isIn x (applyE (dropA r) e).vec
        refine List.filter_congr fun x hx => ?_
        show ((!Sq32.was (applyE (dropA r) e).vec (absD w x)) && (absD w x != absD w e)) = _
        rw [was_is]
        by_cases c : x = e
        · subst c
          rw [hin]; rfl
        · have hne : absD w x ≠ absD w e := fun q => c (absD_inj q)
          rw [bne_iff_ne.mpr hne, Bool.and_true]
      have ih := settle_loop need hk f g (applyE (dropA r) e) _ hr' (by omega) (by omega) hW'
      have ea : r.app.map (absD w) ++ [absD w e] = (applyE (dropA r) e).app.map (absD w) := by
        show _ = (r.app ++ [e]).map (absD w)
        rw [List.map_append]; rfl
      refine ⟨?_, ih.2⟩
      show Sq32.settle _ f (r.app.map (absD w) ++ [absD w e]) (((r.pend.filter fun e => !isIn e r.vec).map (absD w)).filter fun x => x != absD w e) = _
      rw [ea]
      exact ih.1
end VD
end
/-! ## part law3 -/
section
set_option Elab.async false
set_option linter.all false
namespace VD
open Sq32 (Deed Desk Letter House Counts at_)
/-! ### deliver -/
theorem arrive_wf {w : MW} {k : Nat} {r : MR} (h : LWF w k r) {l : List Ev} (hl : ∀ e ∈ l, EvOk w e) : LWF w k (arriveE r l) :=
  ⟨h.vec, h.kl, h.kv, h.app, h.own, fun e he => by
    rcases List.mem_append.mp ((sortE_mem _ e).mp he) with q | q
    · exact h.pv e q
    · exact hl e q, sortE_sorted _⟩
theorem take_law {w : MW} (wf : WF w) {k : Nat} (hk : k < w.reps.length) {r : MR} (h : LWF w k r) {l : List Ev} (hl : ∀ e ∈ l, EvOk w e) :
    (absR w r).gets w.reps.length (l.map (absD w)) = absR w (takeE w r l) ∧ RWF w k (takeE w r l) ∧ (takeE w r l).known = r.known := by
  have h1 := arrive_wf h hl
  have e1 : (l.map (absD w)).foldl (fun (x : List Deed) d => Sq32.wait d x) (r.pend.map (absD w)) = (arriveE r l).pend.map (absD w) := by
    rw [← fold_wait, ← sortE_append h.ps]; rfl
  have hm := settle_loop wf.need hk ((arriveE r l).pend.length + 1) ((arriveE r l).pend.length + 1) (arriveE r l) ((arriveE r l).pend.map (absD w)) h1
    (Nat.lt_succ_of_le (List.length_filter_le _ _)) (Nat.lt_succ_of_le (List.length_filter_le _ _)) (by rw [List.filter_map]; rfl)
  refine ⟨?_, hm.2.1, hm.2.2⟩
  have e4 : (l.map (absD w)).foldl (fun (x : List Deed) d => Sq32.wait d x) (absR w r).waits = (arriveE r l).pend.map (absD w) := e1
  have e2 : Sq32.settle w.reps.length ((arriveE r l).pend.length + 1) (absR w r).taken ((arriveE r l).pend.map (absD w)) = _ := hm.1
  have g : ∀ x : Desk, x.gets w.reps.length (l.map (absD w)) = { x with taken := (Sq32.settle w.reps.length (((l.map (absD w)).foldl (fun (y : List Deed) d => Sq32.wait d y) x.waits).length + 1) x.taken ((l.map (absD w)).foldl (fun (y : List Deed) d => Sq32.wait d y) x.waits)).1, waits := (Sq32.settle w.reps.length (((l.map (absD w)).foldl (fun (y : List Deed) d => Sq32.wait d y) x.waits).length + 1) x.taken ((l.map (absD w)).foldl (fun (y : List Deed) d => Sq32.wait d y) x.waits)).2 } := fun _ => rfl
  rw [g, e4, List.length_map, e2]
  show (⟨_, _, r.known⟩ : Desk) = ⟨_, _, (takeE w r l).known⟩
  have e5 : (takeE w r l).known = r.known := hm.2.2
  rw [e5]; rfl
theorem known_at {w : MW} {k : Nat} {r : MR} (h : LWF w k r) {j : Nat} (hj : j < w.reps.length) (d : List Nat) : (r.known[j]?).getD d = r.known.getD j [] ∧ (r.known.getD j []).length = w.reps.length := by
  have hj' : j < r.known.length := by rw [h.kl]; exact hj
  rw [List.getD_eq_getElem?_getD, List.getElem?_eq_getElem hj']
  exact ⟨rfl, h.kv _ (List.getElem_mem hj')⟩
theorem learn_wf {w : MW} {k : Nat} {r : MR} (h : RWF w k r) {m : MG} (hm : MWF w m) : RWF w k (learnE r m) := by
  have q := known_at h.toLWF hm.frm []
  refine ⟨⟨h.vec, (List.length_set).trans h.kl, fun v hv => ?_, h.app, h.own, h.pv, h.ps⟩, h.pn⟩
  rcases List.mem_or_eq_of_mem_set hv with hv | e
  · exact h.kv v hv
  · rw [e, gre_len _ _ (by rw [q.2, hm.vec]), q.2]
theorem deliver_law {w : MW} (wf : WF w) {m : MG} (hm : MWF w m) :
    WF (deliverM w m) ∧ abs (deliverM w m) = (abs w).set m.to { (absR w (takeE w (w.rep m.to) m.evs)) with sure := (w.rep m.to).known.set m.frm (Sq32.most (((w.rep m.to).known[m.frm]?).getD (List.replicate w.reps.length 0)) m.vec) } ∧
      ((abs w).desk m.to).gets w.reps.length (m.evs.map (absD w)) = absR w (takeE w (w.rep m.to) m.evs) ∧ (takeE w (w.rep m.to) m.evs).known = (w.rep m.to).known := by
  have hr := wf.rep m.to _ (rep_at hm.to)
  have ht := take_law wf hm.to hr.toLWF hm.evs
  have hq := known_at hr.toLWF hm.frm (List.replicate w.reps.length 0)
  refine ⟨wf.setR (learn_wf ht.2.1 hm), ?_, ?_, ht.2.2⟩
  · unfold deliverM
    rw [abs_setR, hq.1, most_gre _ _ (by rw [hq.2, hm.vec])]
    congr 1
    show (⟨_, _, _⟩ : Desk) = ⟨_, _, _⟩
    unfold learnE
    rw [ht.2.2]; rfl
  · rw [desk_at hm.to]
    exact ht.1
/-! ### create -/
theorem row_at {w : MW} {j : Nat} (h : j < w.rows.length) : w.rows[j]? = some (w.row j) := by
  unfold MW.row; rw [List.getD_eq_getElem?_getD, List.getElem?_eq_getElem h]; rfl
theorem row_add {w : MW} {k : Nat} (hk : k < w.rows.length) (i : EvI) (j : Nat) : (w.addEv k i).row j = if j = k then w.row k ++ [i] else w.row j := by
  show (w.rows.set k (w.row k ++ [i])).getD j [] = _
  rw [List.getD_eq_getElem?_getD, List.getElem?_set]
  by_cases c : k = j
  · subst c; simp [hk]
  · rw [if_neg c, if_neg (Ne.symm c)]; rfl
theorem row_le {w : MW} {k : Nat} (hk : k < w.rows.length) (i : EvI) (j : Nat) : (w.row j).length ≤ ((w.addEv k i).row j).length := by
  rw [row_add hk]
  by_cases c : j = k
  · rw [if_pos c, c, List.length_append]; omega
  · rw [if_neg c]; omega
section
variable {w : MW} {k : Nat} (hk : k < w.rows.length) (i : EvI)
include hk
theorem EvOk.add {e : Ev} (h : EvOk w e) : EvOk (w.addEv k i) e := ⟨h.r, h.lo, Nat.le_trans h.hi (row_le hk i e.1)⟩
theorem ev_add {e : Ev} (h : EvOk w e) : (w.addEv k i).ev e = w.ev e := by
  unfold MW.ev
  rw [row_add hk]
  by_cases c : e.1 = k
  · have h1 := h.hi
    have h2 := h.lo
    rw [if_pos c]
    rw [c] at h1 ⊢
    rw [List.getD_eq_getElem?_getD, List.getD_eq_getElem?_getD, List.getElem?_append_left (by omega)]
  · rw [if_neg c]
theorem VecOk.add {v : List Nat} (h : VecOk w v) : VecOk (w.addEv k i) v := ⟨h.len, fun j => Nat.le_trans (h.le j) (row_le hk i j)⟩
theorem can_add {e : Ev} (h : EvOk w e) (v : List Nat) : can (w.addEv k i) v e = can w v e := by unfold can; rw [ev_add hk i h]
theorem absD_add {e : Ev} (h : EvOk w e) : absD (w.addEv k i) e = absD w e := by unfold absD; rw [ev_add hk i h]
theorem LWF.add {j : Nat} {r : MR} (h : LWF w j r) (hj : j ≠ k) : LWF (w.addEv k i) j r :=
  ⟨h.vec.add hk i, h.kl, h.kv, h.app, by rw [row_add hk, if_neg hj]; exact h.own, fun e he => (h.pv e he).add hk i, h.ps⟩
theorem RWF.add {j : Nat} {r : MR} (h : RWF w j r) (hj : j ≠ k) : RWF (w.addEv k i) j r :=
  ⟨h.toLWF.add hk i hj, fun e he => by rw [can_add hk i (h.pv e he)]; exact h.pn e he⟩
theorem MWF.add {m : MG} (h : MWF w m) : MWF (w.addEv k i) m := ⟨h.frm, h.to, h.ne, h.vec, fun e he => (h.evs e he).add hk i, h.few⟩
theorem absR_add {j : Nat} {r : MR} (h : LWF w j r) : absR (w.addEv k i) r = absR w r := by
  unfold absR
  rw [List.map_congr_left fun e he => absD_add hk i (app_ok h he).1, List.map_congr_left fun e he => absD_add hk i (h.pv e he)]
theorem absG_add {m : MG} (h : MWF w m) : absG (w.addEv k i) m = absG w m := by
  unfold absG
  rw [List.map_congr_left fun e he => absD_add hk i (h.evs e he)]
theorem EvOk.of_add {e : Ev} (h : EvOk (w.addEv k i) e) : EvOk w e ∨ (e = (k, (w.row k).length + 1) ∧ (w.addEv k i).ev e = i) := by
  have h1 := h.hi
  have h2 := h.lo
  rw [row_add hk] at h1
  by_cases c : e.1 = k
  · rw [if_pos c, List.length_append, List.length_singleton] at h1
    by_cases c2 : e.2 ≤ (w.row k).length
    · exact .inl ⟨h.r, h2, by rw [c]; exact c2⟩
    · refine .inr ⟨Prod.ext c (by show e.2 = (w.row k).length + 1; omega), ?_⟩
      unfold MW.ev
      have e2 : e.2 - 1 = (w.row k).length := by omega
      rw [row_add hk, if_pos c, e2, List.getD_eq_getElem?_getD, List.getElem?_concat_length]; rfl
  · rw [if_neg c] at h1
    exact .inl ⟨h.r, h2, h1⟩
end
theorem sum_set : ∀ (l : List Nat) (k x y : Nat), l[k]? = some x → (l.set k y).sum + x = l.sum + y
  | [], k, x, y, h => by simp at h
  | a :: l, 0, x, y, h => by
    have e : a = x := by simpa using h
    subst e
    show (y :: l).sum + a = (a :: l).sum + y
    rw [List.sum_cons, List.sum_cons]; omega
  | a :: l, k + 1, x, y, h => by
    have ih := sum_set l k x y (by simpa using h)
    show (a :: l.set k y).sum + x = (a :: l).sum + y
    rw [List.sum_cons, List.sum_cons]; omega
theorem many_add {w : MW} {k : Nat} (hk : k < w.rows.length) (i : EvI) : (w.addEv k i).many = w.many + 1 := by
  unfold MW.many
  show ((w.rows.set k (w.row k ++ [i])).map List.length).sum = _
  rw [List.map_set]
  have q := sum_set (w.rows.map List.length) k (w.row k).length (w.row k ++ [i]).length (by rw [List.getElem?_map, row_at hk]; rfl)
  rw [List.length_append, List.length_singleton] at q
  rw [List.length_append, List.length_singleton]
  omega
theorem create_wf {w : MW} (wf : WF w) {k : Nat} (hk : k < w.reps.length) (v : Nat) (hm : w.many < 60) : WF (createE w k v) := by
  have hk' : k < w.rows.length := by rw [wf.rl]; exact hk
  have hr := wf.rep k _ (rep_at hk)
  have hn : (createE w k v).reps.length = (w.addEv k ⟨v, (w.rep k).vec⟩).reps.length := setR_len _ _ _
  have he : (createE w k v).rows = (w.addEv k ⟨v, (w.rep k).vec⟩).rows := rfl
  have need1 : ∀ e, EvOk (w.addEv k ⟨v, (w.rep k).vec⟩) e → VecOk (w.addEv k ⟨v, (w.rep k).vec⟩) ((w.addEv k ⟨v, (w.rep k).vec⟩).ev e).needs := fun e h => by
    rcases EvOk.of_add hk' _ h with q | ⟨_, q⟩
    · rw [ev_add hk' _ q]; exact (wf.need e q).add hk' _
    · rw [q]; exact hr.vec.add hk' _
  refine ⟨by rw [hn]; exact wf.n1, by rw [hn]; exact wf.n6, ?_, fun j r hj => ?_, fun e h => ?_, fun m h => ?_, ?_, wf.mm⟩
  · rw [hn, he]
    exact (List.length_set).trans wf.rl
  · refine RWF.c hn he ?_
    have hj' : (w.reps.set k (applyE (w.rep k) (k, (w.row k).length + 1)))[j]? = some r := hj
    rw [List.getElem?_set] at hj'
    by_cases c : k = j
    · subst c
      rw [if_pos rfl, if_pos hk] at hj'
      cases hj'
      have hkv : k < (w.rep k).vec.length := by rw [hr.vec.len]; exact hk
      have hg : ∀ j, (applyE (w.rep k) (k, (w.row k).length + 1)).vec.getD j 0 = if j = k then (w.row k).length + 1 else (w.rep k).vec.getD j 0 := withE_get (w.rep k).vec (k, (w.row k).length + 1) hkv
      refine ⟨⟨⟨(withE_len _ _).trans hr.vec.len, fun j => ?_⟩, hr.kl, hr.kv, fun j => ?_, ?_, fun e h => (hr.pv e h).add hk' _, hr.ps⟩, fun e h => ?_⟩
      · rw [hg j, row_add hk']
        by_cases c : j = k
        · rw [if_pos c, if_pos c, List.length_append, List.length_singleton]; omega
        · rw [if_neg c, if_neg c]; exact hr.vec.le j
      · rw [hg j]
        show ((w.rep k).app ++ [(k, (w.row k).length + 1)]).filter _ = _
        rw [List.filter_append, hr.app j]
        by_cases c : j = k
        · subst c
          rw [if_pos rfl, hr.own, List.range_succ, List.map_append, List.filter_cons_of_pos (by simp), List.filter_nil]
          rfl
        · have hcf : (k == j) = false := beq_eq_false_iff_ne.mpr (Ne.symm c)
          rw [if_neg c, List.filter_cons_of_neg (by simp [hcf]), List.filter_nil, List.append_nil]
      · rw [hg k, if_pos rfl, row_add hk', if_pos rfl, List.length_append, List.length_singleton]
      · have hp := hr.pv e h
        have hn' := hr.pn e h
        have ne : e.1 ≠ k := fun c => by
          have h1 := hp.hi
          have h2 := hr.own
          have h3 := hn'.1
          unfold isIn at h3
          have h4 := of_decide_eq_false h3
          rw [c] at h1 h4
          omega
        have hge : (applyE (w.rep k) (k, (w.row k).length + 1)).vec.getD e.1 0 = (w.rep k).vec.getD e.1 0 := by rw [hg, if_neg ne]
        refine ⟨?_, ?_⟩
        · have := hn'.1
          unfold isIn at this ⊢
          rw [hge]; exact this
        · rw [can_add hk' _ hp]
          have h0 := hn'.2
          unfold can at h0 ⊢
          rw [hge]
          cases hd : decide (e.2 = (w.rep k).vec.getD e.1 0 + 1) with
          | false => rfl
          | true =>
            rw [hd, Bool.true_and] at h0
            rw [Bool.true_and]
            have hle := (wf.need e hp)
            cases hw : within (w.ev e).needs (applyE (w.rep k) (k, (w.row k).length + 1)).vec with
            | false => rfl
            | true =>
              have l1 : (w.ev e).needs.length = (applyE (w.rep k) (k, (w.row k).length + 1)).vec.length := by
                rw [hle.len]
                exact ((withE_len _ _).trans hr.vec.len).symm
              have l2 : (w.ev e).needs.length = (w.rep k).vec.length := by rw [hle.len, hr.vec.len]
              have q1 := (within_iff _ _ l1).mp hw
              have q2 : within (w.ev e).needs (w.rep k).vec = true := (within_iff _ _ l2).mpr fun j => by
                have q3 := q1 j
                rw [hg j] at q3
                by_cases c : j = k
                · subst c
                  rw [hr.own]; exact hle.le j
                · rw [if_neg c] at q3; exact q3
              rw [q2] at h0; cases h0
    · rw [if_neg c] at hj'
      exact (wf.rep j r hj').add hk' _ (Ne.symm c)
  · rw [ev_c hn he]
    exact (need1 e (h.c' hn he)).c hn he
  · exact ((wf.msg m h).add hk' _).c hn he
  · rw [many_c hn he, many_add hk']; omega
theorem abs_add {w : MW} (wf : WF w) {k : Nat} (hk : k < w.rows.length) (i : EvI) : abs (w.addEv k i) = abs w := by
  unfold abs
  show (⟨w.reps.length, w.reps.map (absR (w.addEv k i)), w.msgs.map (absG (w.addEv k i))⟩ : House) = _
  have e1 : w.reps.map (absR (w.addEv k i)) = w.reps.map (absR w) := List.map_congr_left fun r hr => by
    obtain ⟨j, hj, e⟩ := List.getElem_of_mem hr
    exact absR_add hk i (wf.rep j r (by rw [List.getElem?_eq_getElem hj, e])).toLWF
  have e2 : w.msgs.map (absG (w.addEv k i)) = w.msgs.map (absG w) := List.map_congr_left fun m hm => absG_add hk i (wf.msg m hm)
  rw [e1, e2]
/-- where no pending event can be applied nothing is settled -/
theorem settle_still {w : MW} (wf : WF w) {k : Nat} (hk : k < w.reps.length) {r : MR} (h : RWF w k r) (f : Nat) (hf : r.pend.length < f) :
    Sq32.settle w.reps.length f (r.app.map (absD w)) (r.pend.map (absD w)) = (r.app.map (absD w), r.pend.map (absD w)) := by
  have e1 : (r.pend.filter fun e => !isIn e r.vec) = r.pend := List.filter_eq_self.mpr fun e he => by rw [(h.pn e he).1]; rfl
  have hl : dropA (loopE w f r) = r := by
    cases f with
    | zero => exact absurd hf (Nat.not_lt_zero _)
    | succ f =>
      have hn : nextE w r = [] := by
        unfold nextE
        have : r.pend.filter (can w r.vec) = [] := List.filter_eq_nil_iff.mpr fun e he => by rw [(h.pn e he).2]; decide
        rw [this]; rfl
      unfold loopE
      rw [hn]
      show dropA r = r
      unfold dropA
      rw [e1]
  have q := (settle_loop wf.need hk f f r (r.pend.map (absD w)) h.toLWF (Nat.lt_of_le_of_lt (List.length_filter_le _ _) hf) (Nat.lt_of_le_of_lt (List.length_filter_le _ _) hf) (by rw [List.filter_map]; rfl)).1
  rw [hl] at q
  exact q
theorem create_law {w : MW} (wf : WF w) {k : Nat} (hk : k < w.reps.length) (v : Nat) (hm : w.many < 60) :
    Sq32.settle w.reps.length (((w.rep k).pend.map (absD w)).length + 1) ((w.rep k).app.map (absD w) ++ [⟨k, (w.row k).length + 1, (w.rep k).vec, v⟩]) ((w.rep k).pend.map (absD w))
      = ((absR (createE w k v) (applyE (w.rep k) (k, (w.row k).length + 1))).taken, (absR (createE w k v) (applyE (w.rep k) (k, (w.row k).length + 1))).waits) ∧
    abs (createE w k v) = (abs w).set k (absR (createE w k v) (applyE (w.rep k) (k, (w.row k).length + 1))) := by
  have hk' : k < w.rows.length := by rw [wf.rl]; exact hk
  have hr := wf.rep k _ (rep_at hk)
  have hn : (createE w k v).reps.length = (w.addEv k ⟨v, (w.rep k).vec⟩).reps.length := setR_len _ _ _
  have he : (createE w k v).rows = (w.addEv k ⟨v, (w.rep k).vec⟩).rows := rfl
  have wf2 := create_wf wf hk v hm
  have hk2 : k < (createE w k v).reps.length := by rw [hn]; exact hk
  have hrep2 : (createE w k v).reps[k]? = some (applyE (w.rep k) (k, (w.row k).length + 1)) := by
    show (w.reps.set k _)[k]? = _
    rw [List.getElem?_set_self hk]
  have hr2 := wf2.rep k _ hrep2
  have hnew : absD (createE w k v) (k, (w.row k).length + 1) = ⟨k, (w.row k).length + 1, (w.rep k).vec, v⟩ := by
    rw [absD_c hn he]
    unfold absD
    have q : (w.addEv k ⟨v, (w.rep k).vec⟩).ev (k, (w.row k).length + 1) = ⟨v, (w.rep k).vec⟩ := by
      unfold MW.ev
      rw [row_add hk', if_pos rfl]
      show ((w.row k) ++ [_]).getD ((w.row k).length + 1 - 1) _ = _
      rw [Nat.add_sub_cancel, List.getD_eq_getElem?_getD, List.getElem?_concat_length]; rfl
    rw [q]
  have hoa : (w.rep k).app.map (absD (createE w k v)) = (w.rep k).app.map (absD w) := by
    rw [absD_c hn he]
    exact List.map_congr_left fun e h => absD_add hk' _ (app_ok hr.toLWF h).1
  have hop : (w.rep k).pend.map (absD (createE w k v)) = (w.rep k).pend.map (absD w) := by
    rw [absD_c hn he]
    exact List.map_congr_left fun e h => absD_add hk' _ (hr.pv e h)
  refine ⟨?_, ?_⟩
  · have q := settle_still wf2 hk2 hr2 ((w.rep k).pend.length + 1) (Nat.lt_succ_self _)
    have e1 : (applyE (w.rep k) (k, (w.row k).length + 1)).app.map (absD (createE w k v)) = (w.rep k).app.map (absD w) ++ [⟨k, (w.row k).length + 1, (w.rep k).vec, v⟩] := by
      show ((w.rep k).app ++ [_]).map _ = _
      rw [List.map_append, hoa, List.map_singleton, hnew]
    have e2 : (applyE (w.rep k) (k, (w.row k).length + 1)).pend.map (absD (createE w k v)) = (w.rep k).pend.map (absD w) := hop
    rw [e1, e2] at q
    rw [List.length_map]
    have en : (createE w k v).reps.length = w.reps.length := hn
    rw [en] at q
    rw [q]
    show (_, _) = (List.map (absD (createE w k v)) (applyE (w.rep k) (k, (w.row k).length + 1)).app, List.map (absD (createE w k v)) (applyE (w.rep k) (k, (w.row k).length + 1)).pend)
    rw [e1, e2]
  · have e3 : absR (createE w k v) = absR (w.addEv k ⟨v, (w.rep k).vec⟩) := absR_c hn he
    rw [e3]
    show abs ((w.addEv k ⟨v, (w.rep k).vec⟩).setR k _) = _
    rw [abs_setR, abs_add wf hk']
end VD
end
/-! ## part law4 -/
section
set_option Elab.async false
set_option linter.all false
namespace VD
open Sq32 (Deed Desk Letter House Counts at_)
/-! ### look-ups -/
theorem done_law {w : MW} (wf : WF w) : (abs w).done = w.many := by
  unfold House.done MW.many
  have e1 : (List.range (abs w).hands).map (fun k => at_ ((abs w).has k) k) = (List.range w.reps.length).map fun k => (w.row k).length :=
    List.map_congr_left fun k hk => by
      have hk' : k < w.reps.length := List.mem_range.mp hk
      rw [has_vec wf hk']
      exact (wf.rep k _ (rep_at hk')).own
  have e2 : w.rows.map List.length = (List.range w.rows.length).map fun k => (w.row k).length := by
    refine List.ext_getElem? fun i => ?_
    rw [List.getElem?_map, List.getElem?_map]
    by_cases hi : i < w.rows.length
    · rw [List.getElem?_range hi, row_at hi]; rfl
    · rw [List.getElem?_eq_none (by omega), List.getElem?_eq_none (by simpa using hi)]; rfl
  rw [e1, e2, wf.rl]
theorem isEv_iff {w : MW} (wf : WF w) (d n : Nat) : w.isEv d n = true ↔ EvOk w (d, n) := by
  unfold MW.isEv
  rw [Bool.and_eq_true, Bool.and_eq_true, decide_eq_true_eq, decide_eq_true_eq, decide_eq_true_eq, wf.rl]
  exact ⟨fun ⟨a, b, c⟩ => ⟨a, b, c⟩, fun ⟨a, b, c⟩ => ⟨a, b, c⟩⟩
theorem deed_law {w : MW} (wf : WF w) (d n : Nat) : (abs w).deed d n = if w.isEv d n = true then some (absD w (d, n)) else none := by
  unfold House.deed
  by_cases hn : n = 0
  · subst hn
    have h : ¬ w.isEv d 0 = true := fun h => by
      have := ((isEv_iff wf d 0).mp h).lo
      have h0 : (1 : Nat) ≤ 0 := this
      exact absurd h0 (by decide)
    rw [if_pos rfl, if_neg h]
  · rw [if_neg hn]
    by_cases hd : d < w.reps.length
    · have hr := wf.rep d _ (rep_at hd)
      rw [desk_at hd]
      show (((w.rep d).app.map (absD w)).filter fun e => e.desk == d)[n - 1]? = _
      rw [List.filter_map]
      have e1 : (w.rep d).app.filter ((fun (e : Deed) => e.desk == d) ∘ absD w) = (List.range (w.row d).length).map fun i => (d, i + 1) := by
        rw [← hr.own]; exact hr.app d
      rw [e1, List.getElem?_map, List.getElem?_map]
      by_cases c : n - 1 < (w.row d).length
      · have h : w.isEv d n = true := (isEv_iff wf d n).mpr ⟨hd, by show 1 ≤ n; omega, by show n ≤ (w.row d).length; omega⟩
        rw [if_pos h, List.getElem?_range c]
        show some (absD w (d, n - 1 + 1)) = _
        rw [Nat.sub_add_cancel (by omega)]
      · have h : ¬ w.isEv d n = true := fun h => by
          have := ((isEv_iff wf d n).mp h).hi
          have h2 : n ≤ (w.row d).length := this
          omega
        rw [if_neg h, List.getElem?_eq_none (by simpa using c)]; rfl
    · have h : ¬ w.isEv d n = true := fun h => hd ((isEv_iff wf d n).mp h).r
      rw [if_neg h]
      have e : (abs w).desk d = ⟨[], [], []⟩ := by
        unfold House.desk
        show ((w.reps.map (absR w))[d]?).getD _ = _
        rw [List.getElem?_eq_none (by rw [List.length_map]; omega)]; rfl
      rw [e]; rfl
theorem find_law {w : MW} (wf : WF w) {k : Nat} (hk : k < w.reps.length) (d n : Nat) :
    ((abs w).desk k).taken.find? (fun e => e.desk == d && e.n == n) = if w.isEv d n = true ∧ isIn (d, n) (w.rep k).vec = true then some (absD w (d, n)) else none := by
  have hr := wf.rep k _ (rep_at hk)
  rw [desk_at hk]
  show ((w.rep k).app.map (absD w)).find? _ = _
  rw [find_map (absD w) _ (fun e => e.1 == d && e.2 == n) _ fun x _ => rfl]
  have hq : ∀ e : Ev, (e.1 == d && e.2 == n) = true ↔ e = (d, n) := fun e => by
    rw [Bool.and_eq_true, beq_iff_eq, beq_iff_eq]
    exact ⟨fun ⟨a, b⟩ => Prod.ext a b, fun h => by rw [h]; exact ⟨rfl, rfl⟩⟩
  by_cases c : w.isEv d n = true ∧ isIn (d, n) (w.rep k).vec = true
  · rw [if_pos c]
    have hev := (isEv_iff wf d n).mp c.1
    have hin := c.2
    unfold isIn at hin
    have hm : (d, n) ∈ (w.rep k).app := app_in hr.toLWF hev.lo (of_decide_eq_true hin)
    cases hf : (w.rep k).app.find? (fun e => e.1 == d && e.2 == n) with
    | none => exact absurd ((hq (d, n)).mpr rfl) (List.find?_eq_none.mp hf _ hm)
    | some e =>
      have h0 : (e.1 == d && e.2 == n) = true := List.find?_some (p := fun e : Ev => e.1 == d && e.2 == n) hf
      rw [(hq e).mp h0]; rfl
  · rw [if_neg c]
    cases hf : (w.rep k).app.find? (fun e => e.1 == d && e.2 == n) with
    | none => rfl
    | some e =>
      exfalso
      have h0 : (e.1 == d && e.2 == n) = true := List.find?_some (p := fun e : Ev => e.1 == d && e.2 == n) hf
      have h1 := (hq e).mp h0
      have h2 := List.mem_of_find?_eq_some hf
      rw [h1] at h2
      have h3 := app_ok hr.toLWF h2
      exact c ⟨(isEv_iff wf d n).mpr h3.1, decide_eq_true h3.2⟩
theorem sure_law {w : MW} (wf : WF w) {k j : Nat} (hk : k < w.reps.length) (hj : j < w.reps.length) : (abs w).sure k j = knownV w k j ∧ (knownV w k j).length = w.reps.length := by
  have hr := wf.rep k _ (rep_at hk)
  unfold House.sure knownV
  by_cases c : k = j
  · rw [if_pos c, if_pos c, has_vec wf hk]
    exact ⟨rfl, hr.vec.len⟩
  · rw [if_neg c, if_neg c, desk_at hk]
    exact known_at hr.toLWF hj _
theorem lacks_law {w : MW} (wf : WF w) {k j : Nat} (hk : k < w.reps.length) (hj : j < w.reps.length) : (abs w).lacks k j = (lackE w k j).map (absD w) := by
  unfold House.lacks lackE
  rw [desk_at hk, (sure_law wf hk hj).1]
  show ((w.rep k).app.map (absD w)).filter _ = _
  rw [List.filter_map]; rfl
theorem all_law {w : MW} (wf : WF w) {k : Nat} (hk : k < w.reps.length) : (abs w).all k = stableV w k := by
  unfold House.all stableV
  rw [has_vec wf hk]
  have hl : (w.rep k).vec.length = w.reps.length := (wf.rep k _ (rep_at hk)).vec.len
  show (List.range w.reps.length).foldl _ _ = _
  have key : ∀ (l : List Nat) (v : List Nat), v.length = w.reps.length → (∀ j ∈ l, j < w.reps.length) →
      l.foldl (fun (c : Counts) j => (List.range w.reps.length).map fun i => min (at_ c i) (at_ ((abs w).sure k j) i)) v = l.foldl (fun f j => les f (knownV w k j)) v := by
    intro l
    induction l with
    | nil => intro _ _ _; rfl
    | cons j l ih =>
      intro v hv hj
      have hs := sure_law wf hk (hj j List.mem_cons_self)
      have hvl : v.length = (knownV w k j).length := by rw [hv, hs.2]
      rw [List.foldl_cons, List.foldl_cons]
      have e : ((List.range w.reps.length).map fun i => min (at_ v i) (at_ ((abs w).sure k j) i)) = les v (knownV w k j) := by
        rw [hs.1, ← hv]
        exact zip_at min v _ hvl
      rw [e]
      exact ih _ (by rw [les_len _ _ hvl, hv]) fun i hi => hj i (List.mem_cons_of_mem _ hi)
  exact key _ _ hl fun j hj => List.mem_range.mp hj
theorem told3_law (w : MW) (l : List Ev) : (Sq32.told (l.map (absD w))).value :: (Sq32.told (l.map (absD w))).out = told3 w l := by
  unfold Sq32.told told3 Sq32.ints
  rw [List.length_map]
  show _ :: _ = _ :: _
  rw [List.flatMap_map, List.map_flatMap]; rfl
theorem told2_law (w : MW) (l : List Ev) : (((l.map (absD w)).length : Int) :: Sq32.ints ((l.map (absD w)).flatMap fun d => [d.desk, d.n])) = told2 l := by
  unfold told2 Sq32.ints
  rw [List.length_map, List.flatMap_map, List.map_flatMap]; rfl
/-! ### sizes -/
def allE (w : MW) : List Ev := (List.range w.rows.length).flatMap fun j => (List.range (w.row j).length).map fun i => (j, i + 1)
theorem nodup_le {α : Type} [DecidableEq α] : ∀ (l D : List α), l.Nodup → (∀ x ∈ l, x ∈ D) → l.length ≤ D.length
  | [], _, _, _ => Nat.zero_le _
  | x :: l, D, hn, hs => by
    have h := List.nodup_cons.mp hn
    have hx : x ∈ D := hs x List.mem_cons_self
    have ih := nodup_le l (D.erase x) h.2 fun y hy => (List.mem_erase_of_ne fun e => h.1 (by rw [← e]; exact hy)).mpr (hs y (List.mem_cons_of_mem _ hy))
    have e := List.length_erase_of_mem hx
    have hp : 0 < D.length := List.length_pos_of_mem hx
    rw [List.length_cons]; omega
theorem allE_len (w : MW) : (allE w).length = w.many := by
  unfold allE MW.many
  rw [List.length_flatMap]
  congr 1
  refine List.ext_getElem? fun i => ?_
  rw [List.getElem?_map, List.getElem?_map]
  by_cases hi : i < w.rows.length
  · rw [List.getElem?_range hi, row_at hi]
    show some ((List.range (w.row i).length).map fun j => (i, j + 1)).length = some (w.row i).length
    rw [List.length_map, List.length_range]
  · rw [List.getElem?_eq_none (by simpa using hi), List.getElem?_eq_none (by omega)]; rfl
theorem allE_mem {w : MW} (wf : WF w) {e : Ev} (h : EvOk w e) : e ∈ allE w := by
  unfold allE
  refine List.mem_flatMap.mpr ⟨e.1, List.mem_range.mpr (by rw [wf.rl]; exact h.r), List.mem_map.mpr ⟨e.2 - 1, List.mem_range.mpr ?_, ?_⟩⟩
  · have := h.hi; have := h.lo; omega
  · have := h.lo
    show (e.1, e.2 - 1 + 1) = e
    rw [Nat.sub_add_cancel this]
theorem evs_few {w : MW} (wf : WF w) {l : List Ev} (hn : l.Nodup) (h : ∀ e ∈ l, EvOk w e) : l.length ≤ 60 := by
  have := nodup_le l (allE w) hn fun e he => allE_mem wf (h e he)
  rw [allE_len] at this
  exact Nat.le_trans this wf.tot
theorem app_nodup {w : MW} {k : Nat} {r : MR} (h : LWF w k r) : r.app.Nodup := by
  refine List.nodup_iff_count.mpr fun e => ?_
  have e1 : r.app.count e = (r.app.filter fun x => x.1 == e.1).count e := by
    rw [List.count_filter (by simp)]
  rw [e1, h.app e.1]
  refine List.nodup_iff_count.mp ?_ e
  unfold List.Nodup
  rw [List.pairwise_map]
  refine List.Pairwise.imp ?_ (List.nodup_range (n := r.vec.getD e.1 0))
  intro a b h1 h2
  exact h1 (by simpa using h2)
theorem app_few {w : MW} (wf : WF w) {k : Nat} {r : MR} (h : LWF w k r) : r.app.length ≤ 60 := evs_few wf (app_nodup h) fun e he => (app_ok h he).1
theorem lex_nodup {l : List Ev} (h : l.Pairwise Lex) : l.Nodup := List.Pairwise.imp (fun {a b} q (e : a = b) => lex_irr a (by rw [← e] at q; exact q)) h
theorem pend_few {w : MW} (wf : WF w) {k : Nat} {r : MR} (h : LWF w k r) : r.pend.length ≤ 60 := evs_few wf (lex_nodup h.ps) h.pv
end VD
end
/-! ## part law5 -/
section
set_option Elab.async false
set_option linter.all false
namespace VD
open Sq32 (Deed Desk Letter House Counts at_)
theorem mkR_wf (n k : Nat) (hn : 1 ≤ n) : RWF (mkW n) k (mkR n) := by
  have hl : (mkW n).reps.length = n := List.length_replicate
  have h0 : ∀ j, (List.replicate n 0).getD j 0 = 0 := fun j => by
    rw [List.getD_eq_getElem?_getD, List.getElem?_replicate]
    split <;> rfl
  have hrow : ∀ j, (mkW n).row j = [] := fun j => by
    unfold MW.row
    show (List.replicate n []).getD j [] = []
    rw [List.getD_eq_getElem?_getD, List.getElem?_replicate]
    split <;> rfl
  refine ⟨⟨⟨?_, fun j => ?_⟩, ?_, fun v hv => ?_, fun j => ?_, ?_, fun e he => (by cases he), List.Pairwise.nil⟩, fun e he => (by cases he)⟩
  · rw [hl]; exact List.length_replicate
  · show (List.replicate n 0).getD j 0 ≤ _
    rw [h0]; exact Nat.zero_le _
  · rw [hl]; exact List.length_replicate
  · rw [(List.mem_replicate.mp hv).2, hl]; exact List.length_replicate
  · show _ = (List.range ((List.replicate n 0).getD j 0)).map _
    rw [h0]; rfl
  · show (List.replicate n 0).getD k 0 = _
    rw [h0, hrow]; rfl
theorem mkW_wf (n : Nat) (h1 : 1 ≤ n) (h6 : n ≤ 6) : WF (mkW n) := by
  have hl : (mkW n).reps.length = n := List.length_replicate
  refine ⟨by rw [hl]; exact h1, by rw [hl]; exact h6, ?_, fun k r hr => ?_, fun e he => ?_, fun m hm => (by cases hm), ?_, Nat.zero_le _⟩
  · show (List.replicate n _).length = (List.replicate n _).length
    rw [List.length_replicate, List.length_replicate]
  · have hr' : (List.replicate n (mkR n))[k]? = some r := hr
    rw [List.getElem?_replicate] at hr'
    split at hr'
    · cases hr'; exact mkR_wf n k h1
    · cases hr'
  · have h := he.hi
    have h' := he.lo
    unfold MW.row at h
    have e2 : (mkW n).rows.getD e.1 [] = [] := by
      show (List.replicate n []).getD e.1 [] = []
      rw [List.getD_eq_getElem?_getD, List.getElem?_replicate]
      split <;> rfl
    rw [e2] at h
    have h3 : e.2 ≤ 0 := h
    omega
  · unfold MW.many
    show ((List.replicate n ([] : List EvI)).map List.length).sum ≤ 60
    rw [List.map_replicate, List.sum_replicate_nat]
    show n * 0 ≤ 60
    omega
theorem abs_mkW (n : Nat) : abs (mkW n) = Sq32.none_ n := by
  unfold abs Sq32.none_ mkW
  show (⟨(List.replicate n (mkR n)).length, (List.replicate n (mkR n)).map _, [].map _⟩ : House) = _
  rw [List.length_replicate, List.map_replicate]; rfl
theorem put_wf {w : MW} (wf : WF w) {k j : Nat} (hk : k < w.reps.length) (hj : j < w.reps.length) (ne : k ≠ j) {l : List Ev} (hl : ∀ e ∈ l, EvOk w e) (hf : l.length ≤ 60) (hm : w.msgs.length < 200) : WF (putM w k j l) := by
  have hn : (putM w k j l).reps.length = w.reps.length := rfl
  have he : (putM w k j l).rows = w.rows := rfl
  refine ⟨wf.n1, wf.n6, wf.rl, fun i r hr => (wf.rep i r hr).c hn he, fun e h => (wf.need e (h.c' hn he)).c hn he, fun m h => ?_, wf.tot, ?_⟩
  · rcases List.mem_append.mp (show m ∈ w.msgs ++ [_] from h) with h | h
    · exact (wf.msg m h).c hn he
    · rw [List.mem_singleton.mp h]
      exact ⟨hk, hj, ne, (wf.rep k _ (rep_at hk)).vec.len, fun e q => (hl e q).c hn he, hf⟩
  · show (w.msgs ++ [_]).length ≤ 200
    rw [List.length_append, List.length_singleton]; omega
theorem abs_put (w : MW) (k j : Nat) (l : List Ev) : abs (putM w k j l) = { abs w with letters := (abs w).letters ++ [⟨k, j, (w.rep k).vec, l.map (absD w)⟩] } := by
  have hn : (putM w k j l).reps.length = w.reps.length := rfl
  have he : (putM w k j l).rows = w.rows := rfl
  unfold abs
  rw [absR_c hn he, absG_c hn he]
  show (⟨_, _, (w.msgs ++ [_]).map (absG w)⟩ : House) = ⟨_, _, w.msgs.map (absG w) ++ _⟩
  rw [List.map_append]; rfl
theorem rep_setR {w : MW} {k : Nat} (hk : k < w.reps.length) (r : MR) : (w.setR k r).rep k = r := by
  refine rep_of ?_
  show (w.reps.set k r)[k]? = some r
  rw [List.getElem?_set_self hk]
theorem msg_at (w : MW) (i : Nat) : (abs w).letters[i]? = (w.msgs[i]?).map (absG w) := List.getElem?_map
def Agree (x : House × Sq32.Out) (y : MW × List Int) : Prop := x.1 = abs y.1 ∧ x.2.value :: x.2.out = y.2 ∧ WF y.1
theorem agree_if {c c' : Prop} [Decidable c] [Decidable c'] {x x' : House × Sq32.Out} {y y' : MW × List Int} (h : c ↔ c') (ht : c' → Agree x y) (hf : ¬ c' → Agree x' y') : Agree (if c then x else x') (if c' then y else y') := by
  by_cases k : c'
  · rw [if_pos k, if_pos (h.mpr k)]; exact ht k
  · rw [if_neg k, if_neg (fun q => k (h.mp q))]; exact hf k
theorem agree_says {w : MW} (wf : WF w) (z : Int) : Agree (abs w, Sq32.says z) (w, [z]) := ⟨rfl, rfl, wf⟩
theorem agree_does {w : MW} (wf : WF w) (k v : Nat) : Agree (House.step (abs w) (.does k v)) (stepM w (.does k v)) := by
  refine agree_if Iff.rfl (fun _ => agree_says wf _) fun c1 => agree_if Iff.rfl (fun _ => agree_says wf _) fun c2 => agree_if ?_ (fun _ => agree_says wf _) fun c3 => ?_
  · have ht := wf.tot
    rw [done_law wf]
    unfold Sq32.DEEDS
    omega
  · have ht := wf.tot
    have hk : k < w.reps.length := by omega
    have hr := wf.rep k _ (rep_at hk)
    have q := create_law wf hk v (by omega)
    have ho : at_ (w.rep k).vec k = (w.row k).length := hr.own
    have wf2 := create_wf wf hk v (by omega)
    have q1 : Sq32.settle w.reps.length ((absR w (w.rep k)).waits.length + 1) ((absR w (w.rep k)).taken ++ [⟨k, (w.row k).length + 1, (w.rep k).vec, v⟩]) (absR w (w.rep k)).waits = _ := q.1
    rw [desk_at hk, has_vec wf hk, ho]
    refine ⟨?_, rfl, wf2⟩
    show House.set (abs w) k { absR w (w.rep k) with
      taken := (Sq32.settle w.reps.length ((absR w (w.rep k)).waits.length + 1) ((absR w (w.rep k)).taken ++ [⟨k, (w.row k).length + 1, (w.rep k).vec, v⟩]) (absR w (w.rep k)).waits).1,
      waits := (Sq32.settle w.reps.length ((absR w (w.rep k)).waits.length + 1) ((absR w (w.rep k)).taken ++ [⟨k, (w.row k).length + 1, (w.rep k).vec, v⟩]) (absR w (w.rep k)).waits).2 } = abs (createE w k v)
    rw [q1, q.2]; rfl
theorem letters_len (w : MW) : (abs w).letters.length = w.msgs.length := List.length_map _
theorem agree_send {w : MW} (wf : WF w) (k j : Nat) : Agree (House.step (abs w) (.send k j)) (stepM w (.send k j)) := by
  refine agree_if Iff.rfl (fun _ => agree_says wf _) fun c1 => agree_if ?_ (fun _ => agree_says wf _) fun c2 => ?_
  · have hm := wf.mm
    rw [letters_len]
    unfold Sq32.LETTERS
    omega
  · have hm := wf.mm
    have hk : k < w.reps.length := by omega
    have hj : j < w.reps.length := by omega
    have hr := wf.rep k _ (rep_at hk)
    rw [lacks_law wf hk hj, has_vec wf hk]
    show Agree ({ abs w with letters := (abs w).letters ++ [⟨k, j, (w.rep k).vec, (lackE w k j).map (absD w)⟩] }, ⟨((abs w).letters.length : Int), [(((lackE w k j).map (absD w)).length : Int)]⟩) _
    rw [List.length_map, letters_len]
    refine ⟨(abs_put w k j _).symm, rfl, put_wf wf hk hj (by omega) (fun e he => (app_ok hr.toLWF (List.mem_filter.mp he).1).1) ?_ (by omega)⟩
    exact Nat.le_trans (List.length_filter_le _ _) (app_few wf hr.toLWF)
theorem agree_post {w : MW} (wf : WF w) (k j d n : Nat) : Agree (House.step (abs w) (.post k j d n)) (stepM w (.post k j d n)) := by
  refine agree_if Iff.rfl (fun _ => agree_says wf _) fun c1 => ?_
  have hm := wf.mm
  have hk : k < w.reps.length := by omega
  have hj : j < w.reps.length := by omega
  rw [find_law wf hk]
  by_cases c : w.isEv d n = true ∧ isIn (d, n) (w.rep k).vec = true
  · rw [if_pos c, if_pos c]
    refine agree_if ?_ (fun _ => agree_says wf _) fun c2 => ?_
    · rw [letters_len]
      unfold Sq32.LETTERS
      omega
    · rw [has_vec wf hk, letters_len]
      refine ⟨(abs_put w k j [(d, n)]).symm, rfl, put_wf wf hk hj (by omega) (fun e he => ?_) (by show 1 ≤ 60; decide) (by omega)⟩
      rw [List.mem_singleton.mp he]
      exact (isEv_iff wf d n).mp c.1
  · rw [if_neg c, if_neg c]
    exact agree_says wf _
theorem agree_comes {w : MW} (wf : WF w) (i : Nat) : Agree (House.step (abs w) (.comes i)) (stepM w (.comes i)) := by
  show Agree (match (abs w).letters[i]? with
    | none => (abs w, Sq32.says (-2))
    | some m => _) (match w.msgs[i]? with
    | none => (w, [-2])
    | some m => _)
  rw [msg_at]
  cases hi : w.msgs[i]? with
  | none => exact agree_says wf _
  | some m =>
    have hm := wf.msg m (List.mem_of_getElem? hi)
    have q := deliver_law wf hm
    have e1 : (deliverM w m).rep m.to = learnE (takeE w (w.rep m.to) m.evs) m := rep_setR hm.to _
    have g : ((abs w).desk (absG w m).to).gets (abs w).hands (absG w m).deeds = absR w (takeE w (w.rep m.to) m.evs) := q.2.2.1
    have d : (abs w).desk (absG w m).to = absR w (w.rep m.to) := desk_at hm.to
    rw [Option.map_some]
    show Agree (House.set (abs w) m.to { ((abs w).desk (absG w m).to).gets (abs w).hands (absG w m).deeds with
        sure := (((abs w).desk (absG w m).to).gets (abs w).hands (absG w m).deeds).sure.set m.frm (Sq32.most (((((abs w).desk (absG w m).to).gets (abs w).hands (absG w m).deeds).sure[m.frm]?).getD (List.replicate w.reps.length 0)) m.vec) },
        ⟨((((abs w).desk (absG w m).to).gets (abs w).hands (absG w m).deeds).taken.length : Int) - (((abs w).desk (absG w m).to).taken.length : Int), [((((abs w).desk (absG w m).to).gets (abs w).hands (absG w m).deeds).waits.length : Int)]⟩)
      (deliverM w m, [(((deliverM w m).rep m.to).app.length : Int) - ((w.rep m.to).app.length : Int), (((deliverM w m).rep m.to).pend.length : Int)])
    rw [g, d, e1]
    have hs : (absR w (takeE w (w.rep m.to) m.evs)).sure = (w.rep m.to).known := q.2.2.2
    refine ⟨?_, ?_, q.1⟩
    · rw [hs]
      exact q.2.1.symm
    · show [(((takeE w (w.rep m.to) m.evs).app.map (absD w)).length : Int) - (((w.rep m.to).app.map (absD w)).length : Int), (((takeE w (w.rep m.to) m.evs).pend.map (absD w)).length : Int)] = _
      rw [List.length_map, List.length_map, List.length_map]; rfl
theorem agree_hangs {w : MW} (wf : WF w) (d n e m : Nat) : Agree (House.step (abs w) (.hangs d n e m)) (stepM w (.hangs d n e m)) := by
  show Agree (match (abs w).deed d n, (abs w).deed e m with
    | some x, some y => (abs w, Sq32.says (if Sq32.was y.after x = true then 1 else if Sq32.was x.after y = true then 2 else 0))
    | _, _ => (abs w, Sq32.says (-2))) (if w.isEv d n = true ∧ w.isEv e m = true then (w, [if dep w (e, m) (d, n) = true then 1 else if dep w (d, n) (e, m) = true then 2 else 0]) else (w, [-2]))
  rw [deed_law wf, deed_law wf]
  by_cases c1 : w.isEv d n = true
  · by_cases c2 : w.isEv e m = true
    · rw [if_pos c1, if_pos c2, if_pos ⟨c1, c2⟩]
      exact ⟨rfl, rfl, wf⟩
    · rw [if_pos c1, if_neg c2, if_neg fun h => c2 h.2]
      exact agree_says wf _
  · rw [if_neg c1, if_neg fun h : w.isEv d n = true ∧ w.isEv e m = true => c1 h.1]
    exact agree_says wf _
/-- THE LAW of one operation -/
theorem step_law {w : MW} (wf : WF w) (c : Sq32.Call) : Agree (House.step (abs w) c) (stepM w c) := by
  cases c with
  | begin_ n =>
    by_cases c : 1 ≤ n ∧ n ≤ 6
    · have c' : ¬ (n = 0 ∨ Sq32.HANDS < n) := by unfold Sq32.HANDS; omega
      show Agree (if n = 0 ∨ Sq32.HANDS < n then _ else _) (if 1 ≤ n ∧ n ≤ 6 then _ else _)
      rw [if_pos c, if_neg c']
      exact ⟨(abs_mkW n).symm, rfl, mkW_wf n c.1 c.2⟩
    · have c' : n = 0 ∨ Sq32.HANDS < n := by unfold Sq32.HANDS; omega
      show Agree (if n = 0 ∨ Sq32.HANDS < n then _ else _) (if 1 ≤ n ∧ n ≤ 6 then _ else _)
      rw [if_neg c, if_pos c']
      exact agree_says wf _
  | does k v => exact agree_does wf k v
  | send k j => exact agree_send wf k j
  | post k j d n => exact agree_post wf k j d n
  | comes i => exact agree_comes wf i
  | taken k =>
    refine agree_if Iff.rfl (fun _ => agree_says wf _) fun c1 => ?_
    rw [desk_at (by omega)]
    exact ⟨rfl, told3_law w _, wf⟩
  | waits k =>
    refine agree_if Iff.rfl (fun _ => agree_says wf _) fun c1 => ?_
    rw [desk_at (by omega)]
    exact ⟨rfl, told3_law w _, wf⟩
  | has k =>
    refine agree_if Iff.rfl (fun _ => agree_says wf _) fun c1 => ?_
    rw [has_vec wf (by omega)]
    exact ⟨rfl, rfl, wf⟩
  | sure k j =>
    refine agree_if Iff.rfl (fun _ => agree_says wf _) fun c1 => ?_
    rw [(sure_law wf (show k < w.reps.length by omega) (show j < w.reps.length by omega)).1]
    exact ⟨rfl, rfl, wf⟩
  | all k =>
    refine agree_if Iff.rfl (fun _ => agree_says wf _) fun c1 => ?_
    rw [all_law wf (by omega)]
    exact ⟨rfl, rfl, wf⟩
  | hangs d n e m => exact agree_hangs wf d n e m
  | letter i =>
    show Agree (match (abs w).letters[i]? with
      | none => (abs w, Sq32.says (-2))
      | some m => _) (match w.msgs[i]? with
      | none => (w, [-2])
      | some m => _)
    rw [msg_at]
    cases hi : w.msgs[i]? with
    | none => exact agree_says wf _
    | some m => exact ⟨rfl, told2_law w _, wf⟩
end VD
end
/-! ## part law6 -/
section
set_option Elab.async false
set_option linter.all false
namespace VD
open Sq32 (Call House)
/-! ### the calls as the program reads them -/
def enc : Call → List Int
  | .begin_ a => [1, (a : Int)]
  | .does a b => [2, (a : Int), (b : Int)]
  | .send a b => [3, (a : Int), (b : Int)]
  | .post a b c d => [4, (a : Int), (b : Int), (c : Int), (d : Int)]
  | .comes a => [5, (a : Int)]
  | .taken a => [6, (a : Int)]
  | .waits a => [7, (a : Int)]
  | .has a => [8, (a : Int)]
  | .sure a b => [9, (a : Int), (b : Int)]
  | .all a => [10, (a : Int)]
  | .hangs a b c d => [11, (a : Int), (b : Int), (c : Int), (d : Int)]
  | .letter a => [12, (a : Int)]
/-- the mirror's answers, call by call -/
def runM : MW → List Call → List (List Int)
  | _, [] => []
  | w, c :: cs => (stepM w c).2 :: runM (stepM w c).1 cs
theorem whole_id (c : List (List Int)) : PySq32.whole c = c := by
  unfold PySq32.whole
  split <;> rfl
theorem nat_of {a : Int} (h : Sq32Neutral.natural a 64 = true) : (a.toNat : Int) = a := by
  unfold Sq32Neutral.natural at h
  rw [Bool.and_eq_true, decide_eq_true_eq] at h
  exact Int.toNat_of_nonneg h.1
theorem call_of {c : List (List Int)} (h : Sq32Neutral.asked1 c = true) : ∃ x, c = [enc x] ∧ Sq32Neutral.callOf c = some x := by
  unfold Sq32Neutral.asked1 at h
  split at h
  · exact ⟨.begin_ _, by rw [enc, nat_of h], rfl⟩
  · rw [Bool.and_eq_true] at h; exact ⟨.does _ _, by rw [enc, nat_of h.1, nat_of h.2], rfl⟩
  · rw [Bool.and_eq_true] at h; exact ⟨.send _ _, by rw [enc, nat_of h.1, nat_of h.2], rfl⟩
  · rw [Bool.and_eq_true, Bool.and_eq_true, Bool.and_eq_true] at h
    exact ⟨.post _ _ _ _, by rw [enc, nat_of h.1, nat_of h.2.1, nat_of h.2.2.1, nat_of h.2.2.2], rfl⟩
  · exact ⟨.comes _, by rw [enc, nat_of h], rfl⟩
  · exact ⟨.taken _, by rw [enc, nat_of h], rfl⟩
  · exact ⟨.waits _, by rw [enc, nat_of h], rfl⟩
  · exact ⟨.has _, by rw [enc, nat_of h], rfl⟩
  · rw [Bool.and_eq_true] at h; exact ⟨.sure _ _, by rw [enc, nat_of h.1, nat_of h.2], rfl⟩
  · exact ⟨.all _, by rw [enc, nat_of h], rfl⟩
  · rw [Bool.and_eq_true, Bool.and_eq_true, Bool.and_eq_true] at h
    exact ⟨.hangs _ _ _ _, by rw [enc, nat_of h.1, nat_of h.2.1, nat_of h.2.2.1, nat_of h.2.2.2], rfl⟩
  · exact ⟨.letter _, by rw [enc, nat_of h], rfl⟩
  · cases h
theorem calls_of : ∀ (cs : List (List (List Int))), (∀ c ∈ cs, Sq32Neutral.asked1 c = true) → ∃ xs : List Call, cs = xs.map (fun x => [enc x]) ∧ ∀ x ∈ xs, Sq32Neutral.callOf [enc x] = some x
  | [], _ => ⟨[], rfl, fun x h => by cases h⟩
  | c :: cs, h => by
    obtain ⟨x, e, q⟩ := call_of (h c List.mem_cons_self)
    obtain ⟨xs, e2, q2⟩ := calls_of cs fun d hd => h d (List.mem_cons_of_mem _ hd)
    refine ⟨x :: xs, by rw [List.map_cons, ← e, ← e2], fun y hy => ?_⟩
    rcases List.mem_cons.mp hy with r | r
    · rw [r, ← e]; exact q
    · exact q2 y r
theorem put_enc : ∀ xs : List Call, PyFlat.put (xs.map fun x => [enc x]) = xs.flatMap enc
  | [] => rfl
  | x :: xs => by
    rw [List.map_cons, List.flatMap_cons]
    show (enc x ++ []) ++ PyFlat.put (xs.map fun x => [enc x]) = _
    rw [put_enc xs, List.append_nil]
theorem played_run : ∀ (xs : List Call) (w : MW), WF w → (∀ x ∈ xs, Sq32Neutral.callOf [enc x] = some x) → PyFlat.played Sq32Neutral.step (abs w) (xs.map fun x => [enc x]) = runM w xs
  | [], _, _, _ => rfl
  | x :: xs, w, wf, h => by
    have q := step_law wf x
    have hx := h x List.mem_cons_self
    have e : Sq32Neutral.step (abs w) [enc x] = ((House.step (abs w) x).1, (House.step (abs w) x).2.value :: (House.step (abs w) x).2.out) := by
      unfold Sq32Neutral.step
      rw [hx]
    rw [List.map_cons]
    show (Sq32Neutral.step (abs w) [enc x]).2 :: PyFlat.played Sq32Neutral.step (Sq32Neutral.step (abs w) [enc x]).1 _ = (stepM w x).2 :: runM (stepM w x).1 xs
    rw [e]
    show ((House.step (abs w) x).2.value :: (House.step (abs w) x).2.out) :: PyFlat.played Sq32Neutral.step (House.step (abs w) x).1 _ = _
    rw [q.1, q.2.1, played_run xs _ q.2.2 fun y hy => h y (List.mem_cons_of_mem _ hy)]
/-- what is asked, and what is due, by the mirror -/
theorem answers_law {l : List Int} (h : PySq32.answers_asked l = true) : ∃ xs : List Call, l = xs.flatMap enc ∧ PySq32.answers l = PyFlat.told (runM (mkW 1) xs) ∧ (PyFlat.told (runM (mkW 1) xs)).length ≤ 10000000 := by
  unfold PySq32.answers_asked at h
  cases hc : PyFlat.calls PySq32.shape l.length l with
  | none => rw [hc] at h; cases h
  | some raw =>
    rw [hc] at h
    simp only [Bool.and_eq_true] at h
    obtain ⟨⟨_, hask⟩, hshort⟩ := h
    have hw : raw.map PySq32.whole = raw := by
      refine List.ext_getElem? fun i => ?_
      rw [List.getElem?_map]
      cases raw[i]? with
      | none => rfl
      | some c => show some (PySq32.whole c) = _; rw [whole_id]
    rw [hw] at hask
    unfold Sq32Neutral.asked at hask
    simp only [Bool.and_eq_true] at hask
    obtain ⟨xs, e, q⟩ := calls_of raw fun c hm => List.all_eq_true.mp hask.2.2.1 c hm
    have hp := (PyFlat.put_calls _ _ _ hc).1
    have ha : PySq32.answers l = PyFlat.told (runM (mkW 1) xs) := by
      unfold PySq32.answers PySq32.calls
      rw [hc]
      show PyFlat.told (PyFlat.played Sq32Neutral.step Sq32Neutral.start (raw.map PySq32.whole)) = _
      rw [hw, e]
      have hs : Sq32Neutral.start = abs (mkW 1) := (abs_mkW 1).symm
      rw [hs, played_run xs (mkW 1) (mkW_wf 1 (by decide) (by decide)) q]
    refine ⟨xs, by rw [hp, e, put_enc], ha, ?_⟩
    rw [← ha]
    exact of_decide_eq_true hshort
end VD
end
/-! ## part step -/
section
set_option Elab.async false
set_option linter.all false
namespace VD
open Sq32 (Call)
def opNo : Call → Nat
  | .begin_ _ => 1
  | .does _ _ => 2
  | .send _ _ => 3
  | .post _ _ _ _ => 4
  | .comes _ => 5
  | .taken _ => 6
  | .waits _ => 7
  | .has _ => 8
  | .sure _ _ => 9
  | .all _ => 10
  | .hangs _ _ _ _ => 11
  | .letter _ => 12
def argsOf : Call → List Nat
  | .begin_ a => [a]
  | .does a b => [a, b]
  | .send a b => [a, b]
  | .post a b c d => [a, b, c, d]
  | .comes a => [a]
  | .taken a => [a]
  | .waits a => [a]
  | .has a => [a]
  | .sure a b => [a, b]
  | .all a => [a]
  | .hangs a b c d => [a, b, c, d]
  | .letter a => [a]
theorem enc_eq (c : Call) : enc c = (opNo c : Int) :: (argsOf c).map fun (n : Nat) => (n : Int) := by cases c <;> rfl
section
variable {w : MW} {k j v n d i m e : Nat}
theorem st_begin0 (h : ¬ (1 ≤ n ∧ n ≤ 6)) : stepM w (.begin_ n) = (w, [-1]) := if_neg h
theorem st_begin (h : 1 ≤ n ∧ n ≤ 6) : stepM w (.begin_ n) = (mkW n, [0]) := if_pos h
theorem st_does1 (h : w.reps.length ≤ k) : stepM w (.does k v) = (w, [-2]) := if_pos h
theorem st_does2 (h : ¬ w.reps.length ≤ k) (h2 : 1000000000 < v) : stepM w (.does k v) = (w, [-1]) := (if_neg h).trans (if_pos h2)
theorem st_does3 (h : ¬ w.reps.length ≤ k) (h2 : ¬ 1000000000 < v) (h3 : w.many = 60) : stepM w (.does k v) = (w, [-5]) := (if_neg h).trans ((if_neg h2).trans (if_pos h3))
theorem st_does (h : ¬ w.reps.length ≤ k) (h2 : ¬ 1000000000 < v) (h3 : ¬ w.many = 60) : stepM w (.does k v) = (createE w k v, [(((w.row k).length + 1 : Nat) : Int)]) := (if_neg h).trans ((if_neg h2).trans (if_neg h3))
theorem st_send1 (h : w.reps.length ≤ k ∨ w.reps.length ≤ j ∨ k = j) : stepM w (.send k j) = (w, [-2]) := if_pos h
theorem st_send2 (h : ¬ (w.reps.length ≤ k ∨ w.reps.length ≤ j ∨ k = j)) (h2 : w.msgs.length = 200) : stepM w (.send k j) = (w, [-5]) := (if_neg h).trans (if_pos h2)
theorem st_send (h : ¬ (w.reps.length ≤ k ∨ w.reps.length ≤ j ∨ k = j)) (h2 : ¬ w.msgs.length = 200) : stepM w (.send k j) = (putM w k j (lackE w k j), [(w.msgs.length : Int), ((lackE w k j).length : Int)]) := (if_neg h).trans (if_neg h2)
theorem st_post1 (h : w.reps.length ≤ k ∨ w.reps.length ≤ j ∨ k = j) : stepM w (.post k j d n) = (w, [-2]) := if_pos h
theorem st_post2 (h : ¬ (w.reps.length ≤ k ∨ w.reps.length ≤ j ∨ k = j)) (h2 : ¬ (w.isEv d n = true ∧ isIn (d, n) (w.rep k).vec = true)) : stepM w (.post k j d n) = (w, [-3]) := (if_neg h).trans (if_neg h2)
theorem st_post3 (h : ¬ (w.reps.length ≤ k ∨ w.reps.length ≤ j ∨ k = j)) (h2 : w.isEv d n = true ∧ isIn (d, n) (w.rep k).vec = true) (h3 : w.msgs.length = 200) : stepM w (.post k j d n) = (w, [-5]) := (if_neg h).trans ((if_pos h2).trans (if_pos h3))
theorem st_post (h : ¬ (w.reps.length ≤ k ∨ w.reps.length ≤ j ∨ k = j)) (h2 : w.isEv d n = true ∧ isIn (d, n) (w.rep k).vec = true) (h3 : ¬ w.msgs.length = 200) : stepM w (.post k j d n) = (putM w k j [(d, n)], [(w.msgs.length : Int)]) := (if_neg h).trans ((if_pos h2).trans (if_neg h3))
theorem st_comes0 (h : w.msgs[i]? = none) : stepM w (.comes i) = (w, [-2]) := by
  show (match w.msgs[i]? with
    | none => (w, [-2])
    | some m => _) = _
  rw [h]
theorem st_comes {x : MG} (h : w.msgs[i]? = some x) : stepM w (.comes i) = (deliverM w x, [(((deliverM w x).rep x.to).app.length : Int) - ((w.rep x.to).app.length : Int), (((deliverM w x).rep x.to).pend.length : Int)]) := by
  show (match w.msgs[i]? with
    | none => (w, [-2])
    | some m => _) = _
  rw [h]
theorem st_taken0 (h : w.reps.length ≤ k) : stepM w (.taken k) = (w, [-2]) := if_pos h
theorem st_taken (h : ¬ w.reps.length ≤ k) : stepM w (.taken k) = (w, told3 w (w.rep k).app) := if_neg h
theorem st_waits0 (h : w.reps.length ≤ k) : stepM w (.waits k) = (w, [-2]) := if_pos h
theorem st_waits (h : ¬ w.reps.length ≤ k) : stepM w (.waits k) = (w, told3 w (w.rep k).pend) := if_neg h
theorem st_has0 (h : w.reps.length ≤ k) : stepM w (.has k) = (w, [-2]) := if_pos h
theorem st_has (h : ¬ w.reps.length ≤ k) : stepM w (.has k) = (w, 0 :: intsN (w.rep k).vec) := if_neg h
theorem st_sure0 (h : w.reps.length ≤ k ∨ w.reps.length ≤ j) : stepM w (.sure k j) = (w, [-2]) := if_pos h
theorem st_sure (h : ¬ (w.reps.length ≤ k ∨ w.reps.length ≤ j)) : stepM w (.sure k j) = (w, 0 :: intsN (knownV w k j)) := if_neg h
theorem st_all0 (h : w.reps.length ≤ k) : stepM w (.all k) = (w, [-2]) := if_pos h
theorem st_all (h : ¬ w.reps.length ≤ k) : stepM w (.all k) = (w, 0 :: intsN (stableV w k)) := if_neg h
theorem st_hangs0 (h : ¬ (w.isEv d n = true ∧ w.isEv e m = true)) : stepM w (.hangs d n e m) = (w, [-2]) := if_neg h
theorem st_hangs (h : w.isEv d n = true ∧ w.isEv e m = true) : stepM w (.hangs d n e m) = (w, [if dep w (e, m) (d, n) = true then 1 else if dep w (d, n) (e, m) = true then 2 else 0]) := if_pos h
theorem st_letter0 (h : w.msgs[i]? = none) : stepM w (.letter i) = (w, [-2]) := by
  show (match w.msgs[i]? with
    | none => (w, [-2])
    | some m => _) = _
  rw [h]
theorem st_letter {x : MG} (h : w.msgs[i]? = some x) : stepM w (.letter i) = (w, told2 x.evs) := by
  show (match w.msgs[i]? with
    | none => (w, [-2])
    | some m => _) = _
  rw [h]
end
end VD
end
/-! ## part heap -/
section
set_option Elab.async false
set_option linter.all false
set_option maxRecDepth 100000
namespace VD
open PySem PySem.Spec PyProof.Rows L2
/-! ### how the mirror's state lies in the heap -/
def nI (n : Nat) : V := .int (n : Int)
structure Cs where
  cE : Addr
  cR : Addr
  cM : Addr
  cW : Addr
  cS : Addr
  cX : Addr
structure RepA where
  r : Addr
  ap : Addr
  kn : Addr
abbrev Tags := Addr → Option (Nat × Nat)
structure Lay where
  w : Addr
  aR : Addr
  aE : Addr
  aM : Addr
  reps : List RepA
  rows : List Addr
  tag : Tags
/-- what bears no tag, or a stranger's, stands as it stood -/
structure Keep (T : Tags) (H H' : Hp) : Prop where
  un : ∀ b o, T b = none → H b = some o → H' b = some o
  fo : ∀ b o, T b = some (9, 9) → H b = some o → H' b = some o
instance {T : Tags} {H H' : Hp} : CoeFun (Keep T H H') (fun _ => ∀ b o, T b = none → H b = some o → H' b = some o) := ⟨Keep.un⟩
theorem Keep.refl {T : Tags} {H : Hp} : Keep T H H := ⟨fun _ _ _ h => h, fun _ _ _ h => h⟩
theorem Keep.trans {T : Tags} {H H1 H2 : Hp} (a : Keep T H H1) (b : Keep T H1 H2) : Keep T H H2 := ⟨fun c o t h => b.un c o t (a.un c o t h), fun c o t h => b.fo c o t (a.fo c o t h)⟩
theorem Keep.of {T : Tags} {H H' : Hp} (s : Same H H') : Keep T H H' := ⟨fun b o _ h => s b o h, fun b o _ h => s b o h⟩
theorem Keep.mk2 {T : Tags} {H H' : Hp} (h : ∀ b o x, T b = x → (x = none ∨ x = some (9, 9)) → H b = some o → H' b = some o) : Keep T H H' := ⟨fun b o t q => h b o _ t (.inl rfl) q, fun b o t q => h b o _ t (.inr rfl) q⟩
theorem Same.new {H : Hp} {p : Addr} {o : HO} (h : H p = none) : Same H (upd H p o) := fun b u e => by
  rw [upd_ne (ne_of_none e h)]; exact e
theorem Same.fresh {H H' : Hp} {p : Addr} (s : Same H H') (h : H' p = none) : H p = none := Same.free s h
/-- a list of things, at a -/
def Lst {α : Type} (P : Addr → α → Prop) (H : Hp) (a : Addr) (l : List α) : Prop :=
  ∃ ps : List (Addr × α), l = ps.map (·.2) ∧ H a = some (.lst (ps.map fun p => V.ref p.1)) ∧ ∀ p ∈ ps, P p.1 p.2
def VecAt (T : Tags) (H : Hp) (a : Addr) (v : List Nat) : Prop := T a = none ∧ H a = some (.lst (v.map nI))
def EvAt (T : Tags) (H : Hp) (a : Addr) (e : Ev) : Prop := T a = none ∧ H a = some (.tup [nI e.1, nI e.2])
def EvsAt (T : Tags) (H : Hp) (a : Addr) (l : List Ev) : Prop := T a = none ∧ Lst (EvAt T H) H a l
def eF (i : EvI) (v : Addr) : List (Str × V) := [("value", nI i.val), ("needs", .ref v)]
def rF (v ap pe kn : Addr) : List (Str × V) := [("vector", .ref v), ("applied", .ref ap), ("pending", .ref pe), ("known", .ref kn)]
def mF (m : MG) (v es : Addr) : List (Str × V) := [("sender", nI m.frm), ("receiver", nI m.to), ("vector", .ref v), ("events", .ref es)]
def wF (L : Lay) : List (Str × V) := [("replicas", .ref L.aR), ("events", .ref L.aE), ("messages", .ref L.aM)]
def sF (w : Addr) : List (Str × V) := [("world", .ref w)]
def InfoAt (C : Cs) (T : Tags) (H : Hp) (a : Addr) (i : EvI) : Prop := T a = none ∧ ∃ dx v, H a = some (.ins C.cE dx (eF i v)) ∧ VecAt T H v i.needs
def MsgAt (C : Cs) (T : Tags) (H : Hp) (a : Addr) (m : MG) : Prop := T a = none ∧ ∃ dx v es, H a = some (.ins C.cM dx (mF m v es)) ∧ VecAt T H v m.vec ∧ EvsAt T H es m.evs
structure RepAt (C : Cs) (T : Tags) (H : Hp) (R : RepA) (m : MR) : Prop where
  ins : ∃ dx v pe, H R.r = some (.ins C.cR dx (rF v R.ap pe R.kn)) ∧ VecAt T H v m.vec ∧ EvsAt T H pe m.pend
  app : Lst (EvAt T H) H R.ap m.app
  kn : Lst (VecAt T H) H R.kn m.known
structure Wd (C : Cs) (H : Hp) (L : Lay) (w : MW) : Prop where
  tM : L.tag L.aM = some (0, 0)
  tE : ∀ (k : Nat) a, L.rows[k]? = some a → L.tag a = some (1, k)
  tR : ∀ (k : Nat) R, L.reps[k]? = some R → L.tag R.r = some (2, k) ∧ L.tag R.ap = some (3, k) ∧ L.tag R.kn = some (4, k)
  wd : L.tag L.w = none ∧ ∃ dx, H L.w = some (.ins C.cW dx (wF L))
  aR : L.tag L.aR = none ∧ H L.aR = some (.lst (L.reps.map fun R => V.ref R.r))
  aE : L.tag L.aE = none ∧ H L.aE = some (.lst (L.rows.map V.ref))
  msg : Lst (MsgAt C L.tag H) H L.aM w.msgs
  lr : L.reps.length = w.reps.length
  le : L.rows.length = w.rows.length
  rep : ∀ (k : Nat) R m, L.reps[k]? = some R → w.reps[k]? = some m → RepAt C L.tag H R m
  row : ∀ (k : Nat) a es, L.rows[k]? = some a → w.rows[k]? = some es → Lst (InfoAt C L.tag H) H a es
  tk : ∀ b, L.tag b ≠ none → H b ≠ none
theorem Wd.untagged {C : Cs} {H : Hp} {L : Lay} {w : MW} (h : Wd C H L w) {p : Addr} (hp : H p = none) : L.tag p = none := by
  cases q : L.tag p with
  | none => rfl
  | some x => exact absurd hp (h.tk p (by rw [q]; simp))
/-! ### what is kept -/
section
variable {C : Cs} {T : Tags} {H H' : Hp} {a : Addr}
theorem VecAt.keep {v : List Nat} (k : Keep T H H') (h : VecAt T H a v) : VecAt T H' a v := ⟨h.1, k _ _ h.1 h.2⟩
theorem EvAt.keep {e : Ev} (k : Keep T H H') (h : EvAt T H a e) : EvAt T H' a e := ⟨h.1, k _ _ h.1 h.2⟩
theorem Lst.imp {α : Type} {P P' : Addr → α → Prop} {l : List α} (h : Lst P H a l) (hp : ∀ b x, P b x → P' b x) (ha : ∀ o, H a = some o → H' a = some o) : Lst P' H' a l := by
  obtain ⟨ps, e, h1, h2⟩ := h
  exact ⟨ps, e, ha _ h1, fun p hm => hp _ _ (h2 p hm)⟩
theorem EvsAt.keep {l : List Ev} (k : Keep T H H') (h : EvsAt T H a l) : EvsAt T H' a l := ⟨h.1, h.2.imp (fun _ _ q => q.keep k) fun o q => k _ _ h.1 q⟩
theorem InfoAt.keep {i : EvI} (k : Keep T H H') (h : InfoAt C T H a i) : InfoAt C T H' a i := by
  obtain ⟨t, dx, v, h1, h2⟩ := h
  exact ⟨t, dx, v, k _ _ t h1, h2.keep k⟩
theorem MsgAt.keep {m : MG} (k : Keep T H H') (h : MsgAt C T H a m) : MsgAt C T H' a m := by
  obtain ⟨t, dx, v, es, h1, h2, h3⟩ := h
  exact ⟨t, dx, v, es, k _ _ t h1, h2.keep k, h3.keep k⟩
theorem RepAt.keep {R : RepA} {m : MR} (k : Keep T H H') (hr : ∀ o, H R.r = some o → H' R.r = some o) (ha : ∀ o, H R.ap = some o → H' R.ap = some o) (hk : ∀ o, H R.kn = some o → H' R.kn = some o) (h : RepAt C T H R m) : RepAt C T H' R m := by
  obtain ⟨⟨dx, v, pe, h1, h2, h3⟩, h4, h5⟩ := h
  exact ⟨⟨dx, v, pe, hr _ h1, h2.keep k, h3.keep k⟩, h4.imp (fun _ _ q => q.keep k) ha, h5.imp (fun _ _ q => q.keep k) hk⟩
end
section
variable {C : Cs} {H H' : Hp} {L : Lay} {w : MW}
/-- nothing of it changes -/
theorem Wd.same (s : Same H H') (h : Wd C H L w) : Wd C H' L w := by
  have k : Keep L.tag H H' := Keep.of s
  obtain ⟨dx, hw⟩ := h.wd.2
  refine ⟨h.tM, h.tE, h.tR, ⟨h.wd.1, dx, s _ _ hw⟩, ⟨h.aR.1, s _ _ h.aR.2⟩, ⟨h.aE.1, s _ _ h.aE.2⟩, h.msg.imp (fun _ _ q => q.keep k) (s _), h.lr, h.le,
    fun i R m e1 e2 => (h.rep i R m e1 e2).keep k (s _) (s _) (s _), fun i a es e1 e2 => (h.row i a es e1 e2).imp (fun _ _ q => q.keep k) (s _), fun b hb => ?_⟩
  cases q : H b with
  | none => exact absurd q (h.tk b hb)
  | some o => rw [s _ _ q]; simp
theorem tag_ne {T : Tags} {a b : Addr} {x y : Option (Nat × Nat)} (ha : T a = x) (hb : T b = y) (h : x ≠ y) : a ≠ b := fun e => h (by rw [← ha, ← hb, e])
/-- one replica's own objects change -/
theorem Wd.setRep (h : Wd C H L w) {k : Nat} {R : RepA} (hR : L.reps[k]? = some R) {m' : MR} (c : ∀ b o, b ≠ R.r → b ≠ R.ap → b ≠ R.kn → H b = some o → H' b = some o) (hm : RepAt C L.tag H' R m') : Wd C H' L (w.setR k m') := by
  obtain ⟨t1, t2, t3⟩ := h.tR k R hR
  have cT : ∀ b o, L.tag b ≠ some (2, k) → L.tag b ≠ some (3, k) → L.tag b ≠ some (4, k) → H b = some o → H' b = some o := fun b o n1 n2 n3 q =>
    c b o (fun e => n1 (by rw [e]; exact t1)) (fun e => n2 (by rw [e]; exact t2)) (fun e => n3 (by rw [e]; exact t3)) q
  have kp : Keep L.tag H H' := .mk2 fun b o x t hx q => cT b o (by rw [t]; rcases hx with rfl | rfl <;> simp) (by rw [t]; rcases hx with rfl | rfl <;> simp) (by rw [t]; rcases hx with rfl | rfl <;> simp) q
  obtain ⟨dx, hw⟩ := h.wd.2
  refine ⟨h.tM, h.tE, h.tR, ⟨h.wd.1, dx, kp _ _ h.wd.1 hw⟩, ⟨h.aR.1, kp _ _ h.aR.1 h.aR.2⟩, ⟨h.aE.1, kp _ _ h.aE.1 h.aE.2⟩, h.msg.imp (fun _ _ q => q.keep kp) fun o q => cT _ o (by rw [h.tM]; simp) (by rw [h.tM]; simp) (by rw [h.tM]; simp) q,
    h.lr.trans (setR_len w k m').symm, h.le, fun i R' m e1 e2 => ?_, fun i a es e1 e2 => (h.row i a es e1 e2).imp (fun _ _ q => q.keep kp) fun o q => ?_, fun b hb => ?_⟩
  · have e2' : (w.reps.set k m')[i]? = some m := e2
    rw [List.getElem?_set] at e2'
    by_cases ci : k = i
    · subst ci
      rw [hR] at e1
      cases e1
      rw [if_pos rfl] at e2'
      split at e2'
      · cases e2'; exact hm
      · cases e2'
    · rw [if_neg ci] at e2'
      obtain ⟨u1, u2, u3⟩ := h.tR i R' e1
      refine (h.rep i R' m e1 e2').keep kp (fun o q => cT _ o ?_ ?_ ?_ q) (fun o q => cT _ o ?_ ?_ ?_ q) (fun o q => cT _ o ?_ ?_ ?_ q) <;> simp [u1, u2, u3] <;> omega
  · have u := h.tE i a e1
    exact cT _ o (by rw [u]; simp) (by rw [u]; simp) (by rw [u]; simp) q
  · by_cases c1 : b = R.r
    · obtain ⟨dx, v, pe, z, _⟩ := hm.ins
      rw [c1, z]; simp
    · by_cases c2 : b = R.ap
      · obtain ⟨ps, _, z, _⟩ := hm.app
        rw [c2, z]; simp
      · by_cases c3 : b = R.kn
        · obtain ⟨ps, _, z, _⟩ := hm.kn
          rw [c3, z]; simp
        · cases q : H b with
          | none => exact absurd q (h.tk b hb)
          | some o => rw [c b o c1 c2 c3 q]; simp
/-- a row of events grows -/
theorem Wd.addEv (h : Wd C H L w) {k : Nat} {a : Addr} (ha : L.rows[k]? = some a) {i : EvI} (c : ∀ b o, b ≠ a → H b = some o → H' b = some o) (hm : Lst (InfoAt C L.tag H') H' a (w.row k ++ [i])) : Wd C H' L (w.addEv k i) := by
  have t1 := h.tE k a ha
  have cT : ∀ b o, L.tag b ≠ some (1, k) → H b = some o → H' b = some o := fun b o n1 q => c b o (fun e => n1 (by rw [e]; exact t1)) q
  have kp : Keep L.tag H H' := .mk2 fun b o x t hx q => cT b o (by rw [t]; rcases hx with rfl | rfl <;> simp) q
  obtain ⟨dx, hw⟩ := h.wd.2
  refine ⟨h.tM, h.tE, h.tR, ⟨h.wd.1, dx, kp _ _ h.wd.1 hw⟩, ⟨h.aR.1, kp _ _ h.aR.1 h.aR.2⟩, ⟨h.aE.1, kp _ _ h.aE.1 h.aE.2⟩, h.msg.imp (fun _ _ q => q.keep kp) fun o q => cT _ o (by rw [h.tM]; simp) q,
    h.lr, h.le.trans (List.length_set).symm, fun j R m e1 e2 => ?_, fun j b es e1 e2 => ?_, fun b hb => ?_⟩
  · obtain ⟨u1, u2, u3⟩ := h.tR j R e1
    exact (h.rep j R m e1 e2).keep kp (fun o q => cT _ o (by rw [u1]; simp) q) (fun o q => cT _ o (by rw [u2]; simp) q) (fun o q => cT _ o (by rw [u3]; simp) q)
  · have e2' : (w.rows.set k (w.row k ++ [i]))[j]? = some es := e2
    rw [List.getElem?_set] at e2'
    by_cases cj : k = j
    · subst cj
      rw [ha] at e1
      cases e1
      rw [if_pos rfl] at e2'
      split at e2'
      · cases e2'; exact hm
      · cases e2'
    · rw [if_neg cj] at e2'
      have u := h.tE j b e1
      exact (h.row j b es e1 e2').imp (fun _ _ q => q.keep kp) fun o q => cT _ o (by rw [u]; simp; omega) q
  · by_cases c1 : b = a
    · obtain ⟨ps, _, z, _⟩ := hm
      rw [c1, z]; simp
    · cases q : H b with
      | none => exact absurd q (h.tk b hb)
      | some o => rw [c b o c1 q]; simp
/-- a message more -/
theorem Wd.putM (h : Wd C H L w) {k j : Nat} {l : List Ev} (c : ∀ b o, b ≠ L.aM → H b = some o → H' b = some o) (hm : Lst (MsgAt C L.tag H') H' L.aM (w.msgs ++ [⟨k, j, (w.rep k).vec, l⟩])) : Wd C H' L (putM w k j l) := by
  have cT : ∀ b o, L.tag b ≠ some (0, 0) → H b = some o → H' b = some o := fun b o n1 q => c b o (fun e => n1 (by rw [e]; exact h.tM)) q
  have kp : Keep L.tag H H' := .mk2 fun b o x t hx q => cT b o (by rw [t]; rcases hx with rfl | rfl <;> simp) q
  obtain ⟨dx, hw⟩ := h.wd.2
  refine ⟨h.tM, h.tE, h.tR, ⟨h.wd.1, dx, kp _ _ h.wd.1 hw⟩, ⟨h.aR.1, kp _ _ h.aR.1 h.aR.2⟩, ⟨h.aE.1, kp _ _ h.aE.1 h.aE.2⟩, hm,
    h.lr, h.le, fun j R m e1 e2 => ?_, fun j b es e1 e2 => ?_, fun b hb => ?_⟩
  · obtain ⟨u1, u2, u3⟩ := h.tR j R e1
    exact (h.rep j R m e1 e2).keep kp (fun o q => cT _ o (by rw [u1]; simp) q) (fun o q => cT _ o (by rw [u2]; simp) q) (fun o q => cT _ o (by rw [u3]; simp) q)
  · have u := h.tE j b e1
    exact (h.row j b es e1 e2).imp (fun _ _ q => q.keep kp) fun o q => cT _ o (by rw [u]; simp) q
  · by_cases c1 : b = L.aM
    · obtain ⟨ps, _, z, _⟩ := hm
      rw [c1, z]; simp
    · cases q : H b with
      | none => exact absurd q (h.tk b hb)
      | some o => rw [c b o c1 q]; simp
/-! ### what is at a place -/
theorem Wd.repA (h : Wd C H L w) {k : Nat} (hk : k < w.reps.length) : ∃ R, L.reps[k]? = some R ∧ RepAt C L.tag H R (w.rep k) := by
  have hl : k < L.reps.length := by rw [h.lr]; exact hk
  exact ⟨L.reps[k], List.getElem?_eq_getElem hl, h.rep k _ _ (List.getElem?_eq_getElem hl) (rep_at hk)⟩
theorem Wd.rowA (h : Wd C H L w) {k : Nat} (hk : k < w.rows.length) : ∃ a, L.rows[k]? = some a ∧ Lst (InfoAt C L.tag H) H a (w.row k) := by
  have hl : k < L.rows.length := by rw [h.le]; exact hk
  exact ⟨L.rows[k], List.getElem?_eq_getElem hl, h.row k _ _ (List.getElem?_eq_getElem hl) (row_at hk)⟩
end
/-! ### the fields -/
theorem lk_here {k : Str} {v : V} {r : List (Str × V)} : List.lookup k ((k, v) :: r) = some v := by
  have e : (k == k) = true := beq_self_eq_true k
  simp only [List.lookup, e]
theorem lk_past {k g : Str} {v : V} {r : List (Str × V)} (h : (k == g) = false) : List.lookup k ((g, v) :: r) = List.lookup k r := by
  simp only [List.lookup, h]
theorem put_here {f : Str} {v x : V} {r : List (Str × V)} : putF f v ((f, x) :: r) = (f, v) :: r := if_pos rfl
theorem put_past {f g : Str} {v x : V} {r : List (Str × V)} (h : ¬ g = f) : putF f v ((g, x) :: r) = (g, x) :: putF f v r := if_neg h
theorem eF_value (i : EvI) (v : Addr) : (eF i v).lookup ("value" : Str) = some (nI i.val) := lk_here
theorem eF_needs (i : EvI) (v : Addr) : (eF i v).lookup ("needs" : Str) = some (.ref v) := (lk_past (by decide +kernel)).trans lk_here
theorem rF_vector (v ap pe kn : Addr) : (rF v ap pe kn).lookup ("vector" : Str) = some (.ref v) := lk_here
theorem rF_applied (v ap pe kn : Addr) : (rF v ap pe kn).lookup ("applied" : Str) = some (.ref ap) := (lk_past (by decide +kernel)).trans lk_here
theorem rF_pending (v ap pe kn : Addr) : (rF v ap pe kn).lookup ("pending" : Str) = some (.ref pe) := (lk_past (by decide +kernel)).trans ((lk_past (by decide +kernel)).trans lk_here)
theorem rF_known (v ap pe kn : Addr) : (rF v ap pe kn).lookup ("known" : Str) = some (.ref kn) := (lk_past (by decide +kernel)).trans ((lk_past (by decide +kernel)).trans ((lk_past (by decide +kernel)).trans lk_here))
theorem mF_sender (m : MG) (v es : Addr) : (mF m v es).lookup ("sender" : Str) = some (nI m.frm) := lk_here
theorem mF_receiver (m : MG) (v es : Addr) : (mF m v es).lookup ("receiver" : Str) = some (nI m.to) := (lk_past (by decide +kernel)).trans lk_here
theorem mF_vector (m : MG) (v es : Addr) : (mF m v es).lookup ("vector" : Str) = some (.ref v) := (lk_past (by decide +kernel)).trans ((lk_past (by decide +kernel)).trans lk_here)
theorem mF_events (m : MG) (v es : Addr) : (mF m v es).lookup ("events" : Str) = some (.ref es) := (lk_past (by decide +kernel)).trans ((lk_past (by decide +kernel)).trans ((lk_past (by decide +kernel)).trans lk_here))
theorem wF_replicas (L : Lay) : (wF L).lookup ("replicas" : Str) = some (.ref L.aR) := lk_here
theorem wF_events (L : Lay) : (wF L).lookup ("events" : Str) = some (.ref L.aE) := (lk_past (by decide +kernel)).trans lk_here
theorem wF_messages (L : Lay) : (wF L).lookup ("messages" : Str) = some (.ref L.aM) := (lk_past (by decide +kernel)).trans ((lk_past (by decide +kernel)).trans lk_here)
theorem sF_world (w : Addr) : (sF w).lookup ("world" : Str) = some (.ref w) := lk_here
theorem rF_setV (v ap pe kn p : Addr) : putF "vector" (.ref p) (rF v ap pe kn) = rF p ap pe kn := put_here
theorem rF_setP (v ap pe kn p : Addr) : putF "pending" (.ref p) (rF v ap pe kn) = rF v ap p kn := (put_past (by decide +kernel)).trans (congrArg _ ((put_past (by decide +kernel)).trans (congrArg _ put_here)))
theorem sF_set (w p : Addr) : putF "world" (.ref p) (sF w) = sF p := put_here
theorem eF_new (val : Nat) (v : Addr) : putF "needs" (.ref v) (putF "value" (nI val) []) = eF ⟨val, []⟩ v := (put_past (by decide +kernel)).trans rfl
theorem mF_new (m : MG) (v es : Addr) : putF "events" (.ref es) (putF "vector" (.ref v) (putF "receiver" (nI m.to) (putF "sender" (nI m.frm) []))) = mF m v es := by
  have e1 : putF "receiver" (nI m.to) (putF "sender" (nI m.frm) []) = ([("sender", nI m.frm), ("receiver", nI m.to)] : List (Str × V)) := (put_past (by decide +kernel)).trans rfl
  have e2 : putF "vector" (.ref v) ([("sender", nI m.frm), ("receiver", nI m.to)] : List (Str × V)) = ([("sender", nI m.frm), ("receiver", nI m.to), ("vector", .ref v)] : List (Str × V)) := (put_past (by decide +kernel)).trans (congrArg _ ((put_past (by decide +kernel)).trans rfl))
  rw [e1, e2]
  exact (put_past (by decide +kernel)).trans (congrArg _ ((put_past (by decide +kernel)).trans (congrArg _ ((put_past (by decide +kernel)).trans rfl))))
end VD
end
/-! ## part ctx -/
section
set_option Elab.async false
set_option linter.all false
set_option maxRecDepth 100000
set_option maxHeartbeats 4000000
namespace VD
open PySem PySem.Spec PyProof.Rows L2
def topS (i : Nat) : Stmt := PySem.Challenge.pw_vectordelivery_s01_answers.main.body.getD i (.Pass ⟨0, 0, 0, 0⟩)
/-- a def of the top that may be called by its name -/
structure Cal (CX : CXT) (P : Program) (w : World) (K : PySem.W.Frag) (mg : Str → Option Value) (base : Heap) (k : Nat) (x : Str) (sp : Sp) : Prop where
  ex : ∃ (f : Addr) (fd : FuncData) (ps : List Str), FnOk P w K mg base CX k f fd ps sp ∧ mg x = some (.ref f) ∧ PySem.W.keepIn K (.ref f) = true ∧ Binds K fd ps []
/-- a class of the top; sp is what its maker promises -/
structure Mak (P : Program) (w : World) (K : PySem.W.Frag) (mg : Str → Option Value) (base : Heap) (k : Nat) (x : Str) (C : Addr) (sp : Sp) : Prop where
  ex : ∃ (f : Addr) (fd : FuncData) (ps : List Str), Mk K C f ∧ FnOk P w K mg base CX0 k f fd ps sp ∧ mg x = some (.ref C) ∧ Binds K fd ps []
section
variable {X : Cx} {CX : CXT} {k j : Nat} {C : Addr} {x : Str} {sp : Sp} {p pos : Pos} {e : Expr} {es : List Expr} {t : TA} {E : XK}
theorem pc (c : Cal CX0 X.prog X.w X.K X.mg X.base k x sp) (hr : Room j X.A) (ha : PA X (e :: es) t) (hk : k ≤ j := by decide) (hg : Gl X x := by rfl)
    (he : starEach (e :: es) X.env = (false, eval e X.env) :: starEach es X.env := by rfl) (hpl : (backTo pos (starEach es X.env)).any (·.1) = false := by rfl)
    (hdb : (x == ("__debug__" : Str)) = false := by decide) :
    PE X (.Call (.Name x p) (e :: es) [] pos) (tCall sp [] E0 t) := by
  obtain ⟨f, fd, ps, F, hm, kp, b⟩ := c.ex
  exact pe_call F (hr.mono hk) hg hm kp b .nil pass0 ha hdb he hpl
/-- .. that may raise, out of a def that lets it out -/
theorem pcX {W : WX} (c : Cal (L2.CX X.prog X.w) X.prog X.w X.K X.mg X.base k x sp) (hr : Room j X.A) (tk : Takes X W) (hW : ∀ cls d σ H, E cls d H → W cls d σ H) (ha : PA X (e :: es) t) (hk : k ≤ j := by decide) (hg : Gl X x := by rfl)
    (he : starEach (e :: es) X.env = (false, eval e X.env) :: starEach es X.env := by rfl) (hpl : (backTo pos (starEach es X.env)).any (·.1) = false := by rfl)
    (hdb : (x == ("__debug__" : Str)) = false := by decide) :
    PE X (.Call (.Name x p) (e :: es) [] pos) (tCall sp [] E t) := by
  obtain ⟨f, fd, ps, F, hm, kp, b⟩ := c.ex
  exact pe_call F (hr.mono hk) hg hm kp b .nil (passes_call tk hW) ha hdb he hpl
theorem pmk (c : Mak X.prog X.w X.K X.mg X.base k x C sp) (hr : Room j X.A) (ha : PA X (e :: es) t) (hk : k + 1 ≤ j := by decide) (hg : Gl X x := by rfl)
    (he : starEach (e :: es) X.env = (false, eval e X.env) :: starEach es X.env := by rfl) (hpl : (backTo pos (starEach es X.env)).any (·.1) = false := by rfl)
    (hdb : (x == ("__debug__" : Str)) = false := by decide) :
    PE X (.Call (.Name x p) (e :: es) [] pos) (tMake C sp [] E0 t) := by
  obtain ⟨f, fd, ps, M, F, hm, b⟩ := c.ex
  exact pe_make M F (hr.mono hk) hg hm b .nil pass0 ha hdb he hpl
end
/-- the built-ins' names are not bound by the top -/
structure Blt (mg : Str → Option Value) : Prop where
  len : mg "len" = none
  zip : mg "zip" = none
  range : mg "range" = none
  max : mg "max" = none
  min : mg "min" = none
  sum : mg "sum" = none
  sorted : mg "sorted" = none
  set : mg "set" = none
  list : mg "list" = none
/-- a def of the top as it stands behind the top -/
structure Df (K : PySem.W.Frag) (mg : Str → Option Value) (x : Str) (i : Nat) (f : Addr) (fd : FuncData) : Prop where
  fn : Fun K x x (topS i) f fd
  mgf : mg x = some (.ref f)
/-- a promise's value is new: a list of these -/
def NewL (H : Hp) (Q : VK) (xs : List V) : Prop := ∀ (p : Addr) (H' : Hp), H p = none → Same H H' → H' p = some (.lst xs) → Q (.ref p) H'
theorem NewL.at {H H1 : Hp} {Q : VK} {xs : List V} (h : NewL H Q xs) (s : Same H H1) {p : Addr} (hp : H1 p = none) : Q (.ref p) (upd H1 p (.lst xs)) :=
  h p _ (s.free hp) (s.trans (Same.new hp)) upd_same
/-- a comprehension without a test -/
theorem yesT {σ : L2.St} {H : Hp} {A B : Hp → Prop} (h : A H) : tYes σ H (fun b H3 => if b = true then A H3 else B H3) := by
  unfold tYes
  exact iteT h
theorem map_at {α β : Type} {f : α → β} {l : List α} {i : Nat} {y : β} (h : (l.map f)[i]? = some y) : ∃ x, l[i]? = some x ∧ y = f x := by
  rw [List.getElem?_map] at h
  cases e : l[i]? with
  | none => rw [e] at h; cases h
  | some x => rw [e] at h; exact ⟨x, rfl, (Option.some.inj h).symm⟩
theorem at_map {α β : Type} {f : α → β} {l : List α} {i : Nat} {x : α} (h : l[i]? = some x) : (l.map f)[i]? = some (f x) := by
  rw [List.getElem?_map, h]; rfl
theorem getD_some {l : List Nat} {i : Nat} (h : i < l.length) : l[i]? = some (l.getD i 0) := by
  rw [List.getD_eq_getElem?_getD, List.getElem?_eq_getElem h]; rfl
theorem sz_small {n : Nat} (h : n ≤ 1000) : n ≤ sizeLine := Nat.le_of_lt (small1000 h)
end VD
end
/-! ## part vec -/
section
set_option Elab.async false
set_option linter.all false
set_option maxRecDepth 100000
set_option maxHeartbeats 4000000
namespace VD
open PySem PySem.Spec PyProof.Rows L2
/-! ### vectors -/
abbrev sNoughts : Stmt := topS 1
abbrev sIsIn : Stmt := topS 2
abbrev sWithin : Stmt := topS 3
abbrev sGreater : Stmt := topS 4
abbrev sLesser : Stmt := topS 5
abbrev sWithE : Stmt := topS 6
def spNoughts : Sp := fun vs H Q _ => ∃ n : Nat, vs = [nI n] ∧ n ≤ 6 ∧ NewL H Q ((List.replicate n 0).map nI)
def spIsIn : Sp := fun vs H Q _ => ∃ (t a : Addr) (e : Ev) (v : List Nat), vs = [.ref t, .ref a] ∧ H t = some (.tup [nI e.1, nI e.2]) ∧ H a = some (.lst (v.map nI)) ∧ e.1 < v.length ∧ Q (.bl (isIn e v)) H
section
variable {P : Program} {w : World} {K : PySem.W.Frag} {mg : Str → Option Value} {base : Heap} {f : Addr} {fd : FuncData}
theorem scNoughts : FnScope ["many"] ["many"] (defScope sNoughts) := ⟨rfl, rfl, rfl, by decide +kernel, rfl, by decide +kernel, by decide +kernel⟩
theorem ok_noughts (F : Fun K "noughts" "noughts" sNoughts f fd) : FnOk P w K mg base CX0 1 f fd ["many"] spNoughts := by
  refine F.ok scNoughts (fun vs H Q E h => ?_) (fun cdv A outer s H vs Q E hr h => ?_)
  · obtain ⟨n, rfl, _⟩ := h; rfl
  · refine ⟨_, pss_one (ps_ret (pe_op op_rep (pe_lst (pa_cons pe_int pa_nil)) (pv 0))), ?_⟩
    obtain ⟨n, rfl, h6, q⟩ := h
    refine ⟨(by show 1 ≤ sizeLine; decide), fun p hp => ⟨_, rfl, _, (n : Int), _, rfl, rfl, upd_same, by omega, by omega, ?_, fun p2 hp2 => ?_⟩⟩
    · show 1 * (n : Int).toNat ≤ sizeLine
      rw [Int.toNat_natCast, Nat.one_mul]
      exact sz_small (by omega)
    · have e : (List.replicate (n : Int).toNat [V.int 0]).flatten = (List.replicate n 0).map nI := by
        rw [Int.toNat_natCast, List.map_replicate]
        clear q h6 hr
        induction n with
        | zero => rfl
        | succ n ih => rw [List.replicate_succ, List.replicate_succ, List.flatten_cons, ih]; rfl
      show Q (.ref p2) (upd _ p2 (.lst (List.replicate (n : Int).toNat [V.int 0]).flatten))
      rw [e]
      exact q.at (Same.new hp) hp2
theorem scIsIn : FnScope ["event", "vector"] ["event", "vector"] (defScope sIsIn) := ⟨rfl, rfl, rfl, by decide +kernel, rfl, by decide +kernel, by decide +kernel⟩
theorem ok_is_in (F : Fun K "is_in" "is_in" sIsIn f fd) : FnOk P w K mg base CX0 1 f fd ["event", "vector"] spIsIn := by
  refine F.ok scIsIn (fun vs H Q E h => ?_) (fun cdv A outer s H vs Q E hr h => ?_)
  · obtain ⟨t, a, e, v, rfl, _⟩ := h; rfl
  · refine ⟨_, pss_one (ps_ret (pe_cmpR op_le (pe_ix ix_tup (pv 0) pe_int (fun _ _ => rfl)) (pe_ix ix_list (pv 1) (pe_ix ix_tup (pv 0) pe_int (fun _ _ => rfl)) (fun _ _ => rfl)) (nomark _))), ?_⟩
    obtain ⟨t, a, e, v, rfl, ht, ha, hl, q⟩ := h
    refine ⟨_, rfl, t, _, 1, _, rfl, rfl, .of ht, rfl, _, rfl, _, rfl, t, _, 0, _, rfl, rfl, .of ht, rfl, a, _, (e.1 : Int), _, rfl, rfl, .of ha, atI_nat (at_map (getD_some hl)), _, _, rfl, rfl, ?_⟩
    have e1 : decide ((e.2 : Int) ≤ ((v.getD e.1 0 : Nat) : Int)) = isIn e v := by
      unfold isIn
      exact decide_eq_decide.mpr Int.ofNat_le
    show Q (.bl (decide ((e.2 : Int) ≤ ((v.getD e.1 0 : Nat) : Int)))) H
    rw [e1]
    exact q
theorem scWithin : FnScope ["one", "other", "number", "most"] ["one", "other"] (defScope sWithin) := ⟨rfl, rfl, rfl, by decide +kernel, rfl, by decide +kernel, by decide +kernel⟩
def spWithin : Sp := fun vs H Q _ => ∃ (a b : Addr) (x y : List Nat), vs = [.ref a, .ref b] ∧ H a = some (.lst (x.map nI)) ∧ H b = some (.lst (y.map nI)) ∧ x.length = y.length ∧ ∀ H', Same H H' → Q (.bl (within x y)) H'
theorem within_drop : ∀ (x y : List Nat) (i : Nat) (u v : Nat), x[i]? = some u → y[i]? = some v → within (x.drop i) (y.drop i) = (decide (u ≤ v) && within (x.drop (i + 1)) (y.drop (i + 1)))
  | [], _, i, u, v, h, _ => by simp at h
  | _ :: _, [], i, u, v, _, h => by simp at h
  | a :: x, b :: y, 0, u, v, h, h' => by
    have e1 : a = u := by simpa using h
    have e2 : b = v := by simpa using h'
    subst e1; subst e2; rfl
  | a :: x, b :: y, i + 1, u, v, h, h' => within_drop x y i u v (by simpa using h) (by simpa using h')
theorem ok_is_within (B : Blt mg) (F : Fun K "is_within" "is_within" sWithin f fd) : FnOk P w K mg base CX0 1 f fd ["one", "other"] spWithin := by
  refine F.ok scWithin (fun vs H Q E h => ?_) (fun cdv A outer s H vs Q E hr h => ?_)
  · obtain ⟨a, b, x, y, rfl, _⟩ := h; rfl
  · refine ⟨_, pss_cons (ps_for PassesOwn.never rfl (pi_zip (by rfl) B.zip (pa_cons (pv 0) (pa_cons (pv 1) pa_nil))) (pg_tup rfl (pgs_cons (pg_name (i := 2) scWithin.nd rfl (.inl rfl)) (pgs_cons (pg_name (i := 3) scWithin.nd rfl (.inl rfl)) pgs_nil)))
        (pss_one (ps_if (pt_cmpR op_gt (pv 2) (pv 3) (nomark _)) (pss_one (ps_ret pe_bl)) pss_nil)))
      (pss_one (ps_ret pe_bl)), ?_⟩
    obtain ⟨a, b, x, y, rfl, ha, hb, hl, q⟩ := h
    refine ⟨_, rfl, _, rfl, a, b, x.map nI, y.map nI, rfl, .of ha, .of hb, RZ.for_zipL (by rw [List.length_map, List.length_map, hl])
      (fun i σ H' => (∃ u v, σ = [some (.ref a), some (.ref b), u, v]) ∧ Same H H' ∧ within x y = within (x.drop i) (y.drop i)) ⟨⟨_, _, rfl⟩, fun _ _ e => e, rfl⟩
      (fun i σ H' ⟨_, s, _⟩ => ⟨.of (s _ _ ha), .of (s _ _ hb)⟩) ?_ ?_⟩
    · rintro i u v T σ H' hu hv ⟨⟨u0, v0, rfl⟩, s, hw⟩ hT
      obtain ⟨m, hm, rfl⟩ := map_at hu
      obtain ⟨n, hn, rfl⟩ := map_at hv
      have s2 : Same H (upd H' T (.tup [nI m, nI n])) := s.trans (Same.new hT)
      refine ⟨T, _, rfl, .of upd_same, rfl, _, _, rfl, _, _, rfl, rfl, _, rfl, _, rfl, _, _, rfl, rfl, _, rfl, ?_⟩
      have hd := within_drop x y i m n hm hn
      refine ite2 (fun c => ?_) (fun c => ?_)
      · have c' : ¬ m ≤ n := by
          have := of_decide_eq_true c
          omega
        have e : within x y = false := by rw [hw, hd, decide_eq_false c']; rfl
        have q' := q _ s2
        rw [e] at q'
        exact q'
      · have c' : m ≤ n := by
          have : ¬ ((n : Int) < (m : Int)) := fun z => c (decide_eq_true z)
          omega
        refine ⟨⟨_, _, rfl⟩, s2, ?_⟩
        rw [hw, hd, decide_eq_true c']; rfl
    · rintro σ H' ⟨_, s, hw⟩
      have e : within x y = true := by
        rw [hw, List.length_map, List.drop_length]
        unfold within; rfl
      have q' := q _ s
      rw [e] at q'
      exact q'
end
end VD
end
/-! ## part vec2 -/
section
set_option Elab.async false
set_option linter.all false
set_option maxRecDepth 100000
set_option maxHeartbeats 4000000
namespace VD
open PySem PySem.Spec PyProof.Rows L2
theorem zipWith_take (f : Nat → Nat → Nat) (x y : List Nat) (i u v : Nat) (hu : x[i]? = some u) (hv : y[i]? = some v) : (List.zipWith f x y).take (i + 1) = (List.zipWith f x y).take i ++ [f u v] := by
  rw [List.take_succ]
  have e : (List.zipWith f x y)[i]? = some (f u v) := by rw [List.getElem?_zipWith, hu, hv]
  rw [e]; rfl
/-- [f(number, own) for number, own in zip(..)], both of one length -/
theorem lc_zipI {K : PySem.W.Frag} {a b : Addr} {x y : List Nat} (f : Nat → Nat → Nat) {g : TG} {te : TE} {vs : List Nat} {σ : L2.St} {H1 : Hp} {Q : VK} (ha : H1 a = some (.lst (x.map nI))) (hb : H1 b = some (.lst (y.map nI))) (hl : x.length = y.length) (hx : x.length ≤ 1000)
    (hs : ∀ (u v : Nat) (T : Addr) (H : Hp), H T = some (.tup [nI u, nI v]) → ∀ R : VK, R (nI (f u v)) H → g (.ref T) (wipe σ vs) H fun σ2 H2 => wipe σ2 vs = wipe σ vs ∧ te σ2 H2 R)
    (hg : ∀ (v : V) (σ : L2.St) (H : Hp) (Q Q' : L2.St → Hp → Prop), g v σ H Q → (∀ σ' H', Q σ' H' → Q' σ' H') → g v σ H Q') (hte : ∀ (σ : L2.St) (H : Hp) (Q Q' : VK), te σ H Q → (∀ v H', Q v H' → Q' v H') → te σ H Q')
    (q : NewL H1 Q ((List.zipWith f x y).map nI)) : ∀ D, H1 D = none → ∃ W : Nat → Nat → Hp → Prop, (∃ m, W 0 m (upd H1 D (.lst []))) ∧ ∀ i m H, W i m H →
      ((Itz K a b).stop i H ∧ Q (.ref D) H) ∨ ((Itz K a b).go i H ∧ ∃ Nx : Hp → Prop, (∀ H', Nx H' → ∃ m', m' < m ∧ W (i + 1) m' H') ∧ ∀ x H', (Itz K a b).yld i H x H' → g x (wipe σ vs) H' fun σ2 H2 => wipe σ2 vs = wipe σ vs ∧ tYes σ2 H2 fun b H3 =>
        if b = true then te σ2 H3 fun y H4 => ∃ acc, H4 D = some (.lst acc) ∧ acc.length < sizeLine ∧ Nx (upd H4 D (.lst (acc ++ [y]))) else Nx H3) := by
  intro D hD
  refine ⟨fun i m H => m = x.length - i ∧ i ≤ x.length ∧ Same H1 H ∧ H D = some (.lst (((List.zipWith f x y).take i).map nI)), ⟨x.length, rfl, Nat.zero_le _, Same.new hD, upd_same⟩, ?_⟩
  rintro i m H ⟨rfl, hi, s, hDl⟩
  have qx : SqL K H a (x.map nI) := .of (s _ _ ha)
  have qy : SqL K H b (y.map nI) := .of (s _ _ hb)
  by_cases hlt : i < x.length
  · have hx0 : x[i]? = some x[i] := List.getElem?_eq_getElem hlt
    have hlt2 : i < y.length := by omega
    have hy0 : y[i]? = some y[i] := List.getElem?_eq_getElem hlt2
    refine .inr ⟨⟨_, _, _, _, qx, qy, at_map hx0, at_map hy0⟩, fun H' => Same H1 H' ∧ H' D = some (.lst (((List.zipWith f x y).take (i + 1)).map nI)), fun H' p' => ⟨x.length - (i + 1), by omega, rfl, hlt, p'⟩, fun v H' yy => ?_⟩
    obtain ⟨T, x', y', rfl, hT, rfl, f1, f2⟩ := yy
    have e1 : x' = nI x[i] := by
      have := (f1 _ qx).symm.trans (at_map hx0)
      exact Option.some.inj this
    have e2 : y' = nI y[i] := by
      have := (f2 _ qy).symm.trans (at_map hy0)
      exact Option.some.inj this
    subst e1 e2
    have hDT : D ≠ T := fun e => by rw [e, hT] at hDl; cases hDl
    refine hg _ _ _ _ _ (hs x[i] y[i] T _ upd_same (fun z H4 => ∃ acc, H4 D = some (.lst acc) ∧ acc.length < sizeLine ∧ Same H1 (upd H4 D (.lst (acc ++ [z]))) ∧ (upd H4 D (.lst (acc ++ [z]))) D = some (.lst (((List.zipWith f x y).take (i + 1)).map nI))) ?_) fun σ' H' h => ⟨h.1, ?_⟩
    · refine ⟨_, (upd_ne hDT).trans hDl, ?_, fun b o e => ?_, ?_⟩
      · rw [List.length_map, List.length_take]
        exact small1000 (by omega)
      · rw [upd_ne (ne_of_none e hD), upd_ne (fun z => by rw [z] at e; have := s _ _ e; rw [hT] at this; cases this)]
        exact s b o e
      · rw [upd_same, zipWith_take f x y i _ _ hx0 hy0, List.map_append]; rfl
    · unfold tYes
      exact iteT h.2
  · have e : i = x.length := by omega
    subst e
    refine .inl ⟨⟨_, _, qx, qy, Or.inl (by rw [List.length_map]; exact Nat.le_refl _)⟩, q D H hD s ?_⟩
    rw [hDl, List.take_of_length_le (by rw [List.length_zipWith]; omega)]
def spVV (f : Nat → Nat → Nat) : Sp := fun vs H Q _ => ∃ (a b : Addr) (x y : List Nat), vs = [.ref a, .ref b] ∧ H a = some (.lst (x.map nI)) ∧ H b = some (.lst (y.map nI)) ∧ x.length = y.length ∧ x.length ≤ 1000 ∧ NewL H Q ((List.zipWith f x y).map nI)
section
variable {P : Program} {w : World} {K : PySem.W.Frag} {mg : Str → Option Value} {base : Heap} {f : Addr} {fd : FuncData}
theorem scGreater : FnScope ["one", "other", "number", "own"] ["one", "other"] (defScope sGreater) := ⟨rfl, rfl, rfl, by decide +kernel, rfl, by decide +kernel, by decide +kernel⟩
theorem ok_greater (B : Blt mg) (F : Fun K "greater" "greater" sGreater f fd) : FnOk P w K mg base CX0 1 f fd ["one", "other"] (spVV max) := by
  refine F.ok scGreater (fun vs H Q E h => ?_) (fun cdv A outer s H vs Q E hr h => ?_)
  · obtain ⟨a, b, x, y, rfl, _⟩ := h; rfl
  · refine ⟨_, pss_one (ps_ret (pe_lc (own := [("number", 2), ("own", 3)]) (g := gTup K 2 (gCons (gName 2) (gCons (gName 3) gNil))) (tt := tYes) (by rfl) scGreater.nd (pi_zip (by rfl) B.zip (pa_cons (pv 0) (pa_cons (pv 1) pa_nil)))
      (blkOk_by (N := ["one", "other", "number", "own"]) (sc := defScope sGreater) (by decide +kernel))
      (fun _ _ _ _ _ => by exact (pg_tup rfl (pgs_cons (pg_name (i := 2) scGreater.nd rfl (Or.inl rfl)) (pgs_cons (pg_name (i := 3) scGreater.nd rfl (Or.inl rfl)) pgs_nil))))
      (fun _ _ _ _ _ => pts_nil)
      (fun _ _ _ _ _ => pe_callB (call_max2 rfl) (by rfl) B.max (by decide +kernel) (pa_cons (pv 2) (pa_cons (pv 3) pa_nil))))), ?_⟩
    obtain ⟨a, b, x, y, rfl, ha, hb, hl, hx, q⟩ := h
    refine ⟨_, rfl, _, rfl, a, b, _, _, rfl, .of ha, .of hb, lc_zipI max ha hb hl hx (fun u v T H' hT R r => ?_) (fun v σ H Q Q' h hq => ?_) (fun σ H Q Q' h hq => ?_) q⟩
    · refine ⟨T, _, rfl, .of hT, rfl, _, _, rfl, _, _, rfl, rfl, rfl, _, rfl, _, rfl, _, _, rfl, ?_⟩
      have e : (if (v : Int) > (u : Int) then (v : Int) else (u : Int)) = ((max u v : Nat) : Int) := by
        split <;> omega
      rw [e]; exact r
    · obtain ⟨a, xs, e1, e2, e3, v1, r1, e4, v2, r2, e5, e6, e7⟩ := h
      exact ⟨a, xs, e1, e2, e3, v1, r1, e4, v2, r2, e5, e6, hq _ _ e7⟩
    · obtain ⟨v1, e1, v2, e2, i, j, e3, e4⟩ := h
      exact ⟨v1, e1, v2, e2, i, j, e3, hq _ _ e4⟩
theorem scLesser : FnScope ["one", "other", "number", "own"] ["one", "other"] (defScope sLesser) := ⟨rfl, rfl, rfl, by decide +kernel, rfl, by decide +kernel, by decide +kernel⟩
theorem ok_lesser (B : Blt mg) (F : Fun K "lesser" "lesser" sLesser f fd) : FnOk P w K mg base CX0 1 f fd ["one", "other"] (spVV min) := by
  refine F.ok scLesser (fun vs H Q E h => ?_) (fun cdv A outer s H vs Q E hr h => ?_)
  · obtain ⟨a, b, x, y, rfl, _⟩ := h; rfl
  · refine ⟨_, pss_one (ps_ret (pe_lc (own := [("number", 2), ("own", 3)]) (g := gTup K 2 (gCons (gName 2) (gCons (gName 3) gNil))) (tt := tYes) (by rfl) scLesser.nd (pi_zip (by rfl) B.zip (pa_cons (pv 0) (pa_cons (pv 1) pa_nil)))
      (blkOk_by (N := ["one", "other", "number", "own"]) (sc := defScope sLesser) (by decide +kernel))
      (fun _ _ _ _ _ => by exact (pg_tup rfl (pgs_cons (pg_name (i := 2) scLesser.nd rfl (Or.inl rfl)) (pgs_cons (pg_name (i := 3) scLesser.nd rfl (Or.inl rfl)) pgs_nil))))
      (fun _ _ _ _ _ => pts_nil)
      (fun _ _ _ _ _ => pe_callB (call_min2 rfl) (by rfl) B.min (by decide +kernel) (pa_cons (pv 2) (pa_cons (pv 3) pa_nil))))), ?_⟩
    obtain ⟨a, b, x, y, rfl, ha, hb, hl, hx, q⟩ := h
    refine ⟨_, rfl, _, rfl, a, b, _, _, rfl, .of ha, .of hb, lc_zipI min ha hb hl hx (fun u v T H' hT R r => ?_) (fun v σ H Q Q' h hq => ?_) (fun σ H Q Q' h hq => ?_) q⟩
    · refine ⟨T, _, rfl, .of hT, rfl, _, _, rfl, _, _, rfl, rfl, rfl, _, rfl, _, rfl, _, _, rfl, ?_⟩
      have e : (if (v : Int) < (u : Int) then (v : Int) else (u : Int)) = ((min u v : Nat) : Int) := by
        split <;> omega
      rw [e]; exact r
    · obtain ⟨a, xs, e1, e2, e3, v1, r1, e4, v2, r2, e5, e6, e7⟩ := h
      exact ⟨a, xs, e1, e2, e3, v1, r1, e4, v2, r2, e5, e6, hq _ _ e7⟩
    · obtain ⟨v1, e1, v2, e2, i, j, e3, e4⟩ := h
      exact ⟨v1, e1, v2, e2, i, j, e3, hq _ _ e4⟩
end
end VD
end
/-! ## part vec3 -/
section
set_option Elab.async false
set_option linter.all false
set_option maxRecDepth 100000
set_option maxHeartbeats 4000000
namespace VD
open PySem PySem.Spec PyProof.Rows L2
theorem cut_to (xs : List V) (n : Nat) : cutV xs none (some (n : Int)) = xs.take n := by
  unfold cutV
  rw [HT.sIx_none, HT.sIx_nat, List.drop_zero, Nat.sub_zero]
  rcases Nat.le_total n xs.length with h | h
  · rw [Nat.min_eq_left h]
  · rw [Nat.min_eq_right h, List.take_of_length_le (Nat.le_refl _), List.take_of_length_le h]
theorem cut_from (xs : List V) (n : Nat) : cutV xs (some (n : Int)) none = xs.drop n := by
  unfold cutV
  rw [HT.sIx_none, HT.sIx_nat]
  rcases Nat.le_total n xs.length with h | h
  · rw [Nat.min_eq_left h, List.take_of_length_le (by rw [List.length_drop]; omega)]
  · rw [Nat.min_eq_right h, Nat.sub_self, List.take_zero, List.drop_eq_nil_of_le h]
theorem set_cut (v : List Nat) (k n : Nat) (h : k < v.length) : v.take k ++ [n] ++ v.drop (k + 1) = v.set k n := by
  rw [List.set_eq_take_append_cons_drop, if_pos h, List.append_assoc]; rfl
def spWithE : Sp := fun vs H Q _ => ∃ (a t : Addr) (e : Ev) (v : List Nat), vs = [.ref a, .ref t] ∧ H a = some (.lst (v.map nI)) ∧ H t = some (.tup [nI e.1, nI e.2]) ∧ e.1 < v.length ∧ v.length ≤ 1000 ∧ NewL H Q ((withE v e).map nI)
section
variable {P : Program} {w : World} {K : PySem.W.Frag} {mg : Str → Option Value} {base : Heap} {f : Addr} {fd : FuncData}
theorem scWithE : FnScope ["vector", "event"] ["vector", "event"] (defScope sWithE) := ⟨rfl, rfl, rfl, by decide +kernel, rfl, by decide +kernel, by decide +kernel⟩
theorem ok_with_event (F : Fun K "with_event" "with_event" sWithE f fd) : FnOk P w K mg base CX0 1 f fd ["vector", "event"] spWithE := by
  refine F.ok scWithE (fun vs H Q E h => ?_) (fun cdv A outer s H vs Q E hr h => ?_)
  · obtain ⟨a, t, e, v, rfl, _⟩ := h; rfl
  · refine ⟨_, pss_one (ps_ret (pe_op op_cat (pe_op op_cat (pe_slice sl_list (pv 0) po_none (po_some (pe_ix ix_tup (pv 1) pe_int (fun _ _ => rfl))))
        (pe_lst (pa_cons (pe_ix ix_tup (pv 1) pe_int (fun _ _ => rfl)) pa_nil)))
        (pe_slice sl_list (pv 0) (po_some (pe_op op_add (pe_ix ix_tup (pv 1) pe_int (fun _ _ => rfl)) pe_int)) po_none))), ?_⟩
    obtain ⟨a, t, e, v, rfl, ha, ht, hl, hv, q⟩ := h
    refine ⟨_, rfl, _, rfl, t, _, 0, _, rfl, rfl, .of ht, rfl, _, rfl, a, _, rfl, .of ha, fun p1 h1 => ?_⟩
    have s1 : Same H (upd H p1 (.lst (cutV (v.map nI) none (some (e.1 : Int))))) := Same.new h1
    refine ⟨_, rfl, t, _, 1, _, rfl, rfl, .of (s1 _ _ ht), rfl, (by show 1 ≤ sizeLine; decide), fun p2 h2 => ?_⟩
    have s2 := s1.trans (Same.new (o := HO.lst [nI e.2]) h2)
    refine ⟨_, _, _, _, rfl, rfl, Same.new h2 _ _ upd_same, upd_same, ?_, fun p3 h3 => ?_⟩
    · rw [cut_to, List.length_take, List.length_map]
      show min e.1 v.length + 1 ≤ sizeLine
      exact sz_small (by omega)
    have s3 := s2.trans (Same.new (o := HO.lst (cutV (v.map nI) none (some (e.1 : Int)) ++ [nI e.2])) h3)
    refine ⟨_, rfl, _, rfl, t, _, 0, _, rfl, rfl, .of (s3 _ _ ht), rfl, _, _, rfl, rfl, _, rfl, a, _, rfl, .of (s3 _ _ ha), fun p4 h4 => ?_⟩
    refine ⟨_, _, _, _, rfl, rfl, Same.new h4 _ _ upd_same, upd_same, ?_, fun p5 h5 => ?_⟩
    · have e1 : ((e.1 : Int) + 1) = ((e.1 + 1 : Nat) : Int) := by omega
      rw [e1, cut_to, cut_from, List.length_append, List.length_take, List.length_drop, List.length_map]
      show min e.1 v.length + 1 + _ ≤ sizeLine
      exact sz_small (by omega)
    · have e1 : ((e.1 : Int) + 1) = ((e.1 + 1 : Nat) : Int) := by omega
      have e2 : cutV (v.map nI) none (some (e.1 : Int)) ++ [nI e.2] ++ cutV (v.map nI) (some ((e.1 : Int) + 1)) none = (withE v e).map nI := by
        rw [e1, cut_to, cut_from]
        unfold withE
        rw [← set_cut v e.1 e.2 hl, List.map_append, List.map_append, List.map_take, List.map_drop]; rfl
      show Q (.ref p5) (upd _ p5 (.lst (cutV (v.map nI) none (some (e.1 : Int)) ++ [nI e.2] ++ cutV (v.map nI) (some ((e.1 : Int) + 1)) none)))
      rw [e2]
      exact q.at (s3.trans (Same.new h4)) h5
end
end VD
end
/-! ## part cls -/
section
set_option Elab.async false
set_option linter.all false
set_option maxRecDepth 100000
set_option maxHeartbeats 4000000
namespace VD
open PySem PySem.Spec PyProof.Rows L2
/-! ### the classes -/
structure Txt (K : PySem.W.Frag) (C : Cs) : Prop where
  clE : Cls K C.cE
  clR : Cls K C.cR
  clM : Cls K C.cM
  clW : Cls K C.cW
  clS : Cls K C.cS
  nEv : NoAttr K C.cE "value"
  nEn : NoAttr K C.cE "needs"
  nRv : NoAttr K C.cR "vector"
  nRa : NoAttr K C.cR "applied"
  nRp : NoAttr K C.cR "pending"
  nRk : NoAttr K C.cR "known"
  nMs : NoAttr K C.cM "sender"
  nMr : NoAttr K C.cM "receiver"
  nMv : NoAttr K C.cM "vector"
  nMe : NoAttr K C.cM "events"
  nWr : NoAttr K C.cW "replicas"
  nWe : NoAttr K C.cW "events"
  nWm : NoAttr K C.cW "messages"
  nSw : NoAttr K C.cS "world"
abbrev sEvI : Stmt := inClass (topS 8) 0
abbrev sReI : Stmt := inClass (topS 9) 0
abbrev sMeI : Stmt := inClass (topS 10) 0
abbrev sWoI : Stmt := inClass (topS 11) 0
/-- behind an __init__: the instance at p has these fields, all else stands -/
def Inited (C : Addr) (H : Hp) (p dx : Addr) (fs : List (Str × V)) (H' : Hp) : Prop := H' p = some (.ins C dx fs) ∧ ∀ b o, b ≠ p → H b = some o → H' b = some o
def spEvI (C : Cs) : Sp := fun vs H Q _ => ∃ (p dx v : Addr) (n : Nat), vs = [.ref p, nI n, .ref v] ∧ H p = some (.ins C.cE dx []) ∧ ∀ H', Inited C.cE H p dx (eF ⟨n, []⟩ v) H' → Q .non H'
def spMeI (C : Cs) : Sp := fun vs H Q _ => ∃ (p dx v es : Addr) (a b : Nat), vs = [.ref p, nI a, nI b, .ref v, .ref es] ∧ H p = some (.ins C.cM dx []) ∧ ∀ H', Inited C.cM H p dx (mF ⟨a, b, [], []⟩ v es) H' → Q .non H'
def spReI (C : Cs) : Sp := fun vs H Q _ => ∃ (p dx : Addr) (n : Nat), vs = [.ref p, nI n] ∧ n ≤ 6 ∧ H p = some (.ins C.cR dx []) ∧
  ∀ (H' : Hp) (v ap pe kn : Addr) (ks : List Addr), Inited C.cR H p dx (rF v ap pe kn) H' → H v = none → H ap = none → H pe = none → H kn = none → (∀ k ∈ ks, H k = none) →
    ap ≠ v → ap ≠ pe → ap ≠ kn → ap ∉ ks → kn ≠ v → kn ≠ pe → kn ∉ ks → ks.length = n →
    H' v = some (.lst ((List.replicate n 0).map nI)) → H' ap = some (.lst []) → H' pe = some (.lst []) → H' kn = some (.lst (ks.map V.ref)) → (∀ k ∈ ks, H' k = some (.lst ((List.replicate n 0).map nI))) → Q .non H'
section
variable {P : Program} {w : World} {K : PySem.W.Frag} {mg : Str → Option Value} {base : Heap} {f : Addr} {fd : FuncData} {C : Cs}
theorem scEvI : FnScope ["self", "value", "needs"] ["self", "value", "needs"] (defScope sEvI) := ⟨rfl, rfl, rfl, by decide +kernel, rfl, by decide +kernel, by decide +kernel⟩
theorem ok_event_init (T : Txt K C) (F : Fun K "__init__" "Event.__init__" sEvI f fd) : FnOk P w K mg base CX0 1 f fd ["self", "value", "needs"] (spEvI C) := by
  refine F.ok scEvI (fun vs H Q E h => ?_) (fun cdv A outer s H vs Q E hr h => ?_)
  · obtain ⟨p, dx, v, n, rfl, _⟩ := h; rfl
  · refine ⟨_, pss_cons (ps_fld (pv 0) (pv 1) rfl) (pss_one (ps_fld (pv 0) (pv 2) rfl)), ?_⟩
    obtain ⟨p, dx, v, n, rfl, hp, q⟩ := h
    refine ⟨_, rfl, _, rfl, p, _, dx, [], rfl, hp, T.clE, T.nEv, (by show 0 < 1000; decide), _, rfl, _, rfl, p, _, dx, _, rfl, upd_same, T.clE, T.nEn, (by show 1 < 1000; decide), ?_⟩
    refine q _ ⟨Eq.trans upd_same (congrArg (fun q => some (HO.ins C.cE dx q)) (eF_new n v)), fun b o hb e => ?_⟩
    rw [upd_ne hb, upd_ne hb]; exact e
theorem scMeI : FnScope ["self", "sender", "receiver", "vector", "events"] ["self", "sender", "receiver", "vector", "events"] (defScope sMeI) := ⟨rfl, rfl, rfl, by decide +kernel, rfl, by decide +kernel, by decide +kernel⟩
theorem ok_message_init (T : Txt K C) (F : Fun K "__init__" "Message.__init__" sMeI f fd) : FnOk P w K mg base CX0 1 f fd ["self", "sender", "receiver", "vector", "events"] (spMeI C) := by
  refine F.ok scMeI (fun vs H Q E h => ?_) (fun cdv A outer s H vs Q E hr h => ?_)
  · obtain ⟨p, dx, v, es, a, b, rfl, _⟩ := h; rfl
  · refine ⟨_, pss_cons (ps_fld (pv 0) (pv 1) rfl) (pss_cons (ps_fld (pv 0) (pv 2) rfl) (pss_cons (ps_fld (pv 0) (pv 3) rfl) (pss_one (ps_fld (pv 0) (pv 4) rfl)))), ?_⟩
    obtain ⟨p, dx, v, es, a, b, rfl, hp, q⟩ := h
    refine ⟨_, rfl, _, rfl, p, _, dx, [], rfl, hp, T.clM, T.nMs, (by show 0 < 1000; decide), _, rfl, _, rfl, p, _, dx, _, rfl, upd_same, T.clM, T.nMr, (by show 1 < 1000; decide),
      _, rfl, _, rfl, p, _, dx, _, rfl, upd_same, T.clM, T.nMv, (by show 2 < 1000; decide), _, rfl, _, rfl, p, _, dx, _, rfl, upd_same, T.clM, T.nMe, (by show 3 < 1000; decide), ?_⟩
    refine q _ ⟨Eq.trans upd_same (congrArg (fun q => some (HO.ins C.cM dx q)) (mF_new ⟨a, b, [], []⟩ v es)), fun c o hb e => ?_⟩
    rw [upd_ne hb, upd_ne hb, upd_ne hb, upd_ne hb]; exact e
theorem rF_new (v ap pe kn : Addr) : putF "known" (.ref kn) (putF "pending" (.ref pe) (putF "applied" (.ref ap) (putF "vector" (.ref v) []))) = rF v ap pe kn := by
  have e1 : putF "applied" (.ref ap) (putF "vector" (.ref v) []) = ([("vector", .ref v), ("applied", .ref ap)] : List (Str × V)) := (put_past (by decide +kernel)).trans rfl
  have e2 : putF "pending" (.ref pe) ([("vector", .ref v), ("applied", .ref ap)] : List (Str × V)) = ([("vector", .ref v), ("applied", .ref ap), ("pending", .ref pe)] : List (Str × V)) := (put_past (by decide +kernel)).trans (congrArg _ ((put_past (by decide +kernel)).trans rfl))
  rw [e1, e2]
  exact (put_past (by decide +kernel)).trans (congrArg _ ((put_past (by decide +kernel)).trans (congrArg _ ((put_past (by decide +kernel)).trans rfl))))
theorem scReI : FnScope ["self", "many", "other"] ["self", "many"] (defScope sReI) := ⟨rfl, rfl, rfl, by decide +kernel, rfl, by decide +kernel, by decide +kernel⟩
theorem ok_replica_init (T : Txt K C) (B : Blt mg) (cN : Cal CX0 P w K mg base 1 "noughts" spNoughts) (F : Fun K "__init__" "Replica.__init__" sReI f fd) : FnOk P w K mg base CX0 3 f fd ["self", "many"] (spReI C) := by
  refine F.ok scReI (fun vs H Q E h => ?_) (fun cdv A outer s H vs Q E hr h => ?_)
  · obtain ⟨p, dx, n, rfl, _⟩ := h; rfl
  · refine ⟨_, pss_cons (ps_fld (pv 0) (pc cN hr (pa_cons (pv 1) pa_nil)) rfl) (pss_cons (ps_fld (pv 0) (pe_lst pa_nil) rfl) (pss_cons (ps_fld (pv 0) (pe_lst pa_nil) rfl)
      (pss_one (ps_fld (pv 0) (pe_lc (own := [("other", 2)]) (g := gName 2) (tt := tYes) (te := tCall spNoughts [] E0 (tCons (tVar 1) tNil)) (by rfl) scReI.nd (pi_range1 (by rfl) B.range (pa_cons (pv 1) pa_nil))
        (blkOk_by (N := ["self", "many", "other"]) (sc := defScope sReI) (by decide +kernel)) (fun _ _ _ _ _ => pg_name (i := 2) scReI.nd rfl (Or.inl rfl)) (fun _ _ _ _ _ => pts_nil)
        (fun _ _ _ _ _ => by exact pc cN hr (pa_cons (pv 1) pa_nil))) rfl)))), ?_⟩
    obtain ⟨p, dx, n, rfl, h6, hp, q⟩ := h
    -- self.vector
    refine ⟨_, rfl, n, rfl, h6, fun v H1 hv s1 e1 => ?_⟩
    refine ⟨_, rfl, p, _, dx, [], rfl, s1 _ _ hp, T.clR, T.nRv, (by show 0 < 1000; decide), ?_⟩
    generalize hH2 : upd H1 p (.ins C.cR dx (putF "vector" (.ref v) [])) = H2
    have p2 : H2 p = some (.ins C.cR dx (putF "vector" (.ref v) [])) := by rw [← hH2]; exact upd_same
    have k2 : ∀ b o, b ≠ p → H1 b = some o → H2 b = some o := fun b o n e => by rw [← hH2, upd_ne n]; exact e
    have vp : v ≠ p := (ne_of_none hp hv).symm
    -- self.applied
    refine ⟨Nat.zero_le _, fun ap ha => ?_⟩
    have ap1 : ap ≠ p := (ne_of_none p2 ha).symm
    refine ⟨_, rfl, p, _, dx, _, rfl, (upd_ne ap1.symm).trans p2, T.clR, T.nRa, (by show 1 < 1000; decide), ?_⟩
    generalize hH4 : upd (upd H2 ap (.lst [])) p (.ins C.cR dx (putF "applied" (.ref ap) (putF "vector" (.ref v) []))) = H4
    have p4 : H4 p = some (.ins C.cR dx (putF "applied" (.ref ap) (putF "vector" (.ref v) []))) := by rw [← hH4]; exact upd_same
    have a4 : H4 ap = some (.lst []) := by rw [← hH4, upd_ne ap1]; exact upd_same
    have k4 : ∀ b o, b ≠ p → H2 b = some o → H4 b = some o := fun b o n e => by rw [← hH4, upd_ne n, upd_ne (ne_of_none e ha)]; exact e
    -- self.pending
    refine ⟨Nat.zero_le _, fun pe hpe => ?_⟩
    have pe1 : pe ≠ p := (ne_of_none p4 hpe).symm
    refine ⟨_, rfl, p, _, dx, _, rfl, (upd_ne pe1.symm).trans p4, T.clR, T.nRp, (by show 2 < 1000; decide), ?_⟩
    generalize hH6 : upd (upd H4 pe (.lst [])) p (.ins C.cR dx (putF "pending" (.ref pe) (putF "applied" (.ref ap) (putF "vector" (.ref v) [])))) = H6
    have p6 : H6 p = some (.ins C.cR dx (putF "pending" (.ref pe) (putF "applied" (.ref ap) (putF "vector" (.ref v) [])))) := by rw [← hH6]; exact upd_same
    have e6 : H6 pe = some (.lst []) := by rw [← hH6, upd_ne pe1]; exact upd_same
    have k6 : ∀ b o, b ≠ p → H4 b = some o → H6 b = some o := fun b o n e => by rw [← hH6, upd_ne n, upd_ne (ne_of_none e hpe)]; exact e
    have kall : ∀ b o, b ≠ p → H b = some o → H6 b = some o := fun b o n e => k6 b o n (k4 b o n (k2 b o n (s1 b o e)))
    have new6 : ∀ b, H6 b = none → H b = none := fun b hb => by
      cases q0 : H b with
      | none => rfl
      | some o =>
        by_cases c : b = p
        · rw [c, p6] at hb; cases hb
        · rw [kall b o c q0] at hb; cases hb
    have v6 : H6 v = some (.lst ((List.replicate n 0).map nI)) := k6 _ _ vp (k4 _ _ vp (k2 _ _ vp e1))
    have a6 : H6 ap = some (.lst []) := k6 _ _ ap1 a4
    -- self.known
    refine ⟨_, rfl, (n : Int), rfl, by omega, by omega, fun kn hkn => ?_⟩
    have kn1 : kn ≠ p := (ne_of_none p6 hkn).symm
    refine lc_range (lo := 0) (n := n) (fun i H' => ∃ ks : List Addr, ks.length = i ∧ H' kn = some (.lst (ks.map V.ref)) ∧ Same H6 H' ∧ ∀ k ∈ ks, H' k = some (.lst ((List.replicate n 0).map nI)) ∧ H6 k = none ∧ k ≠ kn) ⟨[], rfl, upd_same, Same.new hkn, fun k hk => by cases hk⟩ ?_ ?_
    · rintro i H' hi ⟨ks, hl, hk1, s7, hks⟩
      refine ⟨rfl, ?_⟩
      refine yesT ?_
      refine ⟨_, rfl, n, rfl, h6, fun k H8 hk s8 e8 => ?_⟩
      have kk : k ≠ kn := (ne_of_none hk1 hk).symm
      refine ⟨ks.map V.ref, s8 _ _ hk1, (by rw [List.length_map]; exact small1000 (by omega)), ks ++ [k], by rw [List.length_append, hl]; rfl, by rw [List.map_append]; exact upd_same, fun b o e => ?_, fun k' hk' => ?_⟩
      · rw [upd_ne (ne_of_none e hkn)]
        exact s8 _ _ (s7 _ _ e)
      · rcases List.mem_append.mp hk' with m | m
        · obtain ⟨x1, x2, x3⟩ := hks k' m
          exact ⟨(upd_ne x3).trans (s8 _ _ x1), x2, x3⟩
        · rw [List.mem_singleton.mp m]
          exact ⟨(upd_ne kk).trans e8, s7.free hk, kk⟩
    · rintro H7 ⟨ks, hl, hk1, s7, hks⟩
      refine ⟨_, rfl, p, _, dx, _, rfl, s7 _ _ p6, T.clR, T.nRk, (by show 3 < 1000; decide), ?_⟩
      have ne_ap : ap ≠ v := fun e => by
        have := k2 v _ vp e1
        rw [e] at ha
        rw [ha] at this; cases this
      refine q _ v ap pe kn ks ⟨Eq.trans upd_same (congrArg (fun q => some (HO.ins C.cR dx q)) (rF_new v ap pe kn)), fun b o n e => by rw [upd_ne n]; exact s7 _ _ (kall b o n e)⟩ hv ?_ ?_ (new6 _ hkn) (fun k hk => new6 _ (hks k hk).2.1)
        ne_ap (fun e => by rw [e] at a4; rw [hpe] at a4; cases a4) (fun e => by rw [e] at a6; rw [hkn] at a6; cases a6) (fun m => by have := (hks ap m).2.1; rw [a6] at this; cases this)
        (fun e => by rw [← e] at v6; rw [hkn] at v6; cases v6) (fun e => by rw [← e] at e6; rw [hkn] at e6; cases e6) (fun m => (hks kn m).2.2 rfl) hl ((upd_ne vp).trans (s7 _ _ v6)) ((upd_ne ap1).trans (s7 _ _ a6)) ((upd_ne pe1).trans (s7 _ _ e6)) ((upd_ne kn1).trans hk1)
        (fun k hk => (upd_ne (fun e => by have := (hks k hk).2.1; rw [e, p6] at this; cases this)).trans (hks k hk).1)
      · cases q0 : H ap with
        | none => rfl
        | some o =>
          have := k2 _ _ ap1 (s1 _ _ q0)
          rw [ha] at this; cases this
      · cases q0 : H pe with
        | none => rfl
        | some o =>
          have := k4 _ _ pe1 (k2 _ _ pe1 (s1 _ _ q0))
          rw [hpe] at this; cases this
end
end VD
end
/-! ## part world0 -/
section
set_option Elab.async false
set_option linter.all false
set_option maxRecDepth 100000
set_option maxHeartbeats 4000000
namespace VD
open PySem PySem.Spec PyProof.Rows L2
/-- the part of a heap that another one does not know -/
def rs0 (HB H : Hp) : Hp := fun b => match HB b with
  | none => H b
  | some _ => none
theorem rs0_new {HB H : Hp} {b : Addr} (h : HB b = none) : rs0 HB H b = H b := by unfold rs0; rw [h]
theorem rs0_of {HB H : Hp} {b : Addr} {o : HO} (h : rs0 HB H b = some o) : HB b = none ∧ H b = some o := by
  unfold rs0 at h
  cases q : HB b with
  | none => rw [q] at h; exact ⟨rfl, h⟩
  | some x => rw [q] at h; cases h
def KeepT (T T' : Tags) (H H' : Hp) : Prop := ∀ b o, T b = none → H b = some o → T' b = none ∧ H' b = some o
section
variable {C : Cs} {T T' : Tags} {H H' : Hp} {a : Addr}
theorem VecAt.keepT {v : List Nat} (k : KeepT T T' H H') (h : VecAt T H a v) : VecAt T' H' a v := k _ _ h.1 h.2
theorem EvAt.keepT {e : Ev} (k : KeepT T T' H H') (h : EvAt T H a e) : EvAt T' H' a e := k _ _ h.1 h.2
theorem EvsAt.keepT {l : List Ev} (k : KeepT T T' H H') (h : EvsAt T H a l) : EvsAt T' H' a l := by
  obtain ⟨t, ps, e, h1, h2⟩ := h
  obtain ⟨t', h1'⟩ := k _ _ t h1
  exact ⟨t', ps, e, h1', fun p hp => (h2 p hp).keepT k⟩
theorem RepAt.keepT {R : RepA} {m : MR} (k : KeepT T T' H H') (hr : ∀ o, H R.r = some o → H' R.r = some o) (ha : ∀ o, H R.ap = some o → H' R.ap = some o) (hk : ∀ o, H R.kn = some o → H' R.kn = some o) (h : RepAt C T H R m) : RepAt C T' H' R m := by
  obtain ⟨⟨dx, v, pe, h1, h2, h3⟩, h4, h5⟩ := h
  exact ⟨⟨dx, v, pe, hr _ h1, h2.keepT k, h3.keepT k⟩, h4.imp (fun _ _ q => q.keepT k) ha, h5.imp (fun _ _ q => q.keepT k) hk⟩
end
def tgR (tg : Tags) (R : RepA) (i : Nat) : Tags := fun b => if b = R.r then some (2, i) else if b = R.ap then some (3, i) else if b = R.kn then some (4, i) else tg b
def tgA (tg : Tags) (a : Addr) (x : Nat × Nat) : Tags := fun b => if b = a then some x else tg b
/-- so many replicas of a new world -/
structure Reps (C : Cs) (n : Nat) (HB H : Hp) (tg : Tags) (Rs : List RepA) : Prop where
  new : ∀ b, tg b ≠ none → HB b = none ∧ H b ≠ none
  tR : ∀ (k : Nat) R, Rs[k]? = some R → tg R.r = some (2, k) ∧ tg R.ap = some (3, k) ∧ tg R.kn = some (4, k)
  at_ : ∀ (k : Nat) R, Rs[k]? = some R → RepAt C tg (rs0 HB H) R (mkR n)
theorem lst_vecs {T : Tags} {H : Hp} {a : Addr} {ks : List Addr} {v : List Nat} (ha : H a = some (.lst (ks.map V.ref))) (h : ∀ k ∈ ks, VecAt T H k v) : Lst (VecAt T H) H a (List.replicate ks.length v) := by
  refine ⟨ks.map fun k => (k, v), ?_, ?_, fun p hp => ?_⟩
  · rw [List.map_map]
    exact (List.map_eq_replicate_iff.mpr fun _ _ => rfl).symm
  · rw [List.map_map]; exact ha
  · obtain ⟨k, hk, e⟩ := List.mem_map.mp hp
    rw [← e]; exact h k hk
theorem Reps.more {C : Cs} {n : Nat} {HB H H' : Hp} {tg : Tags} {Rs : List RepA} (h : Reps C n HB H tg Rs) (k : ∀ b o, HB b = none → H b = some o → H' b = some o) (hB : ∀ b, HB b ≠ none → H b ≠ none) {R : RepA} {dx v pe : Addr} {ks : List Addr}
    (n1 : H R.r = none) (n2 : H R.ap = none) (n3 : H R.kn = none) (d1 : R.r ≠ R.ap) (d2 : R.r ≠ R.kn) (d3 : R.ap ≠ R.kn)
    (m1 : H v = none) (m2 : H pe = none) (m3 : ∀ k ∈ ks, H k = none) (e1 : R.r ≠ v) (e2 : R.r ≠ pe) (e3 : R.r ∉ ks) (f1 : R.ap ≠ v) (f2 : R.ap ≠ pe) (f3 : R.ap ∉ ks) (g1 : R.kn ≠ v) (g2 : R.kn ≠ pe) (g3 : R.kn ∉ ks) (hl : ks.length = n)
    (o1 : H' R.r = some (.ins C.cR dx (rF v R.ap pe R.kn))) (o2 : H' v = some (.lst ((List.replicate n 0).map nI))) (o3 : H' R.ap = some (.lst [])) (o4 : H' pe = some (.lst [])) (o5 : H' R.kn = some (.lst (ks.map V.ref)))
    (o6 : ∀ k ∈ ks, H' k = some (.lst ((List.replicate n 0).map nI))) : Reps C n HB H' (tgR tg R Rs.length) (Rs ++ [R]) := by
  have nB : ∀ b, H b = none → HB b = none := fun b hb => by
    cases q : HB b with
    | none => rfl
    | some x => exact absurd hb (hB b (by rw [q]; simp))
  have tn : ∀ b, H b = none → tg b = none := fun b hb => by
    cases q : tg b with
    | none => rfl
    | some x => exact absurd hb (h.new b (by rw [q]; simp)).2
  have tNew : ∀ b, H b = none → b ≠ R.r → b ≠ R.ap → b ≠ R.kn → tgR tg R Rs.length b = none := fun b hb c1 c2 c3 => by
    unfold tgR
    rw [if_neg c1, if_neg c2, if_neg c3]; exact tn b hb
  have tOld : ∀ b, H b ≠ none → tgR tg R Rs.length b = tg b := fun b hb => by
    unfold tgR
    rw [if_neg (fun e => hb (by rw [e]; exact n1)), if_neg (fun e => hb (by rw [e]; exact n2)), if_neg (fun e => hb (by rw [e]; exact n3))]
  have t1 : tgR tg R Rs.length R.r = some (2, Rs.length) := by unfold tgR; rw [if_pos rfl]
  have t2 : tgR tg R Rs.length R.ap = some (3, Rs.length) := by unfold tgR; rw [if_neg d1.symm, if_pos rfl]
  have t3 : tgR tg R Rs.length R.kn = some (4, Rs.length) := by unfold tgR; rw [if_neg d2.symm, if_neg d3.symm, if_pos rfl]
  have new' : ∀ b o, H b = none → H' b = some o → rs0 HB H' b = some o := fun b o hb e => by rw [rs0_new (nB b hb)]; exact e
  have kT : KeepT tg (tgR tg R Rs.length) (rs0 HB H) (rs0 HB H') := fun b o t e => by
    obtain ⟨x, y⟩ := rs0_of e
    refine ⟨by rw [tOld b (by rw [y]; simp)]; exact t, ?_⟩
    rw [rs0_new x]; exact k b o x y
  have kO : ∀ b o, rs0 HB H b = some o → rs0 HB H' b = some o := fun b o e => by
    obtain ⟨x, y⟩ := rs0_of e
    rw [rs0_new x]; exact k b o x y
  refine ⟨fun b hb => ?_, fun j R' hj => ?_, fun j R' hj => ?_⟩
  · unfold tgR at hb
    split at hb
    · rename_i c; rw [c]; exact ⟨nB _ n1, by rw [o1]; simp⟩
    · split at hb
      · rename_i c; rw [c]; exact ⟨nB _ n2, by rw [o3]; simp⟩
      · split at hb
        · rename_i c; rw [c]; exact ⟨nB _ n3, by rw [o5]; simp⟩
        · obtain ⟨x, y⟩ := h.new b hb
          refine ⟨x, ?_⟩
          cases q : H b with
          | none => exact absurd q y
          | some o => rw [k b o x q]; simp
  · rcases Nat.lt_or_ge j Rs.length with c | c
    · rw [List.getElem?_append_left c] at hj
      obtain ⟨x1, x2, x3⟩ := h.tR j R' hj
      have a1 := (h.new R'.r (by rw [x1]; simp)).2
      have a2 := (h.new R'.ap (by rw [x2]; simp)).2
      have a3 := (h.new R'.kn (by rw [x3]; simp)).2
      exact ⟨(tOld _ a1).trans x1, (tOld _ a2).trans x2, (tOld _ a3).trans x3⟩
    · rw [List.getElem?_append_right c] at hj
      have ej : j - Rs.length = 0 := by
        cases hz : j - Rs.length with
        | zero => rfl
        | succ z => rw [hz] at hj; simp at hj
      rw [ej] at hj
      have eR : R = R' := by simpa using hj
      have e2 : j = Rs.length := by omega
      subst eR; subst e2
      exact ⟨t1, t2, t3⟩
  · rcases Nat.lt_or_ge j Rs.length with c | c
    · rw [List.getElem?_append_left c] at hj
      exact (h.at_ j R' hj).keepT kT (kO _) (kO _) (kO _)
    · rw [List.getElem?_append_right c] at hj
      have ej : j - Rs.length = 0 := by
        cases hz : j - Rs.length with
        | zero => rfl
        | succ z => rw [hz] at hj; simp at hj
      rw [ej] at hj
      have eR : R = R' := by simpa using hj
      subst eR
      refine ⟨⟨dx, v, pe, new' _ _ n1 o1, ⟨tNew _ m1 e1.symm f1.symm g1.symm, new' _ _ m1 o2⟩, tNew _ m2 e2.symm f2.symm g2.symm, [], rfl, new' _ _ m2 o4, fun p hp => by cases hp⟩, ⟨[], rfl, new' _ _ n2 o3, fun p hp => by cases hp⟩, ?_⟩
      have := lst_vecs (T := tgR tg R Rs.length) (H := rs0 HB H') (a := R.kn) (ks := ks) (v := List.replicate n 0) (new' _ _ n3 o5) fun k hk => ⟨tNew _ (m3 k hk) (fun e => e3 (by rw [← e]; exact hk)) (fun e => f3 (by rw [← e]; exact hk)) (fun e => g3 (by rw [← e]; exact hk)), new' _ _ (m3 k hk) (o6 k hk)⟩
      rw [hl] at this
      exact this
/-- nothing of them changes; a tag more, at a new address -/
theorem Reps.keep {C : Cs} {n : Nat} {HB H H' : Hp} {tg : Tags} {Rs : List RepA} (h : Reps C n HB H tg Rs) (k : ∀ b o, HB b = none → H b = some o → H' b = some o) : Reps C n HB H' tg Rs := by
  have kT : KeepT tg tg (rs0 HB H) (rs0 HB H') := fun b o t e => by
    obtain ⟨x, y⟩ := rs0_of e
    exact ⟨t, by rw [rs0_new x]; exact k b o x y⟩
  have kO : ∀ b o, rs0 HB H b = some o → rs0 HB H' b = some o := fun b o e => by
    obtain ⟨x, y⟩ := rs0_of e
    rw [rs0_new x]; exact k b o x y
  refine ⟨fun b hb => ?_, h.tR, fun j R hj => (h.at_ j R hj).keepT kT (kO _) (kO _) (kO _)⟩
  obtain ⟨x, y⟩ := h.new b hb
  refine ⟨x, ?_⟩
  cases q : H b with
  | none => exact absurd q y
  | some o => rw [k b o x q]; simp
/-- seen from another ground -/
theorem Reps.base {C : Cs} {n : Nat} {HB HB' H H' : Hp} {tg : Tags} {Rs : List RepA} (h : Reps C n HB H tg Rs) (k : ∀ b o, HB b = none → H b = some o → HB' b = none ∧ H' b = some o) : Reps C n HB' H' tg Rs := by
  have kO : ∀ b o, rs0 HB H b = some o → rs0 HB' H' b = some o := fun b o e => by
    obtain ⟨x, y⟩ := rs0_of e
    obtain ⟨z, u⟩ := k b o x y
    rw [rs0_new z]; exact u
  have kT : KeepT tg tg (rs0 HB H) (rs0 HB' H') := fun b o t e => ⟨t, kO b o e⟩
  refine ⟨fun b hb => ?_, h.tR, fun j R hj => (h.at_ j R hj).keepT kT (kO _) (kO _) (kO _)⟩
  obtain ⟨x, y⟩ := h.new b hb
  cases q : H b with
  | none => exact absurd q y
  | some o =>
    obtain ⟨z, u⟩ := k b o x q
    exact ⟨z, by rw [u]; simp⟩
theorem Reps.tag {C : Cs} {n : Nat} {HB H H' : Hp} {tg : Tags} {Rs : List RepA} (h : Reps C n HB H tg Rs) {a : Addr} (ha : H a = none) (hB : HB a = none) {x : Nat × Nat} (k : ∀ b o, HB b = none → H b = some o → H' b = some o) (ha' : H' a ≠ none) : Reps C n HB H' (tgA tg a x) Rs := by
  have tOld : ∀ b, H b ≠ none → tgA tg a x b = tg b := fun b hb => by
    unfold tgA
    rw [if_neg (fun e => hb (by rw [e]; exact ha))]
  have h' := h.keep k
  have kT : KeepT tg (tgA tg a x) (rs0 HB H) (rs0 HB H') := fun b o t e => by
    obtain ⟨x, y⟩ := rs0_of e
    exact ⟨by rw [tOld b (by rw [y]; simp)]; exact t, by rw [rs0_new x]; exact k b o x y⟩
  have kO : ∀ b o, rs0 HB H b = some o → rs0 HB H' b = some o := fun b o e => by
    obtain ⟨x, y⟩ := rs0_of e
    rw [rs0_new x]; exact k b o x y
  refine ⟨fun b hb => ?_, fun j R hj => ?_, fun j R hj => (h.at_ j R hj).keepT kT (kO _) (kO _) (kO _)⟩
  · unfold tgA at hb
    split at hb
    · rename_i c; rw [c]; exact ⟨hB, ha'⟩
    · exact h'.new b hb
  · obtain ⟨x1, x2, x3⟩ := h.tR j R hj
    have a1 := (h.new R.r (by rw [x1]; simp)).2
    have a2 := (h.new R.ap (by rw [x2]; simp)).2
    have a3 := (h.new R.kn (by rw [x3]; simp)).2
    exact ⟨(tOld _ a1).trans x1, (tOld _ a2).trans x2, (tOld _ a3).trans x3⟩
end VD
end
/-! ## part world1 -/
section
set_option Elab.async false
set_option linter.all false
set_option maxRecDepth 100000
set_option maxHeartbeats 4000000
namespace VD
open PySem PySem.Spec PyProof.Rows L2
/-- what stands at p, and what H does not know -/
def rsP (H : Hp) (p : Addr) (H' : Hp) : Hp := fun b => if b = p then H' b else rs0 H H' b
theorem wF_new (L : Lay) : putF "messages" (.ref L.aM) (putF "events" (.ref L.aE) (putF "replicas" (.ref L.aR) [])) = wF L := by
  have e1 : putF "events" (.ref L.aE) (putF "replicas" (.ref L.aR) []) = ([("replicas", .ref L.aR), ("events", .ref L.aE)] : List (Str × V)) := (put_past (by decide +kernel)).trans rfl
  rw [e1]
  exact (put_past (by decide +kernel)).trans (congrArg _ ((put_past (by decide +kernel)).trans rfl))
def spWoI (C : Cs) : Sp := fun vs H Q _ => ∃ (p dx : Addr) (n : Nat), vs = [.ref p, nI n] ∧ 1 ≤ n ∧ n ≤ 6 ∧ H p = some (.ins C.cW dx []) ∧
  ∀ (H' : Hp) (L : Lay), L.w = p → Wd C (rsP H p H') L (mkW n) → (∀ b, L.tag b ≠ none → H b = none) → (∀ b o, b ≠ p → H b = some o → H' b = some o) → Q .non H'
section
variable {P : Program} {w : World} {K : PySem.W.Frag} {mg : Str → Option Value} {base : Heap} {f : Addr} {fd : FuncData} {C : Cs}
theorem scWoI : FnScope ["self", "many", "number"] ["self", "many"] (defScope sWoI) := ⟨rfl, rfl, rfl, by decide +kernel, rfl, by decide +kernel, by decide +kernel⟩
theorem ok_world_init (T : Txt K C) (B : Blt mg) (cR : Mak P w K mg base 3 "Replica" C.cR (spReI C)) (F : Fun K "__init__" "World.__init__" sWoI f fd) : FnOk P w K mg base CX0 6 f fd ["self", "many"] (spWoI C) := by
  refine F.ok scWoI (fun vs H Q E h => ?_) (fun cdv A outer s H vs Q E hr h => ?_)
  · obtain ⟨p, dx, n, rfl, _⟩ := h; rfl
  · refine ⟨_, pss_cons (ps_fld (pv 0) (pe_lc (own := [("number", 2)]) (g := gName 2) (tt := tYes) (te := tMake C.cR (spReI C) [] E0 (tCons (tVar 1) tNil)) (by rfl) scWoI.nd (pi_range1 (by rfl) B.range (pa_cons (pv 1) pa_nil))
        (blkOk_by (N := ["self", "many", "number"]) (sc := defScope sWoI) (by decide +kernel)) (fun _ _ _ _ _ => pg_name (i := 2) scWoI.nd rfl (Or.inl rfl)) (fun _ _ _ _ _ => pts_nil)
        (fun _ _ _ _ _ => by exact pmk cR hr (pa_cons (pv 1) pa_nil))) rfl)
      (pss_cons (ps_fld (pv 0) (pe_lc (own := [("number", 2)]) (g := gName 2) (tt := tYes) (te := tLst tNil) (by rfl) scWoI.nd (pi_range1 (by rfl) B.range (pa_cons (pv 1) pa_nil))
        (blkOk_by (N := ["self", "many", "number"]) (sc := defScope sWoI) (by decide +kernel)) (fun _ _ _ _ _ => pg_name (i := 2) scWoI.nd rfl (Or.inl rfl)) (fun _ _ _ _ _ => pts_nil)
        (fun _ _ _ _ _ => by exact pe_lst pa_nil)) rfl)
      (pss_one (ps_fld (pv 0) (pe_lst pa_nil) rfl))), ?_⟩
    obtain ⟨p, dx, n, rfl, h1, h6, hp, q⟩ := h
    -- self.replicas
    refine ⟨_, rfl, (n : Int), rfl, by omega, by omega, fun aR hR => ?_⟩
    have aRp : aR ≠ p := (ne_of_none hp hR).symm
    refine lc_range (lo := 0) (n := n) (fun i H' => ∃ (Rs : List RepA) (tg : Tags), Rs.length = i ∧ H' aR = some (.lst (Rs.map fun R => V.ref R.r)) ∧ Same H H' ∧ Reps C n (upd H aR (.lst [])) H' tg Rs)
      ⟨[], fun _ => none, rfl, upd_same, Same.new hR, ⟨fun b hb => absurd rfl hb, fun k R h => by simp at h, fun k R h => by simp at h⟩⟩ ?_ ?_
    · rintro i H1 hi ⟨Rs, tg, hl, hl1, s1, hRs⟩
      refine ⟨rfl, yesT ?_⟩
      refine ⟨_, rfl, fun x dx2 nx nd ne => ?_⟩
      refine ⟨x, dx2, n, rfl, h6, upd_same, fun H2 v ap pe kn ks I v0 ap0 pe0 kn0 ks0 d1 d2 d3 d4 d5 d6 d7 hkl o1 o2 o3 o4 o5 => ⟨rfl, ?_⟩⟩
      have fr : ∀ b, upd (upd H1 dx2 (.own x)) x (.ins C.cR dx2 []) b = none → H1 b = none ∧ b ≠ x := fun b hb => by
        have c1 : b ≠ x := fun e => by rw [e, upd_same] at hb; cases hb
        rw [upd_ne c1] at hb
        have c2 : b ≠ dx2 := fun e => by rw [e, upd_same] at hb; cases hb
        rw [upd_ne c2] at hb
        exact ⟨hb, c1⟩
      have kp : ∀ b o, H1 b = some o → H2 b = some o := fun b o e => by
        refine I.2 b o (ne_of_none e nx) ?_
        rw [upd_ne (ne_of_none e nx), upd_ne (ne_of_none e nd)]; exact e
      have nR : ∀ b, H1 b = none → b ≠ aR := fun b hb e => by rw [e, hl1] at hb; cases hb
      refine ⟨_, kp _ _ hl1, (by rw [List.length_map]; exact small1000 (by omega)), Rs ++ [⟨x, ap, kn⟩], tgR tg ⟨x, ap, kn⟩ Rs.length, by rw [List.length_append, hl]; rfl, by rw [List.map_append]; exact upd_same, fun b o e => ?_, ?_⟩
      · rw [upd_ne (ne_of_none e hR)]; exact kp _ _ (s1 _ _ e)
      · refine hRs.more (dx := dx2) (v := v) (pe := pe) (ks := ks) (fun b o hb e => ?_) (fun b hb => ?_) nx (fr _ ap0).1 (fr _ kn0).1 (fr _ ap0).2.symm (fr _ kn0).2.symm d3 (fr _ v0).1 (fr _ pe0).1 (fun k hk => (fr _ (ks0 k hk)).1) (fr _ v0).2.symm (fr _ pe0).2.symm
          (fun m => (fr _ (ks0 x m)).2 rfl) d1 d2 d4 d5 d6 d7 hkl ((upd_ne (nR _ nx)).trans I.1) ((upd_ne (nR _ (fr _ v0).1)).trans o1) ((upd_ne (nR _ (fr _ ap0).1)).trans o2) ((upd_ne (nR _ (fr _ pe0).1)).trans o3) ((upd_ne (nR _ (fr _ kn0).1)).trans o4)
          (fun k hk => (upd_ne (nR _ (fr _ (ks0 k hk)).1)).trans (o5 k hk))
        · rw [upd_ne (fun c => by rw [c, upd_same] at hb; cases hb)]; exact kp _ _ e
        · by_cases c : b = aR
          · rw [c, hl1]; simp
          · rw [upd_ne c] at hb
            cases q0 : H b with
            | none => exact absurd q0 hb
            | some o => rw [s1 _ _ q0]; simp
    rintro H1 ⟨Rs, tg, hl, hl1, s1, hRs⟩
    refine ⟨_, rfl, p, _, dx, [], rfl, s1 _ _ hp, T.clW, T.nWr, (by show 0 < 1000; decide), ?_⟩
    generalize hH2 : upd H1 p (.ins C.cW dx (putF "replicas" (.ref aR) [])) = H2
    have p2 : H2 p = some (.ins C.cW dx (putF "replicas" (.ref aR) [])) := by rw [← hH2]; exact upd_same
    have k2 : ∀ b o, b ≠ p → H1 b = some o → H2 b = some o := fun b o c e => by rw [← hH2, upd_ne c]; exact e
    have hB : (upd H aR (.lst [])) p ≠ none := by rw [upd_ne aRp.symm, hp]; simp
    have hRs2 : Reps C n (upd H aR (.lst [])) H2 tg Rs := hRs.keep fun b o hb e => k2 b o (fun c => hB (by rw [← c]; exact hb)) e
    have aR2 : H2 aR = some (.lst (Rs.map fun R => V.ref R.r)) := k2 _ _ aRp hl1
    have oldB : ∀ b, (upd H aR (.lst [])) b ≠ none → H2 b ≠ none := fun b hb => by
      by_cases c : b = aR
      · rw [c, aR2]; simp
      · rw [upd_ne c] at hb
        cases q0 : H b with
        | none => exact absurd q0 hb
        | some o =>
          by_cases cp : b = p
          · rw [cp, p2]; simp
          · rw [k2 _ _ cp (s1 _ _ q0)]; simp
    -- self.events
    refine ⟨_, rfl, (n : Int), rfl, by omega, by omega, fun aE hE => ?_⟩
    have aEp : aE ≠ p := (ne_of_none p2 hE).symm
    generalize hHB : upd (upd H aR (.lst [])) aE (.lst []) = HB
    have nB : ∀ b, HB b = none → b ≠ aE ∧ b ≠ aR ∧ b ≠ p ∧ H b = none := fun b hb => by
      rw [← hHB] at hb
      have c1 : b ≠ aE := fun e => by rw [e, upd_same] at hb; cases hb
      rw [upd_ne c1] at hb
      have c2 : b ≠ aR := fun e => by rw [e, upd_same] at hb; cases hb
      rw [upd_ne c2] at hb
      exact ⟨c1, c2, (fun e => by rw [e, hp] at hb; cases hb), hb⟩
    have Bn : ∀ b, b ≠ aE → b ≠ aR → H b = none → HB b = none := fun b c1 c2 h => by rw [← hHB, upd_ne c1, upd_ne c2]; exact h
    have up2 : ∀ b, H2 b = none → H b = none := fun b hb => by
      cases q0 : H b with
      | none => rfl
      | some o =>
        by_cases cp : b = p
        · rw [cp, p2] at hb; cases hb
        · rw [k2 _ _ cp (s1 _ _ q0)] at hb; cases hb
    refine lc_range (lo := 0) (n := n) (fun i H' => ∃ (rows : List Addr) (tg : Tags), rows.length = i ∧ H' aE = some (.lst (rows.map V.ref)) ∧ Same H2 H' ∧ Reps C n HB H' tg Rs ∧ (∀ (k : Nat) a, rows[k]? = some a → tg a = some (1, k) ∧ H' a = some (.lst [])))
      ⟨[], tg, rfl, upd_same, Same.new hE, hRs2.base fun b o hb e => ?_, fun k a h => by simp at h⟩ ?_ ?_
    · have c2 : b ≠ aR := fun c => by rw [c, upd_same] at hb; cases hb
      rw [upd_ne c2] at hb
      exact ⟨Bn b (ne_of_none e hE) c2 hb, Same.new hE b o e⟩
    · rintro i H3 hi ⟨rows, tg3, hrl, hr1, s3, hRs3, hrows⟩
      refine ⟨rfl, yesT ?_⟩
      refine ⟨Nat.zero_le _, fun a ha => ?_⟩
      have aaE : a ≠ aE := fun e => by rw [e, hr1] at ha; cases ha
      have aaR : a ≠ aR := fun e => by rw [e, s3 _ _ aR2] at ha; cases ha
      have ha2 : H2 a = none := s3.free ha
      refine ⟨_, Same.new ha _ _ hr1, (by rw [List.length_map]; exact small1000 (by omega)), rows ++ [a], tgA tg3 a (1, i), by rw [List.length_append, hrl]; rfl, by rw [List.map_append]; exact upd_same, fun b o e => ?_, ?_, fun k b hk => ?_⟩
      · rw [upd_ne (ne_of_none e hE)]; exact Same.new ha _ _ (s3 _ _ e)
      · refine hRs3.tag ha (Bn a aaE aaR (up2 a ha2)) (fun b o hb e => ?_) (by rw [upd_ne aaE, upd_same]; simp)
        rw [upd_ne (nB b hb).1]; exact Same.new ha _ _ e
      · rcases Nat.lt_or_ge k rows.length with c | c
        · rw [List.getElem?_append_left c] at hk
          obtain ⟨x1, x2⟩ := hrows k b hk
          have hba : b ≠ a := ne_of_none x2 ha
          refine ⟨by unfold tgA; rw [if_neg hba]; exact x1, ?_⟩
          have hbE : b ≠ aE := fun e => by
            have := (hRs3.new b (by rw [x1]; simp)).1
            exact (nB b this).1 e
          rw [upd_ne hbE]; exact Same.new ha _ _ x2
        · rw [List.getElem?_append_right c] at hk
          have ej : k - rows.length = 0 := by
            cases hz : k - rows.length with
            | zero => rfl
            | succ z => rw [hz] at hk; simp at hk
          rw [ej] at hk
          have eb : a = b := by simpa using hk
          have ek : k = i := by omega
          subst eb; subst ek
          refine ⟨by unfold tgA; rw [if_pos rfl], ?_⟩
          rw [upd_ne aaE]; exact upd_same
    rintro H3 ⟨rows, tg3, hrl, hr1, s3, hRs3, hrows⟩
    refine ⟨_, rfl, p, _, dx, _, rfl, s3 _ _ p2, T.clW, T.nWe, (by show 1 < 1000; decide), ?_⟩
    generalize hH4 : upd H3 p (.ins C.cW dx (putF "events" (.ref aE) (putF "replicas" (.ref aR) []))) = H4
    have p4 : H4 p = some (.ins C.cW dx (putF "events" (.ref aE) (putF "replicas" (.ref aR) []))) := by rw [← hH4]; exact upd_same
    have k4 : ∀ b o, b ≠ p → H3 b = some o → H4 b = some o := fun b o c e => by rw [← hH4, upd_ne c]; exact e
    -- self.messages
    refine ⟨Nat.zero_le _, fun aM hM => ?_⟩
    have aMp : aM ≠ p := (ne_of_none p4 hM).symm
    refine ⟨_, rfl, p, _, dx, _, rfl, (upd_ne aMp.symm).trans p4, T.clW, T.nWm, (by show 2 < 1000; decide), ?_⟩
    have aMR : aM ≠ aR := fun e => by rw [e, k4 _ _ aRp (s3 _ _ aR2)] at hM; cases hM
    have aME : aM ≠ aE := fun e => by rw [e, k4 _ _ aEp hr1] at hM; cases hM
    have fin : ∀ o, upd (upd H4 aM (.lst [])) p o = upd (upd H4 aM (.lst [])) p o := fun _ => rfl
    have hM3 : H3 aM = none := by
      cases q0 : H3 aM with
      | none => rfl
      | some o => rw [k4 _ _ aMp q0] at hM; cases hM
    have hM2 : H2 aM = none := s3.free hM3
    have hM0 : H aM = none := up2 _ hM2
    have hRs4 : Reps C n HB (upd (upd H4 aM (.lst [])) p (.ins C.cW dx (putF "messages" (.ref aM) (putF "events" (.ref aE) (putF "replicas" (.ref aR) []))))) (tgA tg3 aM (0, 0)) Rs := by
      refine hRs3.tag hM3 (Bn _ aME aMR hM0) (fun b o hb e => ?_) (by rw [upd_ne aMp, upd_same]; simp)
      rw [upd_ne (nB b hb).2.2.1]
      exact Same.new hM _ _ (k4 _ _ (nB b hb).2.2.1 e)
    have tF : ∀ b, HB b ≠ none → tgA tg3 aM (0, 0) b = none := fun b hb => by
      cases q0 : tgA tg3 aM (0, 0) b with
      | none => rfl
      | some y => exact absurd (hRs4.new b (by rw [q0]; simp)).1 hb
    have hpB : HB p ≠ none := fun h => (nB p h).2.2.1 rfl
    have hRB : HB aR ≠ none := fun h => (nB aR h).2.1 rfl
    have hEB : HB aE ≠ none := fun h => (nB aE h).1 rfl
    have bump : ∀ b o, b ≠ p → H4 b = some o → upd (upd H4 aM (.lst [])) p (.ins C.cW dx (putF "messages" (.ref aM) (putF "events" (.ref aE) (putF "replicas" (.ref aR) [])))) b = some o := fun b o c e => by
      rw [upd_ne c]; exact Same.new hM _ _ e
    have toP : ∀ (H9 : Hp) b o, b ≠ p → H b = none → H9 b = some o → rsP H p H9 b = some o := fun H9 b o c hb e => by
      unfold rsP
      rw [if_neg c, rs0_new hb]; exact e
    have rtag : ∀ (k : Nat) a, rows[k]? = some a → tgA tg3 aM (0, 0) a = some (1, k) := fun k a hk => by
      have x := (hrows k a hk)
      unfold tgA
      rw [if_neg (fun e => by rw [e] at x; rw [hM3] at x; cases x.2)]
      exact x.1
    refine q _ ⟨p, aR, aE, aM, Rs, rows, tgA tg3 aM (0, 0)⟩ rfl ⟨?_, ?_, ?_, ?_, ?_, ?_, ?_, ?_, ?_, ?_, ?_, ?_⟩ (fun b hb => (nB b (hRs4.new b hb).1).2.2.2) (fun b o c e => bump b o c (k4 _ _ c (s3 _ _ (k2 _ _ c (s1 _ _ e)))))
    · show tgA tg3 aM (0, 0) aM = _
      unfold tgA; rw [if_pos rfl]
    · exact rtag
    · exact hRs4.tR
    · refine ⟨tF p hpB, dx, ?_⟩
      show rsP H p _ p = _
      unfold rsP
      rw [if_pos rfl, upd_same]
      exact congrArg (fun q => some (HO.ins C.cW dx q)) (wF_new ⟨p, aR, aE, aM, Rs, rows, tgA tg3 aM (0, 0)⟩)
    · exact ⟨tF aR hRB, toP _ _ _ aRp hR (bump _ _ aRp (k4 _ _ aRp (s3 _ _ aR2)))⟩
    · exact ⟨tF aE hEB, toP _ _ _ aEp (up2 _ hE) (bump _ _ aEp (k4 _ _ aEp hr1))⟩
    · exact ⟨[], rfl, toP _ _ _ aMp hM0 (by rw [upd_ne aMp]; exact upd_same), fun p hp => by cases hp⟩
    · exact hl.trans (List.length_replicate).symm
    · exact hrl.trans (List.length_replicate).symm
    · intro k R m e1 e2
      have e2' : (List.replicate n (mkR n))[k]? = some m := e2
      rw [List.getElem?_replicate] at e2'
      split at e2'
      · cases e2'
        have kO : ∀ b o, rs0 HB (upd (upd H4 aM (.lst [])) p (.ins C.cW dx (putF "messages" (.ref aM) (putF "events" (.ref aE) (putF "replicas" (.ref aR) []))))) b = some o → rsP H p (upd (upd H4 aM (.lst [])) p (.ins C.cW dx (putF "messages" (.ref aM) (putF "events" (.ref aE) (putF "replicas" (.ref aR) []))))) b = some o := fun b o e => by
          obtain ⟨x, y⟩ := rs0_of e
          exact toP _ _ _ (nB b x).2.2.1 (nB b x).2.2.2 y
        exact (hRs4.at_ k R e1).keepT (fun b o t e => ⟨t, kO b o e⟩) (kO _) (kO _) (kO _)
      · cases e2'
    · intro k a es e1 e2
      have e2' : (List.replicate n ([] : List EvI))[k]? = some es := e2
      rw [List.getElem?_replicate] at e2'
      split at e2'
      · cases e2'
        have x := hrows k a e1
        have y := (nB a (hRs3.new a (by rw [x.1]; simp)).1)
        exact ⟨[], rfl, toP _ _ _ y.2.2.1 y.2.2.2 (bump _ _ y.2.2.1 (k4 _ _ y.2.2.1 x.2)), fun p hp => by cases hp⟩
      · cases e2'
    · intro b hb
      obtain ⟨x, y⟩ := hRs4.new b hb
      cases q0 : upd (upd H4 aM (.lst [])) p (.ins C.cW dx (putF "messages" (.ref aM) (putF "events" (.ref aE) (putF "replicas" (.ref aR) [])))) b with
      | none => exact absurd q0 y
      | some o => rw [toP _ _ _ (nB b x).2.2.1 (nB b x).2.2.2 q0]; simp
end
end VD
end
/-! ## part world2 -/
section
set_option Elab.async false
set_option linter.all false
set_option maxRecDepth 100000
set_option maxHeartbeats 4000000
namespace VD
open PySem PySem.Spec PyProof.Rows L2
abbrev sMany : Stmt := topS 12
abbrev sIsEvent : Stmt := topS 13
abbrev sEventOf : Stmt := topS 14
abbrev sCan : Stmt := topS 15
abbrev sApply : Stmt := topS 16
abbrev sCreateE : Stmt := topS 17
def spMany (C : Cs) : Sp := fun vs H Q _ => ∃ (L : Lay) (w : MW), vs = [.ref L.w] ∧ Wd C H L w ∧ w.rows.length ≤ 1000 ∧ ∀ H', Same H H' → Q (nI w.many) H'
def spIsEvent (C : Cs) : Sp := fun vs H Q _ => ∃ (L : Lay) (w : MW) (j n : Nat), vs = [.ref L.w, nI j, nI n] ∧ Wd C H L w ∧ Q (.bl (w.isEv j n)) H
def spEventOf (C : Cs) : Sp := fun vs H Q _ => ∃ (L : Lay) (w : MW) (t : Addr) (e : Ev), vs = [.ref L.w, .ref t] ∧ Wd C H L w ∧ H t = some (.tup [nI e.1, nI e.2]) ∧ w.rows.length = w.reps.length ∧ EvOk w e ∧ ∀ a, InfoAt C L.tag H a (w.ev e) → Q (.ref a) H
def spCan (C : Cs) : Sp := fun vs H Q _ => ∃ (L : Lay) (w : MW) (k : Nat) (R : RepA) (t : Addr) (e : Ev) (m : MR), vs = [.ref L.w, .ref R.r, .ref t] ∧ Wd C H L w ∧ RepAt C L.tag H R m ∧ H t = some (.tup [nI e.1, nI e.2]) ∧
  w.rows.length = w.reps.length ∧ EvOk w e ∧ (w.ev e).needs.length = m.vec.length ∧ e.1 < m.vec.length ∧ ∀ H', Same H H' → Q (.bl (can w m.vec e)) H'
def rLen (K : PySem.W.Frag) : List V → Hp → VK → Prop := fun xs H Q => ∃ p ys, xs = [.ref p] ∧ (SqL K H p ys ∨ SqT K H p ys) ∧ Q (.int ys.length) H
theorem Lst.len {α : Type} {P : Addr → α → Prop} {H : Hp} {a : Addr} {l : List α} (h : Lst P H a l) : ∃ xs : List V, H a = some (.lst xs) ∧ xs.length = l.length := by
  obtain ⟨ps, e, h1, _⟩ := h
  exact ⟨_, h1, by rw [e, List.length_map, List.length_map]⟩
theorem Lst.at_ {α : Type} {P : Addr → α → Prop} {H : Hp} {a : Addr} {l : List α} (h : Lst P H a l) {i : Nat} {x : α} (hi : l[i]? = some x) : ∃ xs b, H a = some (.lst xs) ∧ xs[i]? = some (V.ref b) ∧ P b x := by
  obtain ⟨ps, e, h1, h2⟩ := h
  rw [e] at hi
  obtain ⟨p, hp, q⟩ := map_at hi
  refine ⟨_, p.1, h1, at_map hp, ?_⟩
  rw [q]; exact h2 p (List.mem_of_getElem? hp)
section
variable {P : Program} {w : World} {K : PySem.W.Frag} {mg : Str → Option Value} {base : Heap} {f : Addr} {fd : FuncData} {C : Cs}
theorem scMany : FnScope ["world", "row"] ["world"] (defScope sMany) := ⟨rfl, rfl, rfl, by decide +kernel, rfl, by decide +kernel, by decide +kernel⟩
theorem ok_many_events (T : Txt K C) (B : Blt mg) (F : Fun K "many_events" "many_events" sMany f fd) : FnOk P w K mg base CX0 1 f fd ["world"] (spMany C) := by
  refine F.ok scMany (fun vs H Q E h => ?_) (fun cdv A outer s H vs Q E hr h => ?_)
  · obtain ⟨L, w, rfl, _⟩ := h; rfl
  · refine ⟨_, pss_one (ps_ret (pe_callB (cr_sum rfl) (by rfl) B.sum (by decide +kernel) (pa_cons (pe_lc (own := [("row", 1)]) (g := gName 1) (tt := tYes) (te := tCB (rLen K) (tCons (tVar 1) tNil)) (by rfl) scMany.nd (pi_list (pe_fld (pv 0) rfl))
        (blkOk_by (N := ["world", "row"]) (sc := defScope sMany) (by decide +kernel)) (fun _ _ _ _ _ => pg_name (i := 1) scMany.nd rfl (Or.inl rfl)) (fun _ _ _ _ _ => pts_nil)
        (fun _ _ _ _ _ => by exact pe_callB call_len_seq (by rfl) B.len PySem.boot_len (pa_cons (pv 1) pa_nil))) pa_nil))), ?_⟩
    obtain ⟨L, w, rfl, hW, hz, q⟩ := h
    obtain ⟨tw, dw, hw⟩ := hW.wd
    refine ⟨_, rfl, L.w, _, dw, _, _, rfl, hw, T.clW, T.nWe, wF_events L, L.aE, rfl, ⟨_, .of hW.aE.2⟩, fun D hD => ?_⟩
    refine lc_list (K := K) (a := L.aE) (xs := L.rows.map V.ref) (fun i H' => Same H H' ∧ H' D = some (.lst (((w.rows.take i).map fun r => (r.length : Int)).map V.int))) ⟨Same.new hD, upd_same⟩
      (fun i H' _ ⟨s, _⟩ => .of (s _ _ hW.aE.2)) ?_ ?_
    · rintro i x H' hx ⟨s, hd⟩
      obtain ⟨a, ha, rfl⟩ := map_at hx
      have hi : i < w.rows.length := by
        rw [← hW.le]
        exact (List.getElem?_eq_some_iff.mp ha).1
      have hr := hW.row i a _ ha (List.getElem?_eq_getElem hi)
      obtain ⟨xs, hxs, hl⟩ := hr.len
      refine ⟨rfl, yesT ?_⟩
      refine ⟨_, rfl, a, xs, rfl, .inl (.of (s _ _ hxs)), _, hd, ?_, fun b o e => ?_, ?_⟩
      · rw [List.length_map, List.length_map, List.length_take]
        exact small1000 (by omega)
      · rw [upd_ne (ne_of_none e hD)]; exact s _ _ e
      · rw [upd_same, List.take_succ, List.getElem?_eq_getElem hi, hl, List.map_append, List.map_append]; rfl
    · rintro H' ⟨s, hd⟩
      refine ⟨D, _, rfl, .of hd, ?_⟩
      have e : ((w.rows.take (L.rows.map V.ref).length).map fun r => (r.length : Int)).sum = ((w.many : Nat) : Int) := by
        rw [List.length_map, List.take_of_length_le (by rw [hW.le]; exact Nat.le_refl _)]
        unfold MW.many
        generalize w.rows = l
        induction l with
        | nil => rfl
        | cons x l ih => rw [List.map_cons, List.map_cons, List.sum_cons, List.sum_cons, ih]; omega
      rw [e]
      exact q _ s
theorem scIsEvent : FnScope ["world", "replica", "number"] ["world", "replica", "number"] (defScope sIsEvent) := ⟨rfl, rfl, rfl, by decide +kernel, rfl, by decide +kernel, by decide +kernel⟩
theorem ok_is_event (T : Txt K C) (B : Blt mg) (F : Fun K "is_event" "is_event" sIsEvent f fd) : FnOk P w K mg base CX0 1 f fd ["world", "replica", "number"] (spIsEvent C) := by
  refine F.ok scIsEvent (fun vs H Q E h => ?_) (fun cdv A outer s H vs Q E hr h => ?_)
  · obtain ⟨L, w, j, n, rfl, _⟩ := h; rfl
  · refine ⟨_, pss_one (ps_ret (pe_and (pe_cmpR op_lt (pv 1) (pe_callB call_len_seq (by rfl) B.len PySem.boot_len (pa_cons (pe_fld (pv 0) rfl) pa_nil)) (nomark _))
      (pe_one (pe_chain op_le op_le pe_int (pv 2) (pe_callB call_len_seq (by rfl) B.len PySem.boot_len (pa_cons (pe_ix ix_list (pe_fld (pv 0) rfl) (pv 1) (fun _ _ => rfl)) pa_nil)))))), ?_⟩
    obtain ⟨L, w, j, n, rfl, hW, q⟩ := h
    obtain ⟨tw, dw, hw⟩ := hW.wd
    refine ⟨_, rfl, _, rfl, L.w, _, dw, _, _, rfl, hw, T.clW, T.nWe, wF_events L, _, _, rfl, .inl (.of hW.aE.2), _, _, rfl, rfl, _, rfl, ?_⟩
    have hlen : (L.rows.map V.ref).length = w.rows.length := by rw [List.length_map, hW.le]
    unfold MW.isEv at q
    refine ite2 (fun c => ?_) (fun c => ?_)
    · have hj : j < w.rows.length := by
        have := of_decide_eq_true c
        rw [hlen] at this; omega
      rw [decide_eq_true hj, Bool.true_and] at q
      obtain ⟨a, ha, hr⟩ := hW.rowA hj
      obtain ⟨xs, hxs, hl⟩ := hr.len
      refine ⟨_, rfl, _, _, rfl, rfl, _, rfl, ite2 (fun c1 => ?_) (fun c1 => ?_)⟩
      · have h1 : 1 ≤ n := by
          have := of_decide_eq_true c1
          omega
        rw [decide_eq_true h1, Bool.true_and] at q
        refine ⟨_, rfl, L.w, _, dw, _, _, rfl, hw, T.clW, T.nWe, wF_events L, _, rfl, L.aE, _, (j : Int), _, rfl, rfl, .of hW.aE.2, atI_nat (at_map ha), a, xs, rfl, .inl (.of hxs), _, _, rfl, rfl, ?_⟩
        have e : decide ((n : Int) ≤ (xs.length : Int)) = decide (n ≤ (w.row j).length) := by rw [hl]; exact decide_eq_decide.mpr Int.ofNat_le
        show Q (.bl (decide ((n : Int) ≤ (xs.length : Int)))) H
        rw [e]; exact q
      · have h1 : ¬ 1 ≤ n := fun z => c1 (decide_eq_true (by omega))
        rw [decide_eq_false h1, Bool.false_and] at q
        exact q
    · have hj : ¬ j < w.rows.length := fun z => c (decide_eq_true (by rw [hlen]; omega))
      rw [decide_eq_false hj, Bool.false_and] at q
      exact q
end
end VD
end
/-! ## part world3 -/
section
set_option Elab.async false
set_option linter.all false
set_option maxRecDepth 100000
set_option maxHeartbeats 4000000
namespace VD
open PySem PySem.Spec PyProof.Rows L2
def spApply (C : Cs) : Sp := fun vs H Q _ => ∃ (L : Lay) (w : MW) (k : Nat) (R : RepA) (t : Addr) (e : Ev), vs = [.ref R.r, .ref t] ∧ Wd C H L w ∧ L.reps[k]? = some R ∧ EvAt L.tag H t e ∧ e.1 < (w.rep k).vec.length ∧ (w.rep k).vec.length ≤ 1000 ∧ (w.rep k).app.length ≤ 999 ∧
  ∀ H', Keep L.tag H H' → Wd C H' L (w.setR k (applyE (w.rep k) e)) → Q .non H'
def spCreateE (C : Cs) : Sp := fun vs H Q _ => ∃ (L : Lay) (w : MW) (k v : Nat), vs = [.ref L.w, nI k, nI v] ∧ Wd C H L w ∧ WF w ∧ k < w.reps.length ∧ w.many < 60 ∧
  ∀ H', Keep L.tag H H' → Wd C H' L (createE w k v) → Q (nI ((w.row k).length + 1)) H'
theorem Wd.repR {C : Cs} {H : Hp} {L : Lay} {w : MW} (h : Wd C H L w) {k : Nat} {R : RepA} (hR : L.reps[k]? = some R) : k < w.reps.length ∧ RepAt C L.tag H R (w.rep k) := by
  have hl : k < w.reps.length := by rw [← h.lr]; exact (List.getElem?_eq_some_iff.mp hR).1
  exact ⟨hl, h.rep k R _ hR (rep_at hl)⟩
theorem Lst.append {α : Type} {P : Addr → α → Prop} {H : Hp} {a : Addr} {l : List α} (h : Lst P H a l) : ∃ xs, H a = some (.lst xs) ∧ xs.length = l.length ∧
    ∀ {P' : Addr → α → Prop} {H' : Hp} {b : Addr} {x : α}, (∀ c y, P c y → P' c y) → H' a = some (.lst (xs ++ [.ref b])) → P' b x → Lst P' H' a (l ++ [x]) := by
  obtain ⟨ps, e, h1, h2⟩ := h
  refine ⟨_, h1, by rw [e, List.length_map, List.length_map], fun {P' H' b x} hp ha hb => ⟨ps ++ [(b, x)], by rw [e, List.map_append]; rfl, by rw [List.map_append]; exact ha, fun p hm => ?_⟩⟩
  rcases List.mem_append.mp hm with m | m
  · exact hp _ _ (h2 p m)
  · rw [List.mem_singleton.mp m]; exact hb
section
variable {P : Program} {w : World} {K : PySem.W.Frag} {mg : Str → Option Value} {base : Heap} {f : Addr} {fd : FuncData} {C : Cs}
theorem scEventOf : FnScope ["world", "event"] ["world", "event"] (defScope sEventOf) := ⟨rfl, rfl, rfl, by decide +kernel, rfl, by decide +kernel, by decide +kernel⟩
theorem ok_event_of (T : Txt K C) (F : Fun K "event_of" "event_of" sEventOf f fd) : FnOk P w K mg base CX0 1 f fd ["world", "event"] (spEventOf C) := by
  refine F.ok scEventOf (fun vs H Q E h => ?_) (fun cdv A outer s H vs Q E hr h => ?_)
  · obtain ⟨L, w, t, e, rfl, _⟩ := h; rfl
  · refine ⟨_, pss_one (ps_ret (pe_ix ix_list (pe_ix ix_list (pe_fld (pv 0) rfl) (pe_ix ix_tup (pv 1) pe_int (fun _ _ => rfl)) (fun _ _ => rfl)) (pe_op op_sub (pe_ix ix_tup (pv 1) pe_int (fun _ _ => rfl)) pe_int) (fun _ _ => rfl))), ?_⟩
    obtain ⟨L, w, t, e, rfl, hW, ht, hrl, he, q⟩ := h
    obtain ⟨tw, dw, hw⟩ := hW.wd
    obtain ⟨row, i, h1, h2, h3⟩ := ev_at he hrl
    have hk : e.1 < w.rows.length := (List.getElem?_eq_some_iff.mp h1).1
    obtain ⟨a, ha, hr⟩ := hW.rowA hk
    have erow : w.row e.1 = row := by
      have := (row_at hk).symm.trans h1
      exact Option.some.inj this
    rw [erow] at hr
    obtain ⟨xs, b, hx1, hx2, hx3⟩ := hr.at_ h2
    have hlo := he.lo
    have ei : ((e.2 : Int) - 1) = ((e.2 - 1 : Nat) : Int) := by omega
    refine ⟨_, rfl, L.w, _, dw, _, _, rfl, hw, T.clW, T.nWe, wF_events L, _, rfl, t, _, 0, _, rfl, rfl, .of ht, rfl, L.aE, _, (e.1 : Int), _, rfl, rfl, .of hW.aE.2, atI_nat (at_map ha),
      _, rfl, t, _, 1, _, rfl, rfl, .of ht, rfl, _, _, rfl, rfl, a, xs, (e.2 : Int) - 1, .ref b, rfl, rfl, .of hx1, ?_, ?_⟩
    · rw [ei]; exact atI_nat hx2
    · exact q b (by rw [h3]; exact hx3)
theorem scCan : FnScope ["world", "replica", "event"] ["world", "replica", "event"] (defScope sCan) := ⟨rfl, rfl, rfl, by decide +kernel, rfl, by decide +kernel, by decide +kernel⟩
theorem ok_can_apply (T : Txt K C) (cE : Cal CX0 P w K mg base 1 "event_of" (spEventOf C)) (cI : Cal CX0 P w K mg base 1 "is_within" spWithin) (F : Fun K "can_apply" "can_apply" sCan f fd) : FnOk P w K mg base CX0 3 f fd ["world", "replica", "event"] (spCan C) := by
  refine F.ok scCan (fun vs H Q E h => ?_) (fun cdv A outer s H vs Q E hr h => ?_)
  · obtain ⟨L, w, k, R, t, e, m, rfl, _⟩ := h; rfl
  · refine ⟨_, pss_one (ps_ret (pe_and (pe_cmpR op_eq (pe_ix ix_tup (pv 2) pe_int (fun _ _ => rfl)) (pe_op op_add (pe_ix ix_list (pe_fld (pv 1) rfl) (pe_ix ix_tup (pv 2) pe_int (fun _ _ => rfl)) (fun _ _ => rfl)) pe_int) (nomark _))
      (pe_one (pc cI hr (pa_cons (pe_fld (pc cE hr (pa_cons (pv 0) (pa_cons (pv 2) pa_nil))) rfl) (pa_cons (pe_fld (pv 1) rfl) pa_nil)))))), ?_⟩
    obtain ⟨L, w, k, R, t, e, m, rfl, hW, hR, ht, hrl, he, hn, hlt, q⟩ := h
    obtain ⟨dr, v, pe, hr1, hv, hpe⟩ := hR.ins
    refine ⟨_, rfl, t, _, 1, _, rfl, rfl, .of ht, rfl, _, rfl, R.r, _, dr, _, _, rfl, hr1, T.clR, T.nRv, rF_vector _ _ _ _, _, rfl, t, _, 0, _, rfl, rfl, .of ht, rfl, v, _, (e.1 : Int), _, rfl, rfl, .of hv.2, atI_nat (at_map (getD_some hlt)),
      _, _, rfl, rfl, rfl, ?_⟩
    have q0 := q
    unfold can at q0
    refine ⟨_, rfl, ite2 (fun c => ?_) (fun c => ?_)⟩
    · have hc : e.2 = m.vec.getD e.1 0 + 1 := by
        have := of_decide_eq_true c
        injection this with z
        omega
      rw [decide_eq_true hc, Bool.true_and] at q0
      refine ⟨_, rfl, _, rfl, L, w, t, e, rfl, hW, ht, hrl, he, fun a ha => ?_⟩
      obtain ⟨ta, da, nv, ha1, hnv⟩ := ha
      refine ⟨a, _, da, _, _, rfl, ha1, T.clE, T.nEn, eF_needs _ _, _, rfl, R.r, _, dr, _, _, rfl, hr1, T.clR, T.nRv, rF_vector _ _ _ _, nv, v, _, _, rfl, hnv.2, hv.2, hn, q0⟩
    · have hc : ¬ e.2 = m.vec.getD e.1 0 + 1 := fun z => c (decide_eq_true (by
        show V.int (e.2 : Int) = V.int ((m.vec.getD e.1 0 : Nat) + 1 : Int)
        rw [z]; rfl))
      rw [decide_eq_false hc, Bool.false_and] at q0
      exact q0 _ (fun _ _ z => z)
theorem scApply : FnScope ["replica", "event"] ["replica", "event"] (defScope sApply) := ⟨rfl, rfl, rfl, by decide +kernel, rfl, by decide +kernel, by decide +kernel⟩
theorem ok_apply_event (T : Txt K C) (cV : Cal CX0 P w K mg base 1 "with_event" spWithE) (F : Fun K "apply_event" "apply_event" sApply f fd) : FnOk P w K mg base CX0 3 f fd ["replica", "event"] (spApply C) := by
  refine F.ok scApply (fun vs H Q E h => ?_) (fun cdv A outer s H vs Q E hr h => ?_)
  · obtain ⟨L, w, k, R, t, e, rfl, _⟩ := h; rfl
  · refine ⟨_, pss_cons (ps_fld (pv 0) (pc cV hr (pa_cons (pe_fld (pv 0) rfl) (pa_cons (pv 1) pa_nil))) rfl)
      (pss_one (ps_expr (pe_bm PySem.F.plainAttrs_list PySem.F.slot_list_append PySem.F.type_list_append mt_append (pe_fld (pv 0) rfl) (pa_cons (pv 1) pa_nil)))), ?_⟩
    obtain ⟨L, w, k, R, t, e, rfl, hW, hRk, ht, hlt, hv9, ha9, q⟩ := h
    obtain ⟨hk, hR⟩ := hW.repR hRk
    obtain ⟨t1, t2, t3⟩ := hW.tR k R hRk
    have hR0 := hR
    obtain ⟨⟨dr, v, pe, hr1, hv, hpe⟩, happ, hkn⟩ := hR
    have n1 : R.r ≠ R.ap := tag_ne t1 t2 (by simp)
    have n2 : R.r ≠ R.kn := tag_ne t1 t3 (by simp)
    have n3 : R.ap ≠ R.kn := tag_ne t2 t3 (by simp)
    obtain ⟨xs, hx, hxl, hxa⟩ := happ.append
    refine ⟨_, rfl, R.r, _, dr, _, _, rfl, hr1, T.clR, T.nRv, rF_vector _ _ _ _, _, rfl, v, t, e, _, rfl, hv.2, ht.2, hlt, hv9, fun p H1 hp s1 e1 => ?_⟩
    refine ⟨_, rfl, R.r, _, dr, _, rfl, s1 _ _ hr1, T.clR, T.nRv, (by show 4 < 1000; decide), ?_⟩
    refine ⟨_, rfl, R.r, _, dr, _, _, rfl, upd_same, T.clR, T.nRa, rF_applied p R.ap pe R.kn, .inl ⟨rfl, _, .of ((upd_ne n1.symm).trans (s1 _ _ hx))⟩, _, rfl, R.ap, xs, .ref t, rfl, rfl, (upd_ne n1.symm).trans (s1 _ _ hx), (by rw [hxl]; exact small1000 (by omega)), ?_⟩
    have c3 : ∀ b o, b ≠ R.r → b ≠ R.ap → H b = some o → upd (upd H1 R.r (.ins C.cR dr (putF "vector" (.ref p) (rF v R.ap pe R.kn)))) R.ap (.lst (xs ++ [.ref t])) b = some o := fun b o z1 z2 z => by
      rw [upd_ne z2, upd_ne z1]; exact s1 _ _ z
    have kp : Keep L.tag H (upd (upd H1 R.r (.ins C.cR dr (putF "vector" (.ref p) (rF v R.ap pe R.kn)))) R.ap (.lst (xs ++ [.ref t]))) := .mk2 fun b o x tb hx z => c3 b o (tag_ne tb t1 (by rcases hx with rfl | rfl <;> simp)) (tag_ne tb t2 (by rcases hx with rfl | rfl <;> simp)) z
    have tp := hW.untagged hp
    refine q _ kp (hW.setRep hRk (fun b o z1 z2 _ z => c3 b o z1 z2 z) ⟨⟨dr, p, pe, ?_, ⟨tp, ?_⟩, hpe.keep kp⟩, ?_, hkn.imp (fun _ _ z => z.keep kp) fun o z => c3 _ o n2.symm n3.symm z⟩)
    · rw [upd_ne n1, upd_same]
      exact congrArg (fun q => some (HO.ins C.cR dr q)) (rF_setV v R.ap pe R.kn p)
    · rw [upd_ne (tag_ne tp t2 (by simp)), upd_ne (tag_ne tp t1 (by simp))]
      exact e1
    · exact hxa (fun _ _ z => z.keep kp) upd_same (ht.keep kp)
theorem scCreateE : FnScope ["world", "number", "value", "replica", "row"] ["world", "number", "value"] (defScope sCreateE) := ⟨rfl, rfl, rfl, by decide +kernel, rfl, by decide +kernel, by decide +kernel⟩
theorem ok_create_event (T : Txt K C) (B : Blt mg) (cE : Mak P w K mg base 1 "Event" C.cE (spEvI C)) (cA : Cal CX0 P w K mg base 3 "apply_event" (spApply C)) (F : Fun K "create_event" "create_event" sCreateE f fd) : FnOk P w K mg base CX0 5 f fd ["world", "number", "value"] (spCreateE C) := by
  refine F.ok scCreateE (fun vs H Q E h => ?_) (fun cdv A outer s H vs Q E hr h => ?_)
  · obtain ⟨L, w, k, v, rfl, _⟩ := h; rfl
  · refine ⟨_, pss_cons (ps_set (i := 3) scCreateE.nd rfl (.inl rfl) (pe_ix ix_list (pe_fld (pv 0) rfl) (pv 1) (fun _ _ => rfl)))
      (pss_cons (ps_set (i := 4) scCreateE.nd rfl (.inl rfl) (pe_ix ix_list (pe_fld (pv 0) rfl) (pv 1) (fun _ _ => rfl)))
      (pss_cons (ps_expr (pe_bm PySem.F.plainAttrs_list PySem.F.slot_list_append PySem.F.type_list_append mt_append (pv 4) (pa_cons (pmk cE hr (pa_cons (pv 2) (pa_cons (pe_fld (pv 3) rfl) pa_nil))) pa_nil)))
      (pss_cons (ps_expr (pc cA hr (pa_cons (pv 3) (pa_cons (pe_tup (pa_cons (pv 1) (pa_cons (pe_callB call_len_seq (by rfl) B.len PySem.boot_len (pa_cons (pv 4) pa_nil)) pa_nil))) pa_nil))))
      (pss_one (ps_ret (pe_callB call_len_seq (by rfl) B.len PySem.boot_len (pa_cons (pv 4) pa_nil))))))), ?_⟩
    obtain ⟨L, w, k, v, rfl, hW, wf, hk, hm, q⟩ := h
    obtain ⟨tw, dw, hw⟩ := hW.wd
    obtain ⟨R, hRk, hR⟩ := hW.repA hk
    have hk' : k < w.rows.length := by rw [wf.rl]; exact hk
    obtain ⟨a, hak, hrow⟩ := hW.rowA hk'
    obtain ⟨⟨dr, vc, pe, hr1, hv, hpe⟩, happ, hkn⟩ := hR
    have ta := hW.tE k a hak
    obtain ⟨xs, hx, hxl, hxa⟩ := hrow.append
    have hrw := wf.rep k _ (rep_at hk)
    have hlen : (w.row k).length ≤ 60 := by rw [← hrw.own]; exact Nat.le_trans (hrw.vec.le k) (by
      have := app_few wf hrw.toLWF
      have hown := hrw.own
      have e : (w.rep k).vec.getD k 0 ≤ 60 := by
        have h1 : ((w.rep k).app.filter (fun e => e.1 == k)).length = (w.rep k).vec.getD k 0 := by rw [hrw.app k, List.length_map, List.length_range]
        have h2 := List.length_filter_le (fun e : Ev => e.1 == k) (w.rep k).app
        omega
      omega)
    refine ⟨_, rfl, L.w, _, dw, _, _, rfl, hw, T.clW, T.nWr, wF_replicas L, _, rfl, L.aR, _, (k : Int), _, rfl, rfl, .of hW.aR.2, atI_nat (at_map hRk), ?_⟩
    refine ⟨_, rfl, L.w, _, dw, _, _, rfl, hw, T.clW, T.nWe, wF_events L, _, rfl, L.aE, _, (k : Int), _, rfl, rfl, .of hW.aE.2, atI_nat (at_map hak), ?_⟩
    refine ⟨_, rfl, .inl ⟨rfl, _, .of hx⟩, _, rfl, _, rfl, R.r, _, dr, _, _, rfl, hr1, T.clR, T.nRv, rF_vector _ _ _ _, fun x dx nx nd ne => ?_⟩
    refine ⟨x, dx, vc, v, rfl, upd_same, fun H2 I => ⟨rfl, ?_⟩⟩
    have k2 : ∀ b o, H b = some o → H2 b = some o := fun b o e => I.2 b o (ne_of_none e nx) (by rw [upd_ne (ne_of_none e nx), upd_ne (ne_of_none e nd)]; exact e)
    refine ⟨a, xs, .ref x, rfl, rfl, k2 _ _ hx, (by rw [hxl]; exact small1000 (by omega)), ?_⟩
    have ax : x ≠ a := (ne_of_none hx nx).symm
    have c3 : ∀ b o, b ≠ a → H b = some o → upd H2 a (.lst (xs ++ [.ref x])) b = some o := fun b o c e => by rw [upd_ne c]; exact k2 _ _ e
    have kp : Keep L.tag H (upd H2 a (.lst (xs ++ [.ref x]))) := .mk2 fun b o y tb hx e => c3 b o (tag_ne tb ta (by rcases hx with rfl | rfl <;> simp)) e
    have hW1 : Wd C (upd H2 a (.lst (xs ++ [.ref x]))) L (w.addEv k ⟨v, (w.rep k).vec⟩) := hW.addEv hak c3
      (hxa (fun _ _ z => z.keep kp) upd_same ⟨hW.untagged nx, dx, vc, (upd_ne ax).trans I.1, hv.keep kp⟩)
    have hW1s := hW1
    obtain ⟨a', ha', hrow1⟩ := hW1.rowA (k := k) (by show k < (w.rows.set k _).length; rw [List.length_set]; exact hk')
    have ea : a' = a := Option.some.inj (ha'.symm.trans hak)
    subst ea
    have erow : ((w.addEv k ⟨v, (w.rep k).vec⟩).row k).length = (w.row k).length + 1 := by rw [row_add hk', if_pos rfl, List.length_append]; rfl
    refine ⟨_, rfl, _, rfl, _, rfl, a', _, rfl, .inl (.of upd_same), (by show 2 ≤ sizeLine; decide), fun t ht => ?_⟩
    have s4 := Same.new (o := HO.tup [nI k, .int ((xs ++ [V.ref x]).length : Nat)]) ht
    refine ⟨L, w.addEv k ⟨v, (w.rep k).vec⟩, k, R, t, (k, (w.row k).length + 1), rfl, hW1.same s4, hRk, ⟨hW1.untagged ht, ?_⟩, ?_, ?_, ?_, fun H5 k5 hW5 => ?_⟩
    · rw [upd_same, List.length_append, hxl]; rfl
    · show k < (w.rep k).vec.length
      rw [hrw.vec.len]; exact hk
    · show (w.rep k).vec.length ≤ 1000
      have := wf.n6
      rw [hrw.vec.len]; omega
    · show (w.rep k).app.length ≤ 999
      have := app_few wf hrw.toLWF
      omega
    · obtain ⟨a2, ha2, hrow2⟩ := hW5.rowA (k := k) (by show k < (w.rows.set k _).length; rw [List.length_set]; exact hk')
      have ea2 : a2 = a' := Option.some.inj (ha2.symm.trans hak)
      subst ea2
      obtain ⟨ys, hy, hyl⟩ := hrow2.len
      have er2 : (((w.addEv k ⟨v, (w.rep k).vec⟩).setR k (applyE ((w.addEv k ⟨v, (w.rep k).vec⟩).rep k) (k, (w.row k).length + 1))).row k).length = (w.row k).length + 1 := erow
      refine ⟨_, rfl, a2, ys, rfl, .inl (.of hy), ?_⟩
      rw [hyl, er2]
      exact q H5 (kp.trans ((Keep.of s4).trans k5)) hW5
end
end VD
end
/-! ## part set -/
section
set_option Elab.async false
set_option linter.all false
set_option maxRecDepth 100000
set_option maxHeartbeats 4000000
/-! set(xs), xs a list of any length of tuples of ints, of which at most 62 are unlike (the library's rule asks for fewer than 64 in all; here pending + events may have more). -/
namespace VD
open PySem PySem.Spec PyProof.Rows L2
/-- unlike keys out of D are no more than D has -/
theorem keys_few {L : List (Addr × List Int)} {D : List (List Int)} (nd : (L.map (·.2)).Nodup) (h : ∀ p ∈ L, p.2 ∈ D) : L.length ≤ D.length := by
  have := nodup_le (L.map (·.2)) D nd fun x hx => by
    obtain ⟨p, hp, e⟩ := List.mem_map.mp hx
    rw [← e]; exact h p hp
  rw [List.length_map] at this
  exact this
/-- what stood stands -/
def Ahead (h0 : Heap) (s : Shared) : Prop := ∀ b o, h0.get? b = some o → s.heap.get? b = some o
/-- the set at S has what the first i gave -/
def Fed (P : Program) (w : World) (S : Addr) (ks : List (Addr × List Int)) (i : Nat) (s : Shared) : Prop := ∃ L es ep t, SetTR P w s.heap S L es ep t ∧ Got ks i L
section
variable {P : Program} {w : World} {A : Around} {E : Value → Shared → Prop} {s : Shared} {ks : List (Addr × List Int)} {D : List (List Int)} {S : Addr} {h0 : Heap}
theorem Fed.sub {i : Nat} {L : List (Addr × List Int)} (g : Got ks i L) : ∀ p ∈ L, p ∈ ks := fun p hp => List.mem_of_mem_take (g.sub p hp)
/-- the set is fed, item by item -/
theorem feed {I : Addr} {fp wr : List Addr} {G : Array GenState → Array GenState → Prop} {n : Nat} {Pv : Nat → Value → Prop} {St : Nat → Shared → Prop} {R : Result → Shared → Prop} (W : WalksS P w A.in1 I fp wr G n Pv St) (hS : S ∉ fp) (hn : n = ks.length) (hD : D.length ≤ 62)
    (hk : ∀ p ∈ ks, p.2 ∈ D) (hv : ∀ i v, Pv i v → ∃ p, ks[i]? = some p ∧ v = .ref p.1) (ht : ∀ p ∈ ks, IsT P w h0 p.2 p.1) (hS0 : h0.get? S = none) (hw0 : ∀ b ∈ wr, h0.get? b = none) (hu : A.in1.units < cLine) :
    ∀ (d i : Nat) (s : Shared), i + d = n → St i s → Ahead h0 s → Fed P w S ks i s → (∀ s', Moved (S :: wr) G s s' → Fed P w S ks n s' → Ahead h0 s' → R (.ok (.ret .none)) s') →
      codeAny (model P w) A (.builtin "set.update.loop" ⟨[.ref S, .ref I], []⟩) R s := by
  have cons : ∀ b ∈ wr, b ∈ S :: wr := fun b hb => List.mem_cons_of_mem _ hb
  have nw : S ∉ wr := fun z => hS (W.sub _ z)
  have moved : ∀ {s s' : Shared}, Moved wr G s s' → Ahead h0 s → Ahead h0 s' := fun m a b o e => m.heap b o (fun z => by rw [hw0 b z] at e; cases e) (a b o e)
  intro d
  induction d with
  | zero =>
    intro i s e st ah ⟨L, es, ep, t, q, g⟩ fin
    rw [Nat.add_zero] at e
    rw [e] at st g
    refine codeAny_builtin F.entry_set_update_loop ?_
    rw [Around.under_plainId F.plain_set_update_loop _]
    show wpAny _ A.in1 (pyNext (.ref I) >>= _) _ _ s
    refine wpAny_bind (W.done s _ _ st fun s1 m => ?_)
    have ah1 := moved m ah
    exact wpAny_pure (fin s1 (m.mono cons) ⟨L, es, ep, t, q.keep (fun o z => m.heap S o nw z) fun p hp => isT_keep (ht p (Fed.sub g p hp)) ah1, g⟩ ah1)
  | succ d ih =>
    intro i s e st ah ⟨L, es, ep, t, q, g⟩ fin
    refine codeAny_builtin F.entry_set_update_loop ?_
    rw [Around.under_plainId F.plain_set_update_loop _]
    show wpAny _ A.in1 (pyNext (.ref I) >>= _) _ _ s
    refine wpAny_bind (W.item i s _ _ (by omega) st fun v s1 pv1 st1 m => ?_)
    obtain ⟨x, hx, ev⟩ := hv i v pv1
    subst ev
    have ah1 := moved m ah
    have mem := List.mem_of_getElem? hx
    have q1 : SetTR P w s1.heap S L es ep t := q.keep (fun o z => m.heap S o nw z) fun p hp => isT_keep (ht p (Fed.sub g p hp)) ah1
    have tx : IsT P w s1.heap x.2 x.1 := isT_keep (ht x mem) ah1
    have few : L.length ≤ D.length := keys_few q1.nd fun p hp => hk p (Fed.sub g p hp)
    show wpAny _ A.in1 (holding [Value.ref x.1] (setAdd S (.ref x.1)) >>= _) _ _ s1
    refine wpAny_bind (wpAny_holding ?_)
    unfold setAdd
    refine wpAny_holding (wpAny_bind (wpAny_pyHash_tuple hu tx ?_))
    refine add_at (s := { s1 with toks := s1.toks + (x.2.length + 1) }) q1 tx hu (by omega) fun b h2 L2 es2 ep2 t2 sb q2 same more => ?_
    have g2 : Got ks (i + 1) L2 := (Classical.em (x.2 ∈ L.map (·.2))).elim (fun c => by rw [same c]; exact g.same hx c) fun c => g.more hx (more c)
    have ah2 : ∀ b o, h0.get? b = some o → h2.get? b = some o := fun b o z => (sb.2 b fun y => by rw [y, hS0] at z; cases z).trans (ah1 b o z)
    have st2 := W.frame (i + 1) s1 h2 (s1.toks + (x.2.length + 1)) st1 (Nat.le_add_right _ _) fun b hb o z => (sb.2 b fun y => hS (y ▸ hb)).trans z
    refine wpAny_pure ⟨plainId_quiet F.plain_set_update_loop _, ih (i + 1) _ (by omega) st2 ah2 ⟨L2, es2, ep2, t2, q2, g2⟩ fun s3 m3 f3 ah3 => fin s3 ?_ f3 ah3⟩
    exact Moved.trans W.gtrans ((m.mono cons).then_heap (Nat.le_add_right _ _) fun b o hb z => (sb.2 b fun y => hb (y ▸ List.mem_cons_self)).trans z) m3
/-- the object of a new set -/
abbrev newSet (w : World) : Obj := { cls := .type "set", dict := none, data := .set #[] 0 (.fresh 0 0 (!w.params.followText "set-order")) }
/-- set(l), l a list of tuples -/
theorem call_set_many {l : Addr} {items : Array Value} {Q : Value → Shared → Prop} (hh : A.handled = none) (hl : s.heap.IsList l items) (hit : items.toList = ks.map fun p => Value.ref p.1) (ht : ∀ p ∈ ks, IsT P w s.heap p.2 p.1) (hD : D.length ≤ 62) (hk : ∀ p ∈ ks, p.2 ∈ D)
    (hu : A.units + 3 < cLine) (fin : ∀ (h' : Heap) (tk : Nat), Fed P w s.heap.objs.size ks ks.length { s with heap := h', toks := tk } → (∀ b o, s.heap.get? b = some o → h'.get? b = some o) → Q (.ref s.heap.objs.size) { s with heap := h', toks := tk }) :
    wpAny (model P w) A (call (.type "set") [.ref l]) Q E s := by
  have size : items.size = ks.length := by
    have z := congrArg List.length hit
    rwa [Array.length_toList, List.length_map] at z
  have unknown : ∀ b, s.heap.objs.size ≤ b → s.heap.get? b = none := fun b hb => by
    cases z : s.heap.get? b with
    | none => rfl
    | some o => exact absurd (Heap.lt_size z) (Nat.not_lt.mpr hb)
  obtain ⟨mc, mt, mro⟩ := F.called_set.mro
  have made := F.called_set.made
  have subs := F.called_set.sub
  refine wpAny_call (codeAny_of_tree ?_)
  show wpAny _ _ (callAny (.type "set") _) _ _ _
  refine wpAny_pure ⟨Code.quiet_builtin _ (by decide +kernel), codeAny_builtin F.entry_type_call ?_⟩
  rw [Around.under_plain (weight_type_call_type "set" [.ref l] []) rfl]
  have nt := F.called_set.notType
  have cc := F.called_set.canCreate
  have tc := F.typeCall_set_1 (.ref l)
  repeat (any_goals (first | assumption | wp_step))
  -- the new object
  refine codeAny_mono (code_set_led1 (.ref l) (E := E) (Q₁ := fun obj s1 => obj = .ref s.heap.objs.size ∧ s1 = { s with heap := s.heap.push (newSet w) }) ⟨rfl, rfl⟩) fun r s1 hr => ?_
  cases r with
  | error e => exact hr
  | ok fl =>
    cases fl with
    | ret obj =>
      obtain ⟨rfl, rfl⟩ := hr
      have atS : (s.heap.push (newSet w)).get? s.heap.objs.size = some (newSet w) := Heap.get?_push_size _ rfl
      have tyS : Shared.TypeIs { s with heap := s.heap.push (newSet w) } (.ref s.heap.objs.size) "set" := ⟨_, atS, rfl⟩
      have li := F.called_set.init.lookup
      have bi := F.called_set.init.bind (.ref s.heap.objs.size)
      repeat (any_goals (first | assumption | wp_step))
      -- its __init__
      refine codeAny_mono (codeAny_call_builtin (R := wants (fun r s2 => r = .none ∧ ∃ h' tk, s2 = { s with heap := h', toks := tk } ∧ Fed P w s.heap.objs.size ks ks.length s2 ∧ (∀ b o, s.heap.get? b = some o → h'.get? b = some o)) E)
        F.called_set.init.plain F.entry_set_init (check_set_init_1 tyS ?_)) fun r2 s2 hr2 => ?_
      · obtain ⟨ol, hol, hcl, nl, hdl⟩ := hl
        obtain ⟨ocls, odict, odata, oslots⟩ := ol
        simp only at hcl hdl
        subst hcl hdl
        have hol2 : (s.heap.push (newSet w)).get? l = some { cls := .type "list", dict := odict, data := .seq items nl, slots := oslots } := Heap.get?_push_of_some _ hol
        have isL : (s.heap.push (newSet w)).IsList l items := ⟨_, hol2, rfl, nl, rfl⟩
        have noSet := F.sub_list_set
        have noFrozen := F.sub_list_frozenset
        have noDict : (Value.type "list" == Value.type "dict") = false := by decide
        have lt := Heap.lt_size hol
        have grown : (s.heap.push (newSet w)).objs.size = s.heap.objs.size + 1 := Heap.size_push ..
        unfold Builtin.«set.__init__» noKeywords Builtin.Frozenset.updateFrom
        generalize iter : pyIter = PI
        wp_walk
        subst iter
        refine wpAny_pyIter_list isL (wpAny_bind (wpAny_runValue ?_))
        have lI : l ≠ (s.heap.push (newSet w)).objs.size := by rw [grown]; exact Nat.ne_of_lt (Nat.lt_succ_of_lt lt)
        have apart : s.heap.objs.size ∉ [(s.heap.push (newSet w)).objs.size, l] := by
          rw [grown]
          intro z
          rcases List.mem_cons.mp z with z | z
          · exact Nat.ne_of_lt (Nat.lt_succ_self _) z
          · exact Nat.ne_of_gt lt (List.mem_singleton.mp z)
        have told : ∀ (i : Nat) (v : Value), items[i]? = some v → ∃ p, ks[i]? = some p ∧ v = .ref p.1 := fun i v z => by
          have z2 : (ks.map fun p => Value.ref p.1)[i]? = some v := by rw [← hit, Array.getElem?_toList]; exact z
          exact map_at z2
        have quietA : A.in1.in1.in1.handled = none := by simp [hh]
        refine feed (h0 := s.heap) ((Walks.list quietA _ l lI items).toS) apart size hD hk told ht (unknown _ (Nat.le_refl _)) (fun b hb => unknown b ?_) hu items.size 0 _ (Nat.zero_add _)
          ⟨⟨_, Heap.get?_push_size _ rfl, rfl, rfl⟩, isL.push _⟩ (fun b o z => Heap.get?_push_of_some _ (Heap.get?_push_of_some _ z)) ⟨[], #[], 0, _, setTR_fresh (Heap.get?_push_of_some _ atS), Got.zero ks⟩ fun s3 m f ah => ?_
        · rw [List.mem_singleton.mp hb, grown]; exact Nat.le_succ _
        · obtain ⟨h3, g3, d3, t3, o3⟩ := s3
          obtain rfl : g3 = s.gens := m.gens
          obtain rfl : d3 = s.drawn := m.drawn
          obtain rfl : o3 = s.os := m.os
          rw [size] at f
          show wpAny _ _ _ _ _ _
          refine wpAny_pure ?_
          show wpAny _ _ (ret Value.none) _ _ _
          exact wpAny_pure ⟨rfl, h3, t3, rfl, f, ah⟩
      · cases r2 with
        | error e => exact hr2
        | ok fl2 =>
          cases fl2 with
          | ret r =>
            obtain ⟨rfl, h', tk, rfl, f, k⟩ := hr2
            repeat (any_goals (first | assumption | wp_step))
            exact fin h' tk f k
          | _ => exact hr2.elim
    | _ => exact hr.elim
end
/-- set(xs) as a rule: xs a list of pairs out of D -/
def rSetMany (K : PySem.W.Frag) (P : Program) (w : World) : List V → Hp → VK → Prop := fun xs H Q => ∃ (l : Addr) (ks : List (Addr × List Int)) (D : List (List Int)), xs = [V.ref l] ∧ SqL K H l (ks.map fun p => V.ref p.1) ∧ (∀ p ∈ ks, SqT K H p.1 (p.2.map V.int)) ∧ D.length ≤ 62 ∧ (∀ p ∈ ks, p.2 ∈ D) ∧
  ∀ a L, H a = none → (∀ p ∈ L, p ∈ ks) → (∀ p ∈ ks, p.2 ∈ L.map (·.2)) → Q (.ref a) (upd H a (SetTO P w a L))
theorem cr_setMany {X : Cx} (hc : X.calm = true) (hu : X.A.units + 64 < cLine) : CallR X (.type "set") (rSetMany X.K X.prog X.w) := by
  intro pins s σ H xs us Q I r h
  obtain ⟨l, ks, D, rfl, hl, ht, hD, hk, q⟩ := h
  rw [Vals.ref1 r]
  obtain ⟨its, rv, pl, _⟩ := I.list hl
  have new := I.hok.fresh (Nat.le_refl s.heap.objs.size)
  refine call_set_many (P := X.prog) (w := X.w) (ks := ks) (D := D) (I.ok.hd hc) pl.isList (by simpa using refs_of_vals rv) (fun p hp => I.isT (ht p hp)) hD hk (by omega) fun h' tk ⟨L, es, ep, t, R, g⟩ k => ?_
  refine ⟨.ref s.heap.objs.size, _, I.laid (t' := tk) k (Nat.le_refl _) (setTO_new R.t0), rfl, q _ L new (Fed.sub g) fun p hp => g.all p ?_⟩
  rw [List.take_length]; exact hp
end VD
end
/-! ## part next -/
section
set_option Elab.async false
set_option linter.all false
set_option maxRecDepth 100000
set_option maxHeartbeats 4000000
namespace VD
open PySem PySem.Spec PyProof.Rows L2
/-- [x for x in xs if test]: the list at a stands, the test's answer is f's -/
theorem lc_filter {α : Type} {K : PySem.W.Frag} {a : Addr} {ps : List (Addr × α)} (f : α → Bool) {tt : TT} {te : TE} {vs : List Nat} {σ : L2.St} {i : Nat} {H1 : Hp} {D : Addr} {Qd : Hp → Prop} (hD : H1 D = none) (ha : H1 a = some (.lst (ps.map fun p => V.ref p.1))) (hz : ps.length ≤ 1000)
    (hw : ∀ v, wipe ((wipe σ vs).set i (some v)) vs = wipe σ vs) (ht : ∀ p ∈ ps, ∀ H', Same H1 H' → ∀ R : Bool → Hp → Prop, (∀ H2, Same H' H2 → R (f p.2) H2) → tt ((wipe σ vs).set i (some (.ref p.1))) H' R)
    (he : ∀ (b : Addr) (H : Hp) (R : VK), R (.ref b) H → te ((wipe σ vs).set i (some (.ref b))) H R)
    (q : ∀ H', Same H1 H' → H' D = some (.lst ((ps.filter fun p => f p.2).map fun p => V.ref p.1)) → Qd H') : ∃ W : Nat → Nat → Hp → Prop, (∃ m, W 0 m (upd H1 D (.lst []))) ∧ ∀ j m H, W j m H →
      ((Itl K a).stop j H ∧ Qd H) ∨ ((Itl K a).go j H ∧ ∃ Nx : Hp → Prop, (∀ H', Nx H' → ∃ m', m' < m ∧ W (j + 1) m' H') ∧ ∀ x H', (Itl K a).yld j H x H' → gName i x (wipe σ vs) H' fun σ2 H2 => wipe σ2 vs = wipe σ vs ∧ tt σ2 H2 fun b H3 =>
        if b = true then te σ2 H3 fun y H4 => ∃ acc, H4 D = some (.lst acc) ∧ acc.length < sizeLine ∧ Nx (upd H4 D (.lst (acc ++ [y]))) else Nx H3) := by
  refine lc_list (K := K) (a := a) (xs := ps.map fun p => V.ref p.1) (g := gName i) (tt := tt) (te := te) (vs := vs) (σ := σ) (H1 := H1) (D := D) (Qd := Qd)
    (fun j H => Same H1 H ∧ H D = some (.lst (((ps.take j).filter fun p => f p.2).map fun p => V.ref p.1))) ⟨Same.new hD, upd_same⟩ (fun j H _ ⟨s, _⟩ => .of (s _ _ ha)) ?_ ?_
  · rintro j x H hx ⟨s, hd⟩
    obtain ⟨p, hp, rfl⟩ := map_at hx
    refine ⟨hw _, ht p (List.mem_of_getElem? hp) H s _ fun H2 s2 => ?_⟩
    have e1 : ps.take (j + 1) = ps.take j ++ [p] := by rw [List.take_succ, hp]; rfl
    cases hf : f p.2 with
    | true =>
      refine iteT (he _ _ _ ⟨_, s2 _ _ hd, ?_, fun b o e => ?_, ?_⟩)
      · rw [List.length_map]
        refine small1000 (Nat.le_trans (List.length_filter_le _ _) ?_)
        rw [List.length_take]; omega
      · rw [upd_ne (ne_of_none e hD)]; exact s2 _ _ (s _ _ e)
      · rw [upd_same, e1, List.filter_append, List.filter_cons_of_pos (by exact hf), List.filter_nil, List.map_append]; rfl
    | false =>
      refine iteF ⟨fun b o e => s2 _ _ (s _ _ e), ?_⟩
      rw [e1, List.filter_append, List.filter_cons_of_neg (by simp [hf]), List.filter_nil, List.append_nil]
      exact s2 _ _ hd
  · rintro H ⟨s, hd⟩
    refine q H s ?_
    rw [hd, List.length_map, List.take_length]
/-- what the defs of one replica ask: all but that none can be applied -/
structure Mid (w : MW) (k : Nat) : Prop where
  rl : w.rows.length = w.reps.length
  n6 : w.reps.length ≤ 6
  need : ∀ e, EvOk w e → VecOk w (w.ev e).needs
  tot : w.many ≤ 60
  hk : k < w.reps.length
  lwf : LWF w k (w.rep k)
theorem Mid.few {w : MW} {k : Nat} (h : Mid w k) {l : List Ev} (hn : l.Nodup) (hl : ∀ e ∈ l, EvOk w e) : l.length ≤ 60 := by
  have mem : ∀ e ∈ l, e ∈ allE w := fun e he => by
    have q := hl e he
    unfold allE
    refine List.mem_flatMap.mpr ⟨e.1, List.mem_range.mpr (by rw [h.rl]; exact q.r), List.mem_map.mpr ⟨e.2 - 1, List.mem_range.mpr ?_, ?_⟩⟩
    · have := q.hi; have := q.lo; omega
    · have := q.lo
      show (e.1, e.2 - 1 + 1) = e
      rw [Nat.sub_add_cancel this]
  have := nodup_le l (allE w) hn mem
  rw [allE_len] at this
  exact Nat.le_trans this h.tot
theorem Mid.app {w : MW} {k : Nat} (h : Mid w k) : (w.rep k).app.length ≤ 60 := h.few (app_nodup h.lwf) fun e he => (app_ok h.lwf he).1
theorem Mid.pend {w : MW} {k : Nat} (h : Mid w k) : (w.rep k).pend.length ≤ 60 := h.few (lex_nodup h.lwf.ps) h.lwf.pv
theorem Mid.of {w : MW} (wf : WF w) {k : Nat} (hk : k < w.reps.length) : Mid w k := ⟨wf.rl, wf.n6, wf.need, wf.tot, hk, (wf.rep k _ (rep_at hk)).toLWF⟩
theorem Mid.set {w : MW} {k : Nat} (h : Mid w k) {m : MR} (hm : LWF w k m) : Mid (w.setR k m) k := by
  have hn := setR_len w k m
  have he : (w.setR k m).rows = w.rows := rfl
  refine ⟨by rw [hn]; exact h.rl, by rw [hn]; exact h.n6, fun e q => ?_, by rw [many_c hn he]; exact h.tot, by rw [hn]; exact h.hk, ?_⟩
  · rw [ev_c hn he]; exact (h.need e (q.c' hn he)).c hn he
  · rw [rep_setR h.hk]; exact hm.c hn he
theorem setR_setR (w : MW) (k : Nat) (a b : MR) : (w.setR k a).setR k b = w.setR k b := by
  unfold MW.setR
  show ({ w with reps := (w.reps.set k a).set k b } : MW) = _
  rw [List.set_set]
abbrev sNext : Stmt := topS 18
abbrev sDrop : Stmt := topS 19
abbrev sTake : Stmt := topS 20
def spNext (C : Cs) : Sp := fun vs H Q _ => ∃ (L : Lay) (w : MW) (k : Nat) (R : RepA), vs = [.ref L.w, .ref R.r] ∧ Wd C H L w ∧ L.reps[k]? = some R ∧ Mid w k ∧ ∀ p H', H p = none → Same H H' → EvsAt L.tag H' p (nextE w (w.rep k)) → Q (.ref p) H'
def spDrop (C : Cs) : Sp := fun vs H Q _ => ∃ (L : Lay) (w : MW) (k : Nat) (R : RepA), vs = [.ref R.r] ∧ Wd C H L w ∧ L.reps[k]? = some R ∧ Mid w k ∧ ∀ H', Keep L.tag H H' → Wd C H' L (w.setR k (dropA (w.rep k))) → Q .non H'
section
variable {P : Program} {w : World} {K : PySem.W.Frag} {mg : Str → Option Value} {base : Heap} {f : Addr} {fd : FuncData} {C : Cs}
theorem scNext : FnScope ["world", "replica", "event"] ["world", "replica"] (defScope sNext) := ⟨rfl, rfl, rfl, by decide +kernel, rfl, by decide +kernel, by decide +kernel⟩
theorem ok_next_event (T : Txt K C) (cC : Cal CX0 P w K mg base 3 "can_apply" (spCan C)) (F : Fun K "next_event" "next_event" sNext f fd) : FnOk P w K mg base CX0 5 f fd ["world", "replica"] (spNext C) := by
  refine F.ok scNext (fun vs H Q E h => ?_) (fun cdv A outer s H vs Q E hr h => ?_)
  · obtain ⟨L, w, k, R, rfl, _⟩ := h; rfl
  · refine ⟨_, pss_one (ps_ret (pe_slice sl_list (pe_lc (own := [("event", 2)]) (g := gName 2) (tt := tB (tCall (spCan C) [] E0 (tCons (tVar 0) (tCons (tVar 1) (tCons (tVar 2) tNil))))) (te := tVar 2) (by rfl) scNext.nd (pi_list (pe_fld (pv 1) rfl))
        (blkOk_by (N := ["world", "replica", "event"]) (sc := defScope sNext) (by decide +kernel)) (fun _ _ _ _ _ => pg_name (i := 2) scNext.nd rfl (Or.inl rfl))
        (fun _ _ _ _ _ => by exact pts_one (pt_val (pc cC hr (pa_cons (pv 0) (pa_cons (pv 1) (pa_cons (pv 2) pa_nil))))))
        (fun _ _ _ _ _ => by exact pv 2)) po_none (po_some pe_int))), ?_⟩
    obtain ⟨L, w, k, R, rfl, hW, hRk, M, q⟩ := h
    obtain ⟨hk, hR⟩ := hW.repR hRk
    obtain ⟨dr, v, pe, hr1, hv, hpe⟩ := hR.ins
    obtain ⟨tpe, ps, eps, hps, hev⟩ := hpe
    have hpl : ps.length ≤ 60 := by
      have := M.pend
      rw [eps, List.length_map] at this
      exact this
    refine ⟨_, rfl, R.r, _, dr, _, _, rfl, hr1, T.clR, T.nRp, rF_pending _ _ _ _, pe, rfl, ⟨_, .of hps⟩, fun D hD => ?_⟩
    refine lc_filter (K := K) (can w (w.rep k).vec) hD hps (by omega) (fun _ => ?_) (fun p hp H' s' R' hR' => ?_) (fun b H' R' h => ?_) (fun H2 s2 e2 => ?_)
    · rfl
    · have he : EvOk w p.2 := M.lwf.pv p.2 (by rw [eps]; exact List.mem_map.mpr ⟨p, hp, rfl⟩)
      refine ⟨_, rfl, _, rfl, _, rfl, L, w, k, R, p.1, p.2, w.rep k, rfl, hW.same s', hR.keep (Keep.of s') (s' _) (s' _) (s' _), s' _ _ (hev p hp).2, M.rl, he, ?_, ?_, fun H3 s3 => ⟨_, rfl, hR' H3 s3⟩⟩
      · rw [(M.need _ he).len, M.lwf.vec.len]
      · rw [M.lwf.vec.len]; exact he.r
    · exact ⟨_, rfl, h⟩
    · refine ⟨1, rfl, D, _, rfl, .of e2, fun p hp => ?_⟩
      have e3 : cutV ((ps.filter fun p => can w (w.rep k).vec p.2).map fun p => V.ref p.1) none (some 1) = ((ps.filter fun p => can w (w.rep k).vec p.2).take 1).map fun p => V.ref p.1 := by
        have := cut_to ((ps.filter fun p => can w (w.rep k).vec p.2).map fun p => V.ref p.1) 1
        rw [List.map_take]; exact this
      have s3 : Same H (upd H2 p (.lst (cutV ((ps.filter fun p => can w (w.rep k).vec p.2).map fun p => V.ref p.1) none (some 1)))) := s2.trans (Same.new hp)
      refine q p _ (s2.free hp) s3 ⟨hW.untagged (s2.free hp), (ps.filter fun p => can w (w.rep k).vec p.2).take 1, ?_, ?_, fun x hx => ?_⟩
      · unfold nextE
        rw [eps, List.filter_map, List.map_take]; rfl
      · rw [upd_same, e3]
      · exact (hev x (List.mem_filter.mp (List.mem_of_mem_take hx)).1).keep (Keep.of s3)
theorem scDrop : FnScope ["replica", "event"] ["replica"] (defScope sDrop) := ⟨rfl, rfl, rfl, by decide +kernel, rfl, by decide +kernel, by decide +kernel⟩
theorem ok_drop_applied (T : Txt K C) (cI : Cal CX0 P w K mg base 1 "is_in" spIsIn) (F : Fun K "drop_applied" "drop_applied" sDrop f fd) : FnOk P w K mg base CX0 3 f fd ["replica"] (spDrop C) := by
  refine F.ok scDrop (fun vs H Q E h => ?_) (fun cdv A outer s H vs Q E hr h => ?_)
  · obtain ⟨L, w, k, R, rfl, _⟩ := h; rfl
  · refine ⟨_, pss_one (ps_fld (pv 0) (pe_lc (own := [("event", 1)]) (g := gName 1) (tt := tNot (tB (tCall spIsIn [] E0 (tCons (tVar 1) (tCons (tFld K (tVar 0) "vector") tNil))))) (te := tVar 1) (by rfl) scDrop.nd (pi_list (pe_fld (pv 0) rfl))
        (blkOk_by (N := ["replica", "event"]) (sc := defScope sDrop) (by decide +kernel)) (fun _ _ _ _ _ => pg_name (i := 1) scDrop.nd rfl (Or.inl rfl))
        (fun _ _ _ _ _ => by exact pts_one (pt_not (pt_val (pc cI hr (pa_cons (pv 1) (pa_cons (pe_fld (pv 0) rfl) pa_nil))))))
        (fun _ _ _ _ _ => by exact pv 1)) rfl), ?_⟩
    obtain ⟨L, w, k, R, rfl, hW, hRk, M, q⟩ := h
    obtain ⟨hk, hR⟩ := hW.repR hRk
    obtain ⟨t1, t2, t3⟩ := hW.tR k R hRk
    have n1 : R.r ≠ R.ap := tag_ne t1 t2 (by simp)
    have n2 : R.r ≠ R.kn := tag_ne t1 t3 (by simp)
    obtain ⟨dr, v, pe, hr1, hv, hpe⟩ := hR.ins
    obtain ⟨tpe, ps, eps, hps, hev⟩ := hpe
    have hpl : ps.length ≤ 60 := by
      have := M.pend
      rw [eps, List.length_map] at this
      exact this
    refine ⟨_, rfl, R.r, _, dr, _, _, rfl, hr1, T.clR, T.nRp, rF_pending _ _ _ _, pe, rfl, ⟨_, .of hps⟩, fun D hD => ?_⟩
    refine lc_filter (K := K) (fun e => !isIn e (w.rep k).vec) hD hps (by omega) (fun _ => ?_) (fun p hp H' s' R' hR' => ?_) (fun b H' R' h => ?_) (fun H2 s2 e2 => ?_)
    · rfl
    · have he : EvOk w p.2 := M.lwf.pv p.2 (by rw [eps]; exact List.mem_map.mpr ⟨p, hp, rfl⟩)
      exact ⟨_, rfl, _, rfl, R.r, _, dr, _, _, rfl, s' _ _ hr1, T.clR, T.nRv, rF_vector _ _ _ _, p.1, v, p.2, _, rfl, s' _ _ (hev p hp).2, s' _ _ hv.2, by rw [M.lwf.vec.len]; exact he.r, _, rfl, hR' _ fun _ _ z => z⟩
    · exact ⟨_, rfl, h⟩
    · refine ⟨_, rfl, R.r, _, dr, _, rfl, s2 _ _ hr1, T.clR, T.nRp, (by show 4 < 1000; decide), ?_⟩
      have c1 : ∀ b o, b ≠ R.r → H b = some o → upd H2 R.r (.ins C.cR dr (putF "pending" (.ref D) (rF v R.ap pe R.kn))) b = some o := fun b o z1 z => by rw [upd_ne z1]; exact s2 _ _ z
      have kp : Keep L.tag H (upd H2 R.r (.ins C.cR dr (putF "pending" (.ref D) (rF v R.ap pe R.kn)))) := .mk2 fun b o x tb hx z => c1 b o (tag_ne tb t1 (by rcases hx with rfl | rfl <;> simp)) z
      have tD := hW.untagged hD
      refine q _ kp (hW.setRep hRk (fun b o z1 _ _ z => c1 b o z1 z) ⟨⟨dr, v, D, ?_, hv.keep kp, tD, ps.filter (fun p => !isIn p.2 (w.rep k).vec), ?_, ?_, fun x hx => (hev x (List.mem_filter.mp hx).1).keep kp⟩, hR.app.imp (fun _ _ z => z.keep kp) fun o z => c1 _ o n1.symm z, hR.kn.imp (fun _ _ z => z.keep kp) fun o z => c1 _ o n2.symm z⟩)
      · rw [upd_same]
        exact congrArg (fun q => some (HO.ins C.cR dr q)) (rF_setP v R.ap pe R.kn D)
      · unfold dropA
        show (w.rep k).pend.filter _ = _
        rw [eps, List.filter_map]; rfl
      · rw [upd_ne (tag_ne tD t1 (by simp))]; exact e2
end
end VD
end
/-! ## part take -/
section
set_option Elab.async false
set_option linter.all false
set_option maxRecDepth 100000
set_option maxHeartbeats 4000000
namespace VD
open PySem PySem.Spec PyProof.Rows L2
theorem le_sum : ∀ {l : List Nat} {x : Nat}, x ∈ l → x ≤ l.sum
  | a :: l, x, h => by
    rw [List.sum_cons]
    rcases List.mem_cons.mp h with e | e
    · omega
    · have := le_sum e; omega
theorem Mid.mem {w : MW} {k : Nat} (h : Mid w k) {e : Ev} (q : EvOk w e) : e ∈ allE w := by
  unfold allE
  refine List.mem_flatMap.mpr ⟨e.1, List.mem_range.mpr (by rw [h.rl]; exact q.r), List.mem_map.mpr ⟨e.2 - 1, List.mem_range.mpr ?_, ?_⟩⟩
  · have := q.hi; have := q.lo; omega
  · have := q.lo
    show (e.1, e.2 - 1 + 1) = e
    rw [Nat.sub_add_cancel this]
/-- an event's key -/
def key (e : Ev) : List Int := [(e.1 : Int), (e.2 : Int)]
def unkey (x : List Int) : Ev := ((x.getD 0 0).toNat, (x.getD 1 0).toNat)
theorem unkey_key (e : Ev) : unkey (key e) = e := by
  unfold unkey key
  exact Prod.ext (Int.toNat_natCast _) (Int.toNat_natCast _)
theorem key_inj {a b : Ev} (h : key a = key b) : a = b := by rw [← unkey_key a, h, unkey_key]
theorem key_V (e : Ev) : (key e).map V.int = [nI e.1, nI e.2] := rfl
/-- what sorted(set(..)) hands over is the mirror's sorted list -/
theorem sorted_is {ks : List (Addr × Ev)} {L L' : List (Addr × List Int)} (hs : ∀ p ∈ L, p ∈ ks.map fun q => (q.1, key q.2)) (ha : ∀ q ∈ ks, key q.2 ∈ L.map (·.2)) (hb : ∀ q ∈ ks, q.2.1 < 64 ∧ q.2.2 < 64) (pm : L'.Perm L) (nd : (L'.map (·.2)).Nodup)
    (pw : L'.Pairwise fun q r => TS.code 64 q.2 ≤ TS.code 64 r.2) : (L'.map fun q => unkey q.2) = sortE (ks.map (·.2)) ∧ ∀ q ∈ L', ∃ e, q.2 = key e ∧ (q.1, e) ∈ ks := by
  have back : ∀ q ∈ L', ∃ e, q.2 = key e ∧ (q.1, e) ∈ ks := fun q hq => by
    obtain ⟨r, hr, e⟩ := List.mem_map.mp (hs q (pm.mem_iff.mp hq))
    refine ⟨r.2, ?_, ?_⟩
    · rw [← e]
    · rw [← e]; exact hr
  refine ⟨sorted_same _ _ ?_ (sortE_sorted _) fun e => ?_, back⟩
  · rw [List.pairwise_map]
    have nd2 : L'.Pairwise fun q r => q.2 ≠ r.2 := List.pairwise_map.mp nd
    refine List.Pairwise.imp_of_mem (fun {q r} hq hr h => ?_) (pw.and nd2)
    obtain ⟨a, ea, ma⟩ := back q hq
    obtain ⟨b, eb, mb⟩ := back r hr
    rw [ea, eb, unkey_key, unkey_key]
    rw [ea, eb] at h
    have b1 : a.1 < 64 ∧ a.2 < 64 := hb _ ma
    have b2 : b.1 < 64 ∧ b.2 < 64 := hb _ mb
    rcases pair_lt h.1 h.2 ⟨by omega, by have := b1.1; omega⟩ ⟨by omega, by have := b1.2; omega⟩ ⟨by omega, by have := b2.1; omega⟩ ⟨by omega, by have := b2.2; omega⟩ with c | ⟨c1, c2⟩
    · exact .inl (by omega)
    · exact .inr ⟨by omega, by omega⟩
  · rw [sortE_mem]
    constructor
    · intro h
      obtain ⟨q, hq, eq⟩ := List.mem_map.mp h
      obtain ⟨a, ea, ma⟩ := back q hq
      rw [ea, unkey_key] at eq
      rw [← eq]
      exact List.mem_map.mpr ⟨_, ma, rfl⟩
    · intro h
      obtain ⟨q, hq, eq⟩ := List.mem_map.mp h
      obtain ⟨r, hr, er⟩ := List.mem_map.mp (ha q hq)
      refine List.mem_map.mpr ⟨r, pm.mem_iff.mpr hr, ?_⟩
      rw [er, unkey_key, eq]
/-- one turn of the loop, by the mirror -/
theorem loop_turn {w : MW} {k : Nat} (hk : k < w.reps.length) {m : MR} (hm : LWF w k m) {e : Ev} (hn : nextE w m = [e]) : EvOk w e ∧ e.2 = m.vec.getD e.1 0 + 1 ∧ LWF w k (applyE (dropA m) e) ∧
    ((applyE (dropA m) e).pend.filter fun x => !isIn x (applyE (dropA m) e).vec).length < (m.pend.filter fun x => !isIn x m.vec).length ∧ ∀ g, loopE w (g + 1) m = loopE w g (applyE (dropA m) e) := by
  have h0 := next_find (w := w) (r := m)
  rw [hn] at h0
  cases hd : (m.pend.filter fun e => !isIn e m.vec).find? (can w m.vec) with
  | none => rw [hd] at h0; cases h0
  | some e2 =>
    rw [hd] at h0
    have ee : e = e2 := by
      have : [e] = [e2] := h0
      simpa using this
    subst ee
    have hem : e ∈ (m.pend.filter fun e => !isIn e m.vec) := List.mem_of_find?_eq_some hd
    have hec : can w m.vec e = true := List.find?_some hd
    have hev := hm.pv e (List.mem_filter.mp hem).1
    have hc2 : e.2 = m.vec.getD e.1 0 + 1 := by
      unfold can at hec
      rw [Bool.and_eq_true, decide_eq_true_eq] at hec
      exact hec.1
    have hin : isIn e (applyE (dropA m) e).vec = true := by
      have hlt : e.1 < m.vec.length := by rw [hm.vec.len]; exact hev.r
      have z : (applyE (dropA m) e).vec.getD e.1 0 = if e.1 = e.1 then e.2 else m.vec.getD e.1 0 := withE_get m.vec e hlt e.1
      unfold isIn
      rw [z, if_pos rfl]
      exact decide_eq_true (Nat.le_refl _)
    refine ⟨hev, hc2, apply_wf (drop_wf hm) hk hev hc2, ?_, fun g => ?_⟩
    · show ((m.pend.filter fun e => !isIn e m.vec).filter fun x => !isIn x (applyE (dropA m) e).vec).length < _
      exact List.length_filter_lt_length_iff_exists.mpr ⟨e, hem, by rw [hin]; simp⟩
    · show (match nextE w m with
        | [] => m
        | e :: _ => loopE w g (applyE (dropA m) e)) = _
      rw [hn]
theorem next_cases (w : MW) (m : MR) : nextE w m = [] ∨ ∃ e, nextE w m = [e] := by
  rw [next_find]
  cases (m.pend.filter fun e => !isIn e m.vec).find? (can w m.vec) with
  | none => exact .inl rfl
  | some e => exact .inr ⟨e, rfl⟩
theorem next_c {w : MW} {k : Nat} (hk : k < w.reps.length) (m : MR) : nextE (w.setR k m) ((w.setR k m).rep k) = nextE w m := by
  rw [rep_setR hk]
  have hn := setR_len w k m
  have he : (w.setR k m).rows = w.rows := rfl
  unfold nextE
  have : can (w.setR k m) m.vec = can w m.vec := by funext e; exact can_c hn he m.vec e
  rw [this]
def spTake (C : Cs) : Sp := fun vs H Q _ => ∃ (L : Lay) (w : MW) (k : Nat) (R : RepA) (es : Addr) (l : List Ev), vs = [.ref L.w, .ref R.r, .ref es] ∧ Wd C H L w ∧ L.reps[k]? = some R ∧ Mid w k ∧ EvsAt L.tag H es l ∧ (∀ e ∈ l, EvOk w e) ∧ l.length ≤ 60 ∧
  ∀ H', Keep L.tag H H' → Wd C H' L (w.setR k (takeE w (w.rep k) l)) → Q .non H'
section
variable {P : Program} {wo : World} {K : PySem.W.Frag} {mg : Str → Option Value} {base : Heap} {f : Addr} {fd : FuncData} {C : Cs}
theorem scTake : FnScope ["world", "replica", "events", "some"] ["world", "replica", "events"] (defScope sTake) := ⟨rfl, rfl, rfl, by decide +kernel, rfl, by decide +kernel, by decide +kernel⟩
theorem ok_take_events (T : Txt K C) (B : Blt mg) (cN : Cal CX0 P wo K mg base 5 "next_event" (spNext C)) (cD : Cal CX0 P wo K mg base 3 "drop_applied" (spDrop C)) (cA : Cal CX0 P wo K mg base 3 "apply_event" (spApply C)) (F : Fun K "take_events" "take_events" sTake f fd) :
    FnOk P wo K mg base CX0 8 f fd ["world", "replica", "events"] (spTake C) := by
  refine F.ok scTake (fun vs H Q E h => ?_) (fun cdv A outer s H vs Q E hr h => ?_)
  · obtain ⟨L, w, k, R, es, l, rfl, _⟩ := h; rfl
  · have hu := hr.units
    refine ⟨_, pss_cons (ps_fld (pv 1) (pe_callB (cr_sortedT rfl) (by rfl) B.sorted (by decide +kernel) (pa_cons (pe_callTy (cr_setMany rfl hu) (by rfl) B.set (by decide +kernel) (pa_cons (pe_op op_cat (pe_fld (pv 1) rfl) (pv 2)) pa_nil)) pa_nil)) rfl)
      (pss_cons (ps_set (i := 3) scTake.nd rfl (.inl rfl) (pc cN hr (pa_cons (pv 0) (pa_cons (pv 1) pa_nil))))
      (pss_cons (ps_while PassesOwn.never (pt_cmpR (op_neD hu) (pv 3) (pe_lst pa_nil) (nomark _))
        (pss_cons (ps_expr (pc cD hr (pa_cons (pv 1) pa_nil)))
        (pss_cons (ps_expr (pc cA hr (pa_cons (pv 1) (pa_cons (pe_ix ix_list (pv 3) pe_int (fun _ _ => rfl)) pa_nil))))
        (pss_one (ps_set (i := 3) scTake.nd rfl (.inl rfl) (pc cN hr (pa_cons (pv 0) (pa_cons (pv 1) pa_nil))))))))
      (pss_one (ps_expr (pc cD hr (pa_cons (pv 1) pa_nil)))))), ?_⟩
    obtain ⟨L, w, k, R, es, l, rfl, hW, hRk, M, hes, hlok, hl60, q⟩ := h
    obtain ⟨hk, hR⟩ := hW.repR hRk
    obtain ⟨t1, t2, t3⟩ := hW.tR k R hRk
    have n1 : R.r ≠ R.ap := tag_ne t1 t2 (by simp)
    have n2 : R.r ≠ R.kn := tag_ne t1 t3 (by simp)
    obtain ⟨dr, v, pe, hr1, hv, hpe⟩ := hR.ins
    obtain ⟨tpe, ps, eps, hps, hev⟩ := hpe
    obtain ⟨tes, qs, eqs, hqs, heq⟩ := hes
    have hpl : ps.length ≤ 60 := by
      have := M.pend
      rw [eps, List.length_map] at this
      exact this
    have hql : qs.length ≤ 60 := by rw [eqs, List.length_map] at hl60; exact hl60
    have allok : ∀ p ∈ ps ++ qs, EvOk w p.2 := fun p hp => by
      rcases List.mem_append.mp hp with m | m
      · exact M.lwf.pv p.2 (by rw [eps]; exact List.mem_map.mpr ⟨p, m, rfl⟩)
      · exact hlok p.2 (by rw [eqs]; exact List.mem_map.mpr ⟨p, m, rfl⟩)
    have allat : ∀ p ∈ ps ++ qs, EvAt L.tag H p.1 p.2 := fun p hp => by
      rcases List.mem_append.mp hp with m | m
      · exact hev p m
      · exact heq p m
    have small : ∀ e, EvOk w e → e.1 < 64 ∧ e.2 < 64 := fun e he => by
      have h1 := he.r
      have h2 := M.n6
      have h3 := he.hi
      have h4 : (w.row e.1).length ≤ w.many := by
        unfold MW.many
        have h5 : e.1 < w.rows.length := by rw [M.rl]; exact h1
        have h6 := row_at h5
        have h7 : (w.row e.1).length ∈ w.rows.map List.length := List.mem_map.mpr ⟨_, List.mem_of_getElem? h6, rfl⟩
        exact le_sum h7
      have h5 := M.tot
      omega
    -- pending + events
    refine ⟨_, rfl, R.r, _, dr, _, _, rfl, hr1, T.clR, T.nRp, rF_pending _ _ _ _, _, rfl, _, _, _, _, rfl, rfl, hps, hqs, (by rw [List.length_map, List.length_map]; exact sz_small (by omega)), fun c hc => ?_⟩
    have s1 : Same H (upd H c (.lst (ps.map (fun p => V.ref p.1) ++ qs.map fun p => V.ref p.1))) := Same.new hc
    -- set(..)
    refine ⟨c, (ps ++ qs).map (fun p => (p.1, key p.2)), (allE w).map key, rfl, .of ?_, fun p hp => ?_, by rw [List.length_map, allE_len]; have := M.tot; omega, fun p hp => ?_, fun b L0 hb hs ha => ?_⟩
    · rw [upd_same, List.map_map, List.map_append]; rfl
    · obtain ⟨x, hx, e⟩ := List.mem_map.mp hp
      rw [← e]
      exact .of (s1 _ _ (allat x hx).2)
    · obtain ⟨x, hx, e⟩ := List.mem_map.mp hp
      rw [← e]
      exact List.mem_map.mpr ⟨_, M.mem (allok x hx), rfl⟩
    generalize hSO : SetTO _ _ b L0 = so
    have s2 := s1.trans (Same.new (o := so) hb)
    have inks : ∀ p ∈ L0, ∃ x ∈ ps ++ qs, p = (x.1, key x.2) := fun p hp => by
      obtain ⟨x, hx, e⟩ := List.mem_map.mp (hs p hp)
      exact ⟨x, hx, e.symm⟩
    -- sorted(..)
    refine ⟨b, L0, 2, 64, rfl, (by rw [upd_same, ← hSO]), fun p hp => ?_, by decide, fun p hp => ?_, fun L1 d pm nd _ pw hd => ?_⟩
    · obtain ⟨x, hx, e⟩ := inks p hp
      rw [e]
      exact .of (s2 _ _ (allat x hx).2)
    · obtain ⟨x, hx, e⟩ := inks p hp
      have hb := small _ (allok x hx)
      rw [e]
      refine ⟨rfl, fun m hm => ?_⟩
      have hm2 : m = (x.2.1 : Int) ∨ m = (x.2.2 : Int) := by
        have : m ∈ [(x.2.1 : Int), (x.2.2 : Int)] := hm
        simpa using this
      rcases hm2 with z | z <;> rw [z] <;> omega
    have s3 := s2.trans (Same.new (o := HO.lst (L1.map fun q => V.ref q.1)) hd)
    obtain ⟨hsrt, hback⟩ := sorted_is (ks := ps ++ qs) hs (fun x hx => ha (x.1, key x.2) (List.mem_map.mpr ⟨x, hx, rfl⟩)) (fun x hx => small _ (allok x hx)) pm nd pw
    -- replica.pending = ..
    refine ⟨_, rfl, R.r, _, dr, _, rfl, s3 _ _ hr1, T.clR, T.nRp, (by show 4 < 1000; decide), ?_⟩
    generalize hH3 : upd (upd (upd H c (.lst (ps.map (fun p => V.ref p.1) ++ qs.map fun p => V.ref p.1))) b so) d (.lst (L1.map fun q => V.ref q.1)) = H3 at s3
    have d3 : H3 d = some (.lst (L1.map fun q => V.ref q.1)) := by rw [← hH3]; exact upd_same
    have hd0 : H d = none := s2.free hd
    generalize hH4 : upd H3 R.r (.ins C.cR dr (putF "pending" (.ref d) (rF v R.ap pe R.kn))) = H4
    have c4 : ∀ x o, x ≠ R.r → H x = some o → H4 x = some o := fun x o z1 z => by rw [← hH4, upd_ne z1]; exact s3 _ _ z
    have kp4 : Keep L.tag H H4 := .mk2 fun x o y tb hx z => c4 x o (tag_ne tb t1 (by rcases hx with rfl | rfl <;> simp)) z
    have tD := hW.untagged hd0
    have epend : (arriveE (w.rep k) l).pend = L1.map fun q => unkey q.2 := by
      rw [hsrt, List.map_append, ← eps, ← eqs]; rfl
    have hW4 : Wd C H4 L (w.setR k (arriveE (w.rep k) l)) := hW.setRep hRk (fun x o z1 _ _ z => c4 x o z1 z) ⟨⟨dr, v, d, by rw [← hH4, upd_same]; exact congrArg (fun q => some (HO.ins C.cR dr q)) (rF_setP v R.ap pe R.kn d), hv.keep kp4, tD,
        L1.map (fun q => (q.1, unkey q.2)), by rw [epend, List.map_map]; rfl, by rw [← hH4, upd_ne (tag_ne tD t1 (by simp)), d3, List.map_map]; rfl, fun p hp => by
          obtain ⟨x, hx, e⟩ := List.mem_map.mp hp
          obtain ⟨e2, ex, mx⟩ := hback x hx
          rw [← e]
          show EvAt L.tag H4 x.1 (unkey x.2)
          rw [ex, unkey_key]
          exact (allat _ mx).keep kp4⟩, hR.app.imp (fun _ _ z => z.keep kp4) fun o z => c4 _ o n1.symm z, hR.kn.imp (fun _ _ z => z.keep kp4) fun o z => c4 _ o n2.symm z⟩
    have m0 : LWF w k (arriveE (w.rep k) l) := arrive_wf M.lwf hlok
    have M4 := M.set m0
    -- some = next_event(..)
    refine ⟨_, rfl, _, rfl, L, w.setR k (arriveE (w.rep k) l), k, R, rfl, hW4, hRk, M4, fun sm H5 hsm s5 hs5 => ?_⟩
    rw [next_c hk] at hs5
    -- the loop
    refine ⟨fun g σ H' => ∃ (m : MR) (sm : Addr), σ = [some (.ref L.w), some (.ref R.r), some (.ref es), some (.ref sm)] ∧ Keep L.tag H H' ∧ Wd C H' L (w.setR k m) ∧ LWF w k m ∧ EvsAt L.tag H' sm (nextE w m) ∧
        (m.pend.filter fun e => !isIn e m.vec).length < g ∧ dropA (loopE w g m) = takeE w (w.rep k) l,
      ⟨(arriveE (w.rep k) l).pend.length + 1, arriveE (w.rep k) l, sm, rfl, kp4.trans (Keep.of s5), hW4.same s5, m0, hs5, Nat.lt_succ_of_le (List.length_filter_le _ _), rfl⟩, ?_⟩
    rintro g σ H6 ⟨m, sm, rfl, k6, hW6, hm, hsm6, hg, hfin⟩
    have M6 := M.set hm
    obtain ⟨tsm, xs, exs, hxs, hxe⟩ := hsm6
    refine ⟨_, rfl, Nat.zero_le _, fun z hz => ?_⟩
    have s6 := Same.new (o := HO.lst []) hz
    have hW6' := hW6.same s6
    rcases next_cases w m with hn | ⟨e, hn⟩
    · -- nothing more
      rw [hn] at exs
      have ex0 : xs = [] := by
        cases xs with
        | nil => rfl
        | cons a b => cases exs
      rw [ex0] at hxs
      refine ⟨.list [], .list [], .lst (.of (s6 _ _ hxs)) .nil, .lst (.of upd_same) .nil, rfl, rfl, _, rfl, iteF ?_⟩
      refine ⟨_, rfl, L, w.setR k m, k, R, rfl, hW6', hRk, M6, fun H7 k7 hW7 => ?_⟩
      refine q H7 (k6.trans ((Keep.of s6).trans k7)) ?_
      rw [rep_setR hk, setR_setR] at hW7
      have hl : loopE w g m = m := by
        cases g with
        | zero => exact absurd hg (Nat.not_lt_zero _)
        | succ g =>
          show (match nextE w m with
            | [] => m
            | e :: _ => loopE w g (applyE (dropA m) e)) = m
          rw [hn]
      rw [← hfin, hl]
      exact hW7
    · -- one is applied
      obtain ⟨hev, hc2, hm', hless, hstep⟩ := loop_turn hk hm hn
      rw [hn] at exs
      obtain ⟨x, ex1⟩ : ∃ x, xs = [x] := by
        cases xs with
        | nil => cases exs
        | cons a b =>
          cases b with
          | nil => exact ⟨a, rfl⟩
          | cons c d => cases exs
      subst ex1
      have ex2 : x.2 = e := by
        have : [e] = [x.2] := exs
        simpa using this.symm
      have xe := hxe x List.mem_cons_self
      rw [ex2] at xe
      refine ⟨.list [.tuple [.int (e.1 : Int), .int (e.2 : Int)]], .list [], .lst (.of (s6 _ _ hxs)) (.cons (.tup (.of (s6 _ _ xe.2)) (.cons (.int _) (.cons (.int _) .nil))) .nil), .lst (.of upd_same) .nil, rfl, rfl, _, rfl, iteT ?_⟩
      refine ⟨fun σ' H' => ∃ g', g' < g ∧ ∃ (m : MR) (sm : Addr), σ' = [some (.ref L.w), some (.ref R.r), some (.ref es), some (.ref sm)] ∧ Keep L.tag H H' ∧ Wd C H' L (w.setR k m) ∧ LWF w k m ∧ EvsAt L.tag H' sm (nextE w m) ∧
        (m.pend.filter fun e => !isIn e m.vec).length < g' ∧ dropA (loopE w g' m) = takeE w (w.rep k) l, fun σ' H' h => h, ?_⟩
      refine ⟨_, rfl, L, w.setR k m, k, R, rfl, hW6', hRk, M6, fun H7 k7 hW7 => ?_⟩
      rw [rep_setR hk, setR_setR] at hW7
      have kz : Keep L.tag H6 H7 := (Keep.of s6).trans k7
      have xe7 := xe.keep kz
      refine ⟨_, rfl, _, rfl, sm, _, 0, _, rfl, rfl, .of (kz _ _ tsm hxs), rfl, L, w.setR k (dropA m), k, R, x.1, e, rfl, hW7, hRk, xe7, ?_, ?_, ?_, fun H8 k8 hW8 => ?_⟩
      · rw [rep_setR hk]
        show e.1 < m.vec.length
        rw [hm.vec.len]; exact hev.r
      · rw [rep_setR hk]
        show m.vec.length ≤ 1000
        have := M.n6
        rw [hm.vec.len]; omega
      · rw [rep_setR hk]
        show m.app.length ≤ 999
        have := M6.app
        rw [rep_setR hk] at this
        omega
      rw [rep_setR hk, setR_setR] at hW8
      refine ⟨_, rfl, _, rfl, L, w.setR k (applyE (dropA m) e), k, R, rfl, hW8, hRk, M.set hm', fun s9 H9 hs9 sm9 hn9 => ?_⟩
      rw [next_c hk] at hn9
      cases g with
      | zero => exact absurd hg (Nat.not_lt_zero _)
      | succ g =>
        exact ⟨g, Nat.lt_succ_self g, applyE (dropA m) e, s9, rfl, k6.trans (kz.trans (k8.trans (Keep.of sm9))), hW8.same sm9, hm', hn9, by omega, by rw [← hstep g]; exact hfin⟩
end
end VD
end
/-! ## part world4 -/
section
set_option Elab.async false
set_option linter.all false
set_option maxRecDepth 100000
set_option maxHeartbeats 4000000
namespace VD
open PySem PySem.Spec PyProof.Rows L2
abbrev sKnown : Stmt := topS 21
abbrev sLack : Stmt := topS 22
abbrev sPut : Stmt := topS 23
abbrev sDeliver : Stmt := topS 24
abbrev sStable : Stmt := topS 25
def spKnown (C : Cs) : Sp := fun vs H Q _ => ∃ (L : Lay) (w : MW) (k j : Nat), vs = [.ref L.w, nI k, nI j] ∧ Wd C H L w ∧ WF w ∧ k < w.reps.length ∧ j < w.reps.length ∧ ∀ a, VecAt L.tag H a (knownV w k j) → Q (.ref a) H
def spLack (C : Cs) : Sp := fun vs H Q _ => ∃ (L : Lay) (w : MW) (k j : Nat), vs = [.ref L.w, nI k, nI j] ∧ Wd C H L w ∧ WF w ∧ k < w.reps.length ∧ j < w.reps.length ∧ ∀ p H', H p = none → Same H H' → EvsAt L.tag H' p (lackE w k j) → Q (.ref p) H'
def spPut (C : Cs) : Sp := fun vs H Q _ => ∃ (L : Lay) (w : MW) (k j : Nat) (es : Addr) (l : List Ev), vs = [.ref L.w, nI k, nI j, .ref es] ∧ Wd C H L w ∧ EvsAt L.tag H es l ∧ k < w.reps.length ∧ w.msgs.length ≤ 200 ∧
  ∀ H', Keep L.tag H H' → Wd C H' L (putM w k j l) → Q (nI w.msgs.length) H'
def spDeliver (C : Cs) : Sp := fun vs H Q _ => ∃ (L : Lay) (w : MW) (ma : Addr) (m : MG), vs = [.ref L.w, .ref ma] ∧ Wd C H L w ∧ WF w ∧ MsgAt C L.tag H ma m ∧ MWF w m ∧
  ∀ H', Keep L.tag H H' → Wd C H' L (deliverM w m) → Q (.int ((((deliverM w m).rep m.to).app.length : Int) - ((w.rep m.to).app.length : Int))) H'
def spStable (C : Cs) : Sp := fun vs H Q _ => ∃ (L : Lay) (w : MW) (k : Nat), vs = [.ref L.w, nI k] ∧ Wd C H L w ∧ WF w ∧ k < w.reps.length ∧ ∀ a H', Same H H' → VecAt L.tag H' a (stableV w k) → Q (.ref a) H'
theorem known_len {w : MW} (wf : WF w) {k j : Nat} (hk : k < w.reps.length) (hj : j < w.reps.length) : (knownV w k j).length = w.reps.length := (sure_law wf hk hj).2
theorem known_some {w : MW} (wf : WF w) {k j : Nat} (hk : k < w.reps.length) (hj : j < w.reps.length) : (w.rep k).known[j]? = some ((w.rep k).known.getD j []) := by
  have hr := wf.rep k _ (rep_at hk)
  rw [List.getD_eq_getElem?_getD, List.getElem?_eq_getElem (by rw [hr.kl]; exact hj)]; rfl
section
variable {P : Program} {wo : World} {K : PySem.W.Frag} {mg : Str → Option Value} {base : Heap} {f : Addr} {fd : FuncData} {C : Cs}
theorem scKnown : FnScope ["world", "number", "other", "replica"] ["world", "number", "other"] (defScope sKnown) := ⟨rfl, rfl, rfl, by decide +kernel, rfl, by decide +kernel, by decide +kernel⟩
theorem ok_known_vector (T : Txt K C) (F : Fun K "known_vector" "known_vector" sKnown f fd) : FnOk P wo K mg base CX0 1 f fd ["world", "number", "other"] (spKnown C) := by
  refine F.ok scKnown (fun vs H Q E h => ?_) (fun cdv A outer s H vs Q E hr h => ?_)
  · obtain ⟨L, w, k, j, rfl, _⟩ := h; rfl
  · refine ⟨_, pss_cons (ps_set (i := 3) scKnown.nd rfl (.inl rfl) (pe_ix ix_list (pe_fld (pv 0) rfl) (pv 1) (fun _ _ => rfl)))
      (pss_one (ps_ret (pe_ifExp (pt_cmpR op_eq (pv 1) (pv 2) (nomark _)) (pe_fld (pv 3) rfl) (pe_ix ix_list (pe_fld (pv 3) rfl) (pv 2) (fun _ _ => rfl))))), ?_⟩
    obtain ⟨L, w, k, j, rfl, hW, wf, hk, hj, q⟩ := h
    obtain ⟨tw, dw, hw⟩ := hW.wd
    obtain ⟨R, hRk, hR⟩ := hW.repA hk
    obtain ⟨dr, v, pe, hr1, hv, hpe⟩ := hR.ins
    refine ⟨_, rfl, L.w, _, dw, _, _, rfl, hw, T.clW, T.nWr, wF_replicas L, _, rfl, L.aR, _, (k : Int), _, rfl, rfl, .of hW.aR.2, atI_nat (at_map hRk), ?_⟩
    refine ⟨_, rfl, _, rfl, rfl, _, rfl, ite2 (fun c => ?_) (fun c => ?_)⟩
    · have hkj : k = j := by
        have := of_decide_eq_true c
        injection this with z
        omega
      refine ⟨_, rfl, R.r, _, dr, _, _, rfl, hr1, T.clR, T.nRv, rF_vector _ _ _ _, q v ?_⟩
      unfold knownV
      rw [if_pos hkj]; exact hv
    · have hkj : ¬ k = j := fun z => c (decide_eq_true (by rw [z]))
      obtain ⟨xs, b, hx1, hx2, hx3⟩ := hR.kn.at_ (known_some wf hk hj)
      refine ⟨_, rfl, R.r, _, dr, _, _, rfl, hr1, T.clR, T.nRk, rF_known _ _ _ _, _, rfl, R.kn, xs, (j : Int), .ref b, rfl, rfl, .of hx1, atI_nat hx2, q b ?_⟩
      unfold knownV
      rw [if_neg hkj]; exact hx3
theorem scLack : FnScope ["world", "sender", "receiver", "known", "event"] ["world", "sender", "receiver"] (defScope sLack) := ⟨rfl, rfl, rfl, by decide +kernel, rfl, by decide +kernel, by decide +kernel⟩
theorem ok_lacking (T : Txt K C) (cK : Cal CX0 P wo K mg base 1 "known_vector" (spKnown C)) (cI : Cal CX0 P wo K mg base 1 "is_in" spIsIn) (F : Fun K "lacking" "lacking" sLack f fd) : FnOk P wo K mg base CX0 3 f fd ["world", "sender", "receiver"] (spLack C) := by
  refine F.ok scLack (fun vs H Q E h => ?_) (fun cdv A outer s H vs Q E hr h => ?_)
  · obtain ⟨L, w, k, j, rfl, _⟩ := h; rfl
  · refine ⟨_, pss_cons (ps_set (i := 3) scLack.nd rfl (.inr rfl) (pc cK hr (pa_cons (pv 0) (pa_cons (pv 1) (pa_cons (pv 2) pa_nil)))))
      (pss_one (ps_ret (pe_lc (own := [("event", 4)]) (g := gName 4) (tt := tNot (tB (tCall spIsIn [] E0 (tCons (tVar 4) (tCons (tVar 3) tNil))))) (te := tVar 4) (by rfl) scLack.nd (pi_list (pe_fld (pe_ix ix_list (pe_fld (pv 0) rfl) (pv 1) (fun _ _ => rfl)) rfl))
        (blkOk_by (N := ["world", "sender", "receiver", "known", "event"]) (sc := defScope sLack) (by decide +kernel)) (fun _ _ _ _ _ => pg_name (i := 4) scLack.nd rfl (Or.inl rfl))
        (fun _ _ _ _ _ => by exact pts_one (pt_not (pt_val (pc cI hr (pa_cons (pv 4) (pa_cons (pv 3) pa_nil))))))
        (fun _ _ _ _ _ => by exact pv 4)))), ?_⟩
    obtain ⟨L, w, k, j, rfl, hW, wf, hk, hj, q⟩ := h
    obtain ⟨tw, dw, hw⟩ := hW.wd
    obtain ⟨R, hRk, hR⟩ := hW.repA hk
    obtain ⟨dr, v, pe, hr1, hv, hpe⟩ := hR.ins
    obtain ⟨ps, eps, hps, hev⟩ := hR.app
    have hrw := wf.rep k _ (rep_at hk)
    have hpl : ps.length ≤ 60 := by
      have := app_few wf hrw.toLWF
      rw [eps, List.length_map] at this
      exact this
    refine ⟨_, rfl, _, rfl, _, rfl, L, w, k, j, rfl, hW, wf, hk, hj, fun ka hka => ?_⟩
    refine ⟨_, rfl, L.w, _, dw, _, _, rfl, hw, T.clW, T.nWr, wF_replicas L, _, rfl, L.aR, _, (k : Int), _, rfl, rfl, .of hW.aR.2, atI_nat (at_map hRk), R.r, _, dr, _, _, rfl, hr1, T.clR, T.nRa, rF_applied _ _ _ _, R.ap, rfl, ⟨_, .of hps⟩, fun D hD => ?_⟩
    refine lc_filter (K := K) (fun e => !isIn e (knownV w k j)) hD hps (by omega) (fun _ => ?_) (fun p hp H' s' R' hR' => ?_) (fun b H' R' h => ?_) (fun H2 s2 e2 => ?_)
    · rfl
    · have he : EvOk w p.2 := (app_ok hrw.toLWF (by rw [eps]; exact List.mem_map.mpr ⟨p, hp, rfl⟩)).1
      exact ⟨_, rfl, _, rfl, p.1, ka, p.2, _, rfl, s' _ _ (hev p hp).2, s' _ _ hka.2, by rw [known_len wf hk hj]; exact he.r, _, rfl, hR' _ fun _ _ z => z⟩
    · exact ⟨_, rfl, h⟩
    · refine q D H2 hD s2 ⟨hW.untagged hD, ps.filter (fun p => !isIn p.2 (knownV w k j)), ?_, e2, fun x hx => (hev x (List.mem_filter.mp hx).1).keep (Keep.of s2)⟩
      unfold lackE
      rw [eps, List.filter_map]; rfl
theorem scPut : FnScope ["world", "sender", "receiver", "events"] ["world", "sender", "receiver", "events"] (defScope sPut) := ⟨rfl, rfl, rfl, by decide +kernel, rfl, by decide +kernel, by decide +kernel⟩
theorem ok_put_message (T : Txt K C) (B : Blt mg) (cM : Mak P wo K mg base 1 "Message" C.cM (spMeI C)) (F : Fun K "put_message" "put_message" sPut f fd) : FnOk P wo K mg base CX0 3 f fd ["world", "sender", "receiver", "events"] (spPut C) := by
  refine F.ok scPut (fun vs H Q E h => ?_) (fun cdv A outer s H vs Q E hr h => ?_)
  · obtain ⟨L, w, k, j, es, l, rfl, _⟩ := h; rfl
  · refine ⟨_, pss_cons (ps_expr (pe_bm PySem.F.plainAttrs_list PySem.F.slot_list_append PySem.F.type_list_append mt_append (pe_fld (pv 0) rfl)
        (pa_cons (pmk cM hr (pa_cons (pv 1) (pa_cons (pv 2) (pa_cons (pe_fld (pe_ix ix_list (pe_fld (pv 0) rfl) (pv 1) (fun _ _ => rfl)) rfl) (pa_cons (pv 3) pa_nil))))) pa_nil)))
      (pss_one (ps_ret (pe_op op_sub (pe_callB call_len_seq (by rfl) B.len PySem.boot_len (pa_cons (pe_fld (pv 0) rfl) pa_nil)) pe_int))), ?_⟩
    obtain ⟨L, w, k, j, es, l, rfl, hW, hes, hk, hm, q⟩ := h
    obtain ⟨tw, dw, hw⟩ := hW.wd
    obtain ⟨R, hRk, hR⟩ := hW.repA hk
    obtain ⟨dr, v, pe, hr1, hv, hpe⟩ := hR.ins
    obtain ⟨xs, hx, hxl, hxa⟩ := hW.msg.append
    refine ⟨_, rfl, L.w, _, dw, _, _, rfl, hw, T.clW, T.nWm, wF_messages L, .inl ⟨rfl, _, .of hx⟩, _, rfl, _, rfl, _, rfl, L.w, _, dw, _, _, rfl, hw, T.clW, T.nWr, wF_replicas L, _, rfl, L.aR, _, (k : Int), _, rfl, rfl, .of hW.aR.2, atI_nat (at_map hRk),
      R.r, _, dr, _, _, rfl, hr1, T.clR, T.nRv, rF_vector _ _ _ _, _, rfl, fun x dx nx nd ne => ?_⟩
    refine ⟨x, dx, v, es, k, j, rfl, upd_same, fun H2 I => ⟨rfl, ?_⟩⟩
    have k2 : ∀ b o, H b = some o → H2 b = some o := fun b o e => I.2 b o (ne_of_none e nx) (by rw [upd_ne (ne_of_none e nx), upd_ne (ne_of_none e nd)]; exact e)
    refine ⟨L.aM, xs, .ref x, rfl, rfl, k2 _ _ hx, (by rw [hxl]; exact small1000 (by omega)), ?_⟩
    have ax : x ≠ L.aM := (ne_of_none hx nx).symm
    have c3 : ∀ b o, b ≠ L.aM → H b = some o → upd H2 L.aM (.lst (xs ++ [.ref x])) b = some o := fun b o c e => by rw [upd_ne c]; exact k2 _ _ e
    have kp : Keep L.tag H (upd H2 L.aM (.lst (xs ++ [.ref x]))) := .mk2 fun b o y tb hx e => c3 b o (tag_ne tb hW.tM (by rcases hx with rfl | rfl <;> simp)) e
    refine ⟨_, rfl, L.w, _, dw, _, _, rfl, kp _ _ tw hw, T.clW, T.nWm, wF_messages L, L.aM, _, rfl, .inl (.of upd_same), _, _, rfl, rfl, ?_⟩
    have el : (((xs ++ [V.ref x]).length : Nat) : Int) - 1 = (w.msgs.length : Int) := by
      rw [List.length_append, hxl]
      show ((w.msgs.length + 1 : Nat) : Int) - 1 = _
      omega
    show Q (.int ((((xs ++ [V.ref x]).length : Nat) : Int) - 1)) _
    rw [el]
    exact q _ kp (hW.putM c3 (hxa (fun _ _ z => z.keep kp) upd_same ⟨hW.untagged nx, dx, v, es, (upd_ne ax).trans I.1, hv.keep kp, hes.keep kp⟩))
theorem scStable : FnScope ["world", "number", "found", "other"] ["world", "number"] (defScope sStable) := ⟨rfl, rfl, rfl, by decide +kernel, rfl, by decide +kernel, by decide +kernel⟩
theorem ok_stable_vector (T : Txt K C) (B : Blt mg) (cK : Cal CX0 P wo K mg base 1 "known_vector" (spKnown C)) (cL : Cal CX0 P wo K mg base 1 "lesser" (spVV min)) (F : Fun K "stable_vector" "stable_vector" sStable f fd) : FnOk P wo K mg base CX0 3 f fd ["world", "number"] (spStable C) := by
  refine F.ok scStable (fun vs H Q E h => ?_) (fun cdv A outer s H vs Q E hr h => ?_)
  · obtain ⟨L, w, k, rfl, _⟩ := h; rfl
  · refine ⟨_, pss_cons (ps_set (i := 2) scStable.nd rfl (.inl rfl) (pe_fld (pe_ix ix_list (pe_fld (pv 0) rfl) (pv 1) (fun _ _ => rfl)) rfl))
      (pss_cons (ps_for PassesOwn.never rfl (pi_range1 (by rfl) B.range (pa_cons (pe_callB call_len_seq (by rfl) B.len PySem.boot_len (pa_cons (pe_fld (pv 0) rfl) pa_nil)) pa_nil)) (pg_name (i := 3) scStable.nd rfl (.inl rfl))
        (pss_one (ps_set (i := 2) scStable.nd rfl (.inl rfl) (pc cL hr (pa_cons (pv 2) (pa_cons (pc cK hr (pa_cons (pv 0) (pa_cons (pv 1) (pa_cons (pv 3) pa_nil)))) pa_nil))))))
      (pss_one (ps_ret (pv 2)))), ?_⟩
    obtain ⟨L, w, k, rfl, hW, wf, hk, q⟩ := h
    obtain ⟨tw, dw, hw⟩ := hW.wd
    obtain ⟨R, hRk, hR⟩ := hW.repA hk
    obtain ⟨dr, v, pe, hr1, hv, hpe⟩ := hR.ins
    have hrw := wf.rep k _ (rep_at hk)
    have n6 := wf.n6
    have hlen : (L.reps.map fun R => V.ref R.r).length = w.reps.length := by rw [List.length_map, hW.lr]
    refine ⟨_, rfl, L.w, _, dw, _, _, rfl, hw, T.clW, T.nWr, wF_replicas L, _, rfl, L.aR, _, (k : Int), _, rfl, rfl, .of hW.aR.2, atI_nat (at_map hRk), R.r, _, dr, _, _, rfl, hr1, T.clR, T.nRv, rF_vector _ _ _ _, ?_⟩
    refine ⟨_, rfl, L.w, _, dw, _, _, rfl, hw, T.clW, T.nWr, wF_replicas L, L.aR, _, rfl, .inl (.of hW.aR.2), _, rfl, by rw [hlen]; omega, by rw [hlen]; omega, ?_⟩
    rw [hlen]
    have plen : ∀ i, i ≤ w.reps.length → ((List.range i).foldl (fun f j => les f (knownV w k j)) (w.rep k).vec).length = w.reps.length := by
      intro i
      induction i with
      | zero => intro _; exact hrw.vec.len
      | succ i ih =>
        intro hi
        have := ih (by omega)
        rw [List.range_succ, List.foldl_append]
        show (les _ (knownV w k i)).length = _
        rw [les_len _ _ (by rw [this, known_len wf hk (by omega)]), this]
    refine for_range (lo := 0) (n := w.reps.length) (fun i σ H' => ∃ (a : Addr) (u : Option V), σ = [some (.ref L.w), some (nI k), some (.ref a), u] ∧ Same H H' ∧ VecAt L.tag H' a ((List.range i).foldl (fun f j => les f (knownV w k j)) (w.rep k).vec)) ⟨v, none, rfl, fun _ _ z => z, hv⟩ ?_ ?_
    · rintro i σ H' hi ⟨a, u, rfl, s1, ha⟩
      have hW' := hW.same s1
      have ei : (0 : Int) + (i : Int) = (i : Int) := by omega
      rw [ei]
      refine ⟨_, rfl, _, rfl, _, rfl, _, rfl, L, w, k, i, rfl, hW', wf, hk, hi, fun b hb => ?_⟩
      refine ⟨a, b, _, _, rfl, ha.2, hb.2, by rw [plen i (by omega), known_len wf hk hi], by rw [plen i (by omega)]; omega, fun p H2 hp s2 e2 => ?_⟩
      refine ⟨p, some (nI i), rfl, s1.trans s2, hW'.untagged hp, ?_⟩
      rw [e2, List.range_succ, List.foldl_append]; rfl
    · rintro σ H' ⟨a, u, rfl, s1, ha⟩
      exact ⟨_, rfl, q a H' s1 ha⟩
end
end VD
end
/-! ## part world5 -/
section
set_option Elab.async false
set_option linter.all false
set_option maxRecDepth 100000
set_option maxHeartbeats 4000000
namespace VD
open PySem PySem.Spec PyProof.Rows L2
theorem ixN_nat {n i : Nat} (h : i < n) : ixN n (i : Int) = some i := by
  unfold ixN
  rw [if_pos (by omega), if_pos (by omega), Int.toNat_natCast]
/-- one of the list is replaced -/
theorem Lst.set {α : Type} {P : Addr → α → Prop} {H : Hp} {a : Addr} {l : List α} (h : Lst P H a l) : ∃ xs, H a = some (.lst xs) ∧ xs.length = l.length ∧
    ∀ {P' : Addr → α → Prop} {H' : Hp} {b : Addr} {x : α} {i : Nat}, (∀ c y, P c y → P' c y) → H' a = some (.lst (xs.set i (.ref b))) → P' b x → Lst P' H' a (l.set i x) := by
  obtain ⟨ps, e, h1, h2⟩ := h
  refine ⟨_, h1, by rw [e, List.length_map, List.length_map], fun {P' H' b x i} hp ha hb => ⟨ps.set i (b, x), by rw [e, List.map_set], by rw [List.map_set]; exact ha, fun p hm => ?_⟩⟩
  rcases List.mem_or_eq_of_mem_set hm with m | m
  · exact hp _ _ (h2 p m)
  · rw [m]; exact hb
section
variable {P : Program} {wo : World} {K : PySem.W.Frag} {mg : Str → Option Value} {base : Heap} {f : Addr} {fd : FuncData} {C : Cs}
theorem scDeliver : FnScope ["world", "message", "replica", "before", "known"] ["world", "message"] (defScope sDeliver) := ⟨rfl, rfl, rfl, by decide +kernel, rfl, by decide +kernel, by decide +kernel⟩
theorem ok_deliver_message (T : Txt K C) (B : Blt mg) (cT : Cal CX0 P wo K mg base 8 "take_events" (spTake C)) (cG : Cal CX0 P wo K mg base 1 "greater" (spVV max)) (F : Fun K "deliver_message" "deliver_message" sDeliver f fd) : FnOk P wo K mg base CX0 10 f fd ["world", "message"] (spDeliver C) := by
  refine F.ok scDeliver (fun vs H Q E h => ?_) (fun cdv A outer s H vs Q E hr h => ?_)
  · obtain ⟨L, w, ma, m, rfl, _⟩ := h; rfl
  · refine ⟨_, pss_cons (ps_set (i := 2) scDeliver.nd rfl (.inl rfl) (pe_ix ix_list (pe_fld (pv 0) rfl) (pe_fld (pv 1) rfl) (fun _ _ => rfl)))
      (pss_cons (ps_set (i := 3) scDeliver.nd rfl (.inl rfl) (pe_callB call_len_seq (by rfl) B.len PySem.boot_len (pa_cons (pe_fld (pv 2) rfl) pa_nil)))
      (pss_cons (ps_expr (pc cT hr (pa_cons (pv 0) (pa_cons (pv 2) (pa_cons (pe_fld (pv 1) rfl) pa_nil)))))
      (pss_cons (ps_set (i := 4) scDeliver.nd rfl (.inl rfl) (pe_fld (pv 2) rfl))
      (pss_cons (ps_asg (pc cG hr (pa_cons (pe_ix ix_list (pv 4) (pe_fld (pv 1) rfl) (fun _ _ => rfl)) (pa_cons (pe_fld (pv 1) rfl) pa_nil))) (pg_sub (pv 4) (pe_fld (pv 1) rfl) set_list))
      (pss_one (ps_ret (pe_op op_sub (pe_callB call_len_seq (by rfl) B.len PySem.boot_len (pa_cons (pe_fld (pv 2) rfl) pa_nil)) (pv 3)))))))), ?_⟩
    obtain ⟨L, w, ma, m, rfl, hW, wf, hma, hmw, q⟩ := h
    obtain ⟨tw, dw, hw⟩ := hW.wd
    obtain ⟨tm, dm, mv, me, hm1, hmv, hme⟩ := hma
    have hk := hmw.to
    obtain ⟨R, hRk, hR⟩ := hW.repA hk
    obtain ⟨t1, t2, t3⟩ := hW.tR _ R hRk
    have n1 : R.r ≠ R.kn := tag_ne t1 t3 (by simp)
    have n2 : R.ap ≠ R.kn := tag_ne t2 t3 (by simp)
    obtain ⟨dr, v, pe, hr1, hv, hpe⟩ := hR.ins
    obtain ⟨xs0, hx0, hxl0⟩ := hR.app.len
    have hrw := wf.rep m.to _ (rep_at hk)
    -- replica, before
    refine ⟨_, rfl, L.w, _, dw, _, _, rfl, hw, T.clW, T.nWr, wF_replicas L, _, rfl, ma, _, dm, _, _, rfl, hm1, T.clM, T.nMr, mF_receiver _ _ _, L.aR, _, (m.to : Int), _, rfl, rfl, .of hW.aR.2, atI_nat (at_map hRk), ?_⟩
    refine ⟨_, rfl, R.r, _, dr, _, _, rfl, hr1, T.clR, T.nRa, rF_applied _ _ _ _, R.ap, xs0, rfl, .inl (.of hx0), ?_⟩
    -- take_events(..)
    refine ⟨_, rfl, _, rfl, _, rfl, ma, _, dm, _, _, rfl, hm1, T.clM, T.nMe, mF_events _ _ _, L, w, m.to, R, me, m.evs, rfl, hW, hRk, Mid.of wf hk, hme, hmw.evs, hmw.few, fun H1 k1 hW1 => ?_⟩
    have ht := take_law wf hk hrw.toLWF hmw.evs
    obtain ⟨hk1, hR1⟩ := hW1.repR hRk
    rw [rep_setR hk] at hR1
    obtain ⟨dr1, v1, pe1, hr11, hv1, hpe1⟩ := hR1.ins
    have hm11 := k1 _ _ tm hm1
    have hkl : (takeE w (w.rep m.to) m.evs).known.length = w.reps.length := ht.2.1.kl
    have hfrm : m.frm < (takeE w (w.rep m.to) m.evs).known.length := by rw [hkl]; exact hmw.frm
    have hsome : (takeE w (w.rep m.to) m.evs).known[m.frm]? = some ((takeE w (w.rep m.to) m.evs).known.getD m.frm []) := by
      rw [List.getD_eq_getElem?_getD, List.getElem?_eq_getElem hfrm]; rfl
    have hgl : ((takeE w (w.rep m.to) m.evs).known.getD m.frm []).length = w.reps.length := ht.2.1.kv _ (List.mem_of_getElem? hsome)
    obtain ⟨xs, b, hx1, hx2, hx3⟩ := hR1.kn.at_ hsome
    obtain ⟨ys, hy1, hyl, hyset⟩ := hR1.kn.set
    have exy : ys = xs := by
      have := hy1.symm.trans hx1
      injection this with z
      injection z
    subst exy
    -- known, known[..] = greater(..)
    refine ⟨_, rfl, R.r, _, dr1, _, _, rfl, hr11, T.clR, T.nRk, rF_known _ _ _ _, ?_⟩
    have hmv1 := hmv.keep k1
    refine ⟨_, rfl, _, rfl, ma, _, dm, _, _, rfl, hm11, T.clM, T.nMs, mF_sender _ _ _, R.kn, ys, (m.frm : Int), .ref b, rfl, rfl, .of hx1, atI_nat hx2, _, rfl, ma, _, dm, _, _, rfl, hm11, T.clM, T.nMv, mF_vector _ _ _,
      b, mv, _, _, rfl, hx3.2, hmv1.2, by rw [hgl, hmw.vec], by rw [hgl]; have := wf.n6; omega, fun p H2 hp s2 e2 => ?_⟩
    have hm12 := s2 _ _ hm11
    refine ⟨_, rfl, _, rfl, ma, _, dm, _, _, rfl, hm12, T.clM, T.nMs, mF_sender _ _ _, R.kn, ys, (m.frm : Int), m.frm, rfl, rfl, s2 _ _ hx1, ixN_nat (by rw [hyl]; exact hfrm), ?_⟩
    have tp := hW1.untagged hp
    have c3 : ∀ x o, x ≠ R.kn → H1 x = some o → upd H2 R.kn (.lst (ys.set m.frm (.ref p))) x = some o := fun x o c e => by rw [upd_ne c]; exact s2 _ _ e
    have kp : Keep L.tag H1 (upd H2 R.kn (.lst (ys.set m.frm (.ref p)))) := .mk2 fun x o y tx hx e => c3 x o (tag_ne tx t3 (by rcases hx with rfl | rfl <;> simp)) e
    have hW3 : Wd C (upd H2 R.kn (.lst (ys.set m.frm (.ref p)))) L ((w.setR m.to (takeE w (w.rep m.to) m.evs)).setR m.to (learnE (takeE w (w.rep m.to) m.evs) m)) :=
      hW1.setRep hRk (fun x o _ _ z3 z => c3 x o z3 z) ⟨⟨dr1, v1, pe1, c3 _ _ n1 hr11, hv1.keep kp, hpe1.keep kp⟩, hR1.app.imp (fun _ _ z => z.keep kp) fun o z => c3 _ o n2 z,
        hyset (fun _ _ z => z.keep kp) upd_same ⟨tp, by rw [upd_ne (tag_ne tp t3 (by simp))]; exact e2⟩⟩
    rw [setR_setR] at hW3
    obtain ⟨_, hR3⟩ := hW3.repR hRk
    obtain ⟨dr3, v3, pe3, hr31, _, _⟩ := hR3.ins
    obtain ⟨xs3, hx3', hxl3⟩ := hR3.app.len
    refine ⟨_, rfl, R.r, _, dr3, _, _, rfl, hr31, T.clR, T.nRa, rF_applied _ _ _ _, R.ap, xs3, rfl, .inl (.of hx3'), _, rfl, _, _, rfl, rfl, ?_⟩
    show Q (.int ((xs3.length : Int) - (xs0.length : Int))) _
    rw [hxl3, hxl0]
    exact q _ (k1.trans kp) hW3
end
end VD
end
/-! ## part low -/
section
set_option Elab.async false
set_option linter.all false
set_option maxRecDepth 100000
set_option maxHeartbeats 4000000
namespace PySem
namespace LowX
open PySem.W PySem.Calls PyProof.Rows PySem.HandSPX
/-! ### the text of __init__ -/
def iA (p1 p2 : Pos) : Arguments := { posonlyargs := [], args := [{ arg := "self", annotation := none, pos := p1 }, { arg := "code", annotation := none, pos := p2 }], vararg := none, kwonlyargs := [], kw_defaults := [], kwarg := none, defaults := [] }
def iB (q1 q2 q3 q4 : Pos) : List Stmt := [.Assign [.Attribute (.Name "self" q1) "code" q2] (.Name "code" q3) q4]
def iS : Scope := { kind := .function, names := [(PySem.Str.ofString "self", .local), (PySem.Str.ofString "code", .local)], isGenerator := false, isCoroutine := false, more := [] }
/-- what the written part says of Low, at C, and of its __init__, at fI -/
structure LowTxt (K : Frag) (mg : Str → Option Value) (C fI : Addr) : Prop where
  gC : mg "Refused" = some (.ref C)
  cls : ∃ nm q N bs bm sn sub ab col dd k0 k1 k2 k3 k5, K.lookup C = some (excClassObj nm q C N bs bm true sn sub ab col dd k0 k1 k2 k3 k5 "ValueError.__new__") ∧ refsVE bm = true
  sa : findIn K (.ref C) "__setattr__" = some (some (.builtin "object.__setattr__"))
  ga : findIn K (.ref C) "__getattribute__" = some (some (.builtin "BaseException.__getattribute__"))
  gg : findIn K (.ref C) "__getattr__" = some none
  noN : findIn K (.ref C) "code" = some none
  iC : findIn K (.ref C) "__init__" = some (some (.ref fI))
  tC : typeIn K (.ref fI) = some (.type "function")
  kC : keepIn K (.ref C) = true
  exC : subIn K (.ref C) (.type "BaseException") = some true
  tyC : typeIn K (.ref C) = some (.type "type")
  hdC : hasDictIn K C = true
  te : exmOne K (.ref C) (.ref C) = some true
  fn : ∃ (oc : Value) (od : Option Addr) (doc pm : Value) (an : Option Addr) (cdv ct : Value) (osl : Array (Option Value)) (p1 p2 q1 q2 q3 q4 : Pos),
    K.lookup fI = some ⟨oc, od, .func (fnOf "__init__" "Refused.__init__" (iA p1 p2) (iB q1 q2 q3 q4) iS .none .none doc pm an cdv ct), osl⟩ ∧ codeIn K cdv "Refused.__init__" = true
theorem one_size (v : Value) : [v].length ≤ sizeLine := by
  rw [sizeLine_eq]
  exact (by decide : 1 ≤ 16777216)
theorem kept_but {K : Frag} {h h' : Heap} {x : Addr} (X : K.In h) (hx : K.lookup x = none) (k : ∀ b o, b ≠ x → h.get? b = some o → h'.get? b = some o) : K.In h' := fun a o e =>
  k a o (fun z => by rw [z, hx] at e; cases e) (X a o e)
theorem ldC {M : Model} {s : Shared} {name : Str} {scope : Scope} {L a : Addr} {cd : Value} {m : Str → Option Value} {x : Str} {pos : Pos} {v : Value} {Q : Value → Shared → Prop} {A : Around} {E : Value → Shared → Prop} (hn : s.heap.Ns L m) (hv : m x = some v) (h : Q v s)
    (hk : scope.kind = .function := by rfl) (hl : (envOfC name scope L a cd).kindOf x = some .local := by rfl) (hd : (x == ("__debug__" : Str)) = false := by decide) :
    wpAny M A (eval (.Name x pos) (envOfC name scope L a cd)) Q E s := wpAny_Name (wpAny_loadName_local hk hl hn hv h) hd
/-- what __init__ leaves of a fresh exception at x -/
structure InitEnd (h h' : Heap) (x C dx t1 : Addr) (v : Value) : Prop where
  keep : ∀ b o, b ≠ x → h.get? b = some o → h'.get? b = some o
  obj : h'.get? x = some { cls := .ref C, dict := some dx, data := .fields #[.ref t1, .none, .none, .none, .bool false, .none] }
  dbig : h.objs.size ≤ dx
  dne : dx ≠ x
  ns : h'.Ns1 dx (fun y => if y = "code" then some v else none)
/-- a made Low -/
structure OwnMade (h h' : Heap) (e C d : Addr) (v : Value) : Prop where
  keep : ∀ b o, h.get? b = some o → h'.get? b = some o
  new : h.objs.size ≤ e
  obj : ∃ oe vs, h'.get? e = some oe ∧ oe.cls = .ref C ∧ oe.dict = some d ∧ oe.data = .fields vs ∧ vs[1]? = some .none
  dbig : h.objs.size ≤ d
  dne : d ≠ e
  ns : h'.Ns1 d (fun y => if y = "code" then some v else none)
section
variable {prog : Program} {w : World} {A : Around} {E : Value → Shared → Prop} {R : Result → Shared → Prop} {s : Shared} {K : Frag} {mg : Str → Option Value} {C fI : Addr}
theorem low_init (T : LowTxt K mg C fI) {x t0 : Addr} {v : Value} (X : K.In s.heap) (hlim : s.heap.NoLimit) (hx : s.heap.get? x = some (excO C t0)) (hnx : K.lookup x = none) (hroom : A.depth < recursionLimit)
    (hq : ∀ h' tk dx, InitEnd s.heap h' x C dx t0 v → R (.ok (.ret .none)) { s with heap := h', toks := tk }) :
    codeAny (model prog w) A (.call (.ref fI) ⟨[.ref x, v], []⟩) R s := by
  obtain ⟨oc, od, doc, pm, an, cdv, ct, osl, p1, p2, q1, q2, q3, q4, ho, hcd⟩ := T.fn
  obtain ⟨nm, q, N, bs, bm, sn, sub, ab, col, dd, k0, k1, k2, k3, k5, hC, hbm⟩ := T.cls
  have hcl : clsIn K C = some { name := nm, bases := bs, mro := .ref C :: bm, ns := N, qualname := q, hasDict := true, slotNames := sn, subclasses := sub, abstract := ab, collection := col, hasDel := false } := by unfold clsIn; rw [hC] <;> rfl
  refine Att.call_fn (binds := [("self", .ref x), ("code", v)]) X hlim ho hcd hroom (BindsTo.of_eq (by first | rfl | with_unfolding_all rfl)) (by first | rfl | decide | with_unfolding_all rfl) (fun s₁ IC => ?_) rfl rfl rfl
  obtain ⟨h₁, tk₁, rfl⟩ := IC.toInCall.same
  have k : ∀ b o, s.heap.get? b = some o → h₁.get? b = some o := IC.toInCall.keep
  have hn := IC.toInCall.ns
  have hxL : s.heap.objs.size ≠ x := Nat.ne_of_gt (Heap.lt_size hx)
  have X₁ : K.In h₁ := X.keeps k
  have hx₁ := k _ _ hx
  -- self.by = by
  show wpAny _ _ (execs _ _) _ _ _
  refine wpAny_execs_cons (plainObj_wpAny_Assign_Attribute ?_)
  refine ldC (v := v) hn (by first | rfl | with_unfolding_all rfl | kernel_rfl) (ldC (v := .ref x) hn (by first | rfl | with_unfolding_all rfl | kernel_rfl) ?_)
  refine set_plain X₁ (ox := excO C t0) (od := none) ⟨hx₁, rfl, rfl, trivial⟩ T.sa ?_
  refine exc_osa X₁ hx₁ hcl (show refsVE (.ref C :: bm) = true from hbm) rfl T.noN (fun h₃ tk₃ dx k₃ dn dne hx₃ hn₃ => ?_)
  show wpAny _ _ (execs _ _) _ _ _
  have z : s.heap.objs.size < h₁.objs.size := hn.lt
  exact wpAny_execs_nil (hq h₃ tk₃ dx ⟨fun b o hb e => k₃ b o hb (k b o e), hx₃, Nat.le_of_lt (Nat.lt_of_lt_of_le z dn), dne, hn₃⟩)
theorem low_made (T : LowTxt K mg C fI) {v : Value} (X : K.In s.heap) (hlim : s.heap.NoLimit) (hroom : A.depth + 1 < recursionLimit)
    (hq : ∀ h' tk e d, OwnMade s.heap h' e C d v → R (.ok (.ret (.ref e))) { s with heap := h', toks := tk }) :
    codeAny (model prog w) A (.call (.ref C) ⟨[v], []⟩) R s := by
  obtain ⟨nm, q, N, bs, bm, sn, sub, ab, col, dd, k0, k1, k2, k3, k5, hC, hbm⟩ := T.cls
  obtain ⟨hp, g, dr, tk, os⟩ := s
  have k : ∀ b o, hp.get? b = some o → ((hp.push (kdv_tup [v])).push (excO C hp.objs.size)).get? b = some o := fun b o e => Heap.get?_push_of_some _ (Heap.get?_push_of_some _ e)
  have hget : ((hp.push (kdv_tup [v])).push (excO C hp.objs.size)).get? (hp.objs.size + 1) = some (excO C hp.objs.size) := by heap_get
  have hnx : K.lookup (hp.objs.size + 1) = none := by
    cases e : K.lookup (hp.objs.size + 1) with
    | none => rfl
    | some o =>
      have z : hp.get? (hp.objs.size + 1) = some o := X _ _ e
      exact absurd (Nat.lt_of_succ_lt (Heap.lt_size z)) (Nat.lt_irrefl _)
  refine call_own F.excBase_ValueError (fun X => refsVE_contains X bm hbm) (X _ _ hC) (looks_findIn X T.iC) (fun self => bind_fn X self T.tC) (one_size v) ?_
  refine low_init (s := ⟨(hp.push (kdv_tup [v])).push (excO C hp.objs.size), g, dr, tk, os⟩) T (X.keeps k) (hlim.keeps k) hget hnx ?_ fun h' tk' dx ⟨k', hx, dn, dne, hns⟩ => ?_
  · show A.depth + 1 < recursionLimit
    exact hroom
  · have old : ∀ b o, hp.get? b = some o → h'.get? b = some o := fun b o e => k' b o (Nat.ne_of_lt (Nat.lt_succ_of_lt (Heap.lt_size e))) (k b o e)
    have z : hp.objs.size + 1 + 1 ≤ dx := by
      first
        | (simpa only [Heap.size_push] using dn)
        | exact dn
        | (have q := dn; rw [Heap.size_push, Heap.size_push] at q; exact q)
    exact ⟨rfl, hq h' tk' (hp.objs.size + 1) dx ⟨old, Nat.le_succ _, ⟨_, _, hx, rfl, rfl, rfl, rfl⟩, Nat.le_trans (Nat.le_trans (Nat.le_succ _) (Nat.le_succ _)) z, dne, hns⟩⟩
end
end LowX
end PySem
namespace L2
open PySem PySem.Spec PyProof.Rows
theorem relO_low {v : V} {v' : Value} (r : RelV v v') (f : Str) : RelO (List.lookup f [(("code" : Str), v)]) (if f = "code" then some v' else none) := by
  by_cases hw : f = "code"
  · subst hw
    rw [if_pos rfl]
    have q : List.lookup ("code" : Str) [(("code" : Str), v)] = some v := by simp [List.lookup]
    rw [q]
    exact r
  · rw [if_neg hw]
    have qw : (f == ("code" : Str)) = false := by simpa using hw
    have q2 : List.lookup f [(("code" : Str), v)] = none := by simp [List.lookup, qw]
    rw [q2]
    trivial
section
variable {X : Cx} {C fI : Addr}
/-- Low(e) -/
def tMkLow (C : Addr) (ta : TA) : St → Hp → XK → Prop := fun σ H Q => ta σ H fun vs H1 => ∃ v, vs = [v] ∧ ∀ d, H1 d = none → Q (.ref C) (some d) (upd H1 d (.xd [(("code" : Str), v)]))
theorem pmk_low {a : Expr} {ta : TA} {p pos : Pos} {k : Nat} (T : PySem.LowX.LowTxt X.K X.mg C fI) (hr : Room k X.A) (ha : PA X [a] ta) (hg : Gl X "Refused" := by rfl)
    (he : starEach (a :: []) X.env = (false, eval a X.env) :: starEach [] X.env := by rfl) (hpl : (backTo pos (starEach [] X.env)).any (·.1) = false := by rfl) :
    PMk X (.Call (.Name "Refused" p) [a] [] pos) (tMkLow C ta) := by
  intro pins s σ H Q I h
  refine wpAny_Call_Name_kw (ld_glob I hg T.gC ?_)
  refine PySem.W.callWith_K (h₀ := X.base) I.ok.mod.kin T.kC (thn (ha.run pos pins s σ H _ I h) fun us s1 hh => ?_) he hpl
  obtain ⟨vs, H1, I1, r1, v, ev, q1⟩ := hh
  subst ev
  refine ⟨I1.kIn, ?_⟩
  cases r1 with
  | cons rv rn =>
    rename_i v' us'
    cases rn
    show wpAny _ _ (call (.ref C) [v']) _ _ _
    have hlim := I1.nolimit
    obtain ⟨hp, g, dr, tk, os⟩ := s1
    refine wpAny_call (PySem.LowX.low_made T I1.kIn hlim (by have := hr.dp; omega) fun h' tk' e d M => ?_)
    show MkP X pins σ Q (.ref e) ⟨h', g, dr, tk', os⟩
    obtain ⟨oe, fv, hoe, hc, hd, hdat, h1⟩ := M.obj
    have hns := M.ns
    obtain ⟨G', g1, g2⟩ := restrict h' fun b => decide (b ≠ e)
    have gk : ∀ b, b ≠ e → G'.get? b = h'.get? b := fun b hb => g1 b (decide_eq_true hb)
    have ge : G'.get? e = none := g2 e (by simp)
    have old : ∀ b o, hp.get? b = some o → G'.get? b = some o := fun b o q => (gk b (Nat.ne_of_lt (Nat.lt_of_lt_of_le (Heap.lt_size q) M.new))).trans (M.keep b o q)
    have ob : ObjOk X.prog X.w (upd H1 d (.xd [(("code" : Str), v)])) G' d (.xd [(("code" : Str), v)]) :=
      ⟨_, hns.at (fun o q => (gk d M.dne).trans q), fun f => relO_low rv f⟩
    have J : Inv X pins σ (upd H1 d (.xd [(("code" : Str), v)])) ⟨G', g, dr, tk', os⟩ := I1.laid (t' := tk') old M.dbig ob
    refine ⟨e, oe, fv, ⟨G', g, dr, tk', os⟩, _, .ref C, some d, rfl, J, fun b o q => ?_, ge, hoe, ⟨hc, hd⟩, hdat, h1, ?_, rfl, I1.bare, raises_own T.exC T.tyC, q1 d (I1.hok.fresh M.dbig)⟩
    · by_cases hb : b = e
      · have q' : G'.get? b = some o := q
        rw [hb, ge] at q'; cases q'
      · exact (gk b hb).symm.trans q
    · rw [upd_ne (Ne.symm M.dne)]
      exact I1.hok.fresh M.new
/-- raise Low(e) -/
def tRaiseLow (C : Addr) (W : WX) (ta : TA) : TS := fun _ σ H => tMkLow C ta σ H fun cls d H' => W cls d σ H'
theorem ps_raiseLow {a : Expr} {ta : TA} {W : WX} {p pos pos2 : Pos} {k : Nat} (hc : X.calm = true) (T : PySem.LowX.LowTxt X.K X.mg C fI) (hr : Room k X.A) (tk : Takes X W) (ha : PA X [a] ta) (hg : Gl X "Refused" := by rfl)
    (he : starEach (a :: []) X.env = (false, eval a X.env) :: starEach [] X.env := by rfl) (hpl : (backTo pos (starEach [] X.env)).any (·.1) = false := by rfl) :
    PS X (.Raise (some (.Call (.Name "Refused" p) [a] [] pos)) none pos2) (tRaiseLow C W ta) := ps_raise hc tk (pmk_low T hr ha hg he hpl)
/-- low.by, low the exception that the suite holds (at a; its class cls, its dict d) -/
def tByLow (C : Addr) (a : Addr) (cls : Value) (d : Option Addr) (te : TE) : TE := fun σ H Q => te σ H fun x H1 => x = .ref a ∧ cls = .ref C ∧ ∃ (dd : Addr) (v : V), d = some dd ∧ H1 dd = some (.xd [(("code" : Str), v)]) ∧ Q v H1
theorem pe_byLow {a : Addr} {oe : Obj} {cls : Value} {d : Option Addr} {pn : List (Addr × Obj)} {e : Expr} {te : TE} {pos : Pos} (T : PySem.LowX.LowTxt X.K X.mg C fI) (hz : Zc cls d oe) (hf : ∃ vs, oe.data = .fields vs) (he : PE (X.suite a ((a, oe) :: pn)) e te)
    (hb : attributeBase e "code" X.env (eval e X.env) = eval e X.env := by rfl) :
    PE (X.suite a ((a, oe) :: pn)) (.Attribute e "code" pos) (tByLow C a cls d te) := by
  refine ⟨fun pins s σ H Q I h => ?_⟩
  refine attr_of hb (thn (he.run pins s σ H _ I h) fun u s1 hh => ?_)
  obtain ⟨x, H1, I1, rx, ex, ec, dd, v, ed, ea, q⟩ := hh
  subst ex
  obtain rfl : u = Value.ref a := rx
  subst ec
  subst ed
  obtain ⟨ha, _⟩ := I1.pin (a, oe) (List.mem_append_left _ List.mem_cons_self)
  obtain ⟨vs, hd⟩ := hf
  have hx : ObjOk X.prog X.w H1 s1.heap dd (.xd [(("code" : Str), v)]) := I1.hok dd _ ea
  obtain ⟨mA, hns, hr⟩ := hx
  obtain ⟨od, ho, hl⟩ := lookIn_ns hns
  have l : List.lookup ("code" : Str) [(("code" : Str), v)] = some v := by simp [List.lookup]
  obtain ⟨u, hu, ru⟩ := RelO.some_of (v := v) (o := mA "code") (by rw [← l]; exact hr "code")
  have J : PySem.W.InstAt s1.heap a oe C (some od) := ⟨ha, hz.1, by unfold PySem.W.notCls; rw [hd] <;> rfl, by rw [hz.2]; exact ho⟩
  exact HandSPX.exc_get I1.kIn J T.ga T.gg T.exC (PySem.W.findObj_own T.hdC T.noN rfl (by rw [hl, hu])) (handed_of ru) ⟨v, H1, I1.tok _, ru, q⟩
end
end L2

namespace L2
open PySem PySem.Spec PyProof.Rows
/-- an if whose test is known -/
theorem if_true_of {c : Bool} {A B : Prop} (hc : c = true) (h : A) : if c = true then A else B := by
  rw [if_pos hc]
  exact h
theorem if_false_of {c : Bool} {A B : Prop} (hc : c = false) (h : B) : if c = true then A else B := by
  rw [hc, if_neg Bool.false_ne_true]
  exact h
end L2
end
/-! ## part ses1 -/
section
set_option Elab.async false
set_option linter.all false
set_option maxRecDepth 100000
set_option maxHeartbeats 4000000
namespace VD
open PySem PySem.Spec PyProof.Rows L2
/-! ### the session -/
def Ss (C : Cs) (H : Hp) (S : Addr) (L : Lay) (w : MW) : Prop := L.tag S = none ∧ (∃ dx, H S = some (.ins C.cS dx (sF L.w))) ∧ Wd C H L w
/-- a refusal by this number may leave -/
def RefE (C : Cs) (E : XK) (H : Hp) (z : Int) : Prop := ∀ d H', Same H H' → H' d = some (.xd [(("code" : Str), V.int z)]) → E (.ref C.cX) (some d) H'
theorem RefE.mono {C : Cs} {E : XK} {H H1 : Hp} {z : Int} (h : RefE C E H z) (s : Same H H1) : RefE C E H1 z := fun d H' s' e => h d H' (s.trans s') e
structure Cst (mg : Str → Option Value) : Prop where
  oor : ∃ t, mg "OUT_OF_RANGE" = some (.int (-1) t)
  nth : ∃ t, mg "NOT_THERE" = some (.int (-2) t)
  nap : ∃ t, mg "NOT_APPLIED" = some (.int (-3) t)
  tmy : ∃ t, mg "TOO_MANY" = some (.int (-5) t)
  mrp : ∃ t, mg "MOST_REPLICAS" = some (.int 6 t)
  mvl : ∃ t, mg "MOST_VALUE" = some (.int 1000000000 t)
  mev : ∃ t, mg "MOST_EVENTS" = some (.int 60 t)
  mms : ∃ t, mg "MOST_MESSAGES" = some (.int 200 t)
  nei : ∃ t, mg "NEITHER" = some (.int 0 t)
  fst : ∃ t, mg "FIRST_AHEAD" = some (.int 1 t)
  snd : ∃ t, mg "SECOND_AHEAD" = some (.int 2 t)
theorem pk {X : Cx} {x : Str} {z : Int} {pos : Pos} (h : ∃ t, X.mg x = some (.int z t)) (hg : Gl X x := by rfl) (hd : (x == ("__debug__" : Str)) = false := by decide) : PE X (.Name x pos) (tC (.int z)) := by
  obtain ⟨t, ht⟩ := h
  exact pe_glob hg ht ⟨t, rfl⟩ hd
abbrev sRefuse : Stmt := topS 41
abbrev sNeed : Stmt := topS 42
abbrev sNeed2 : Stmt := topS 43
abbrev sRoom : Stmt := topS 44
abbrev sNeedM : Stmt := topS 45
abbrev sTold : Stmt := topS 46
def spRefuse (C : Cs) : Sp := fun vs H Q E => ∃ (b : Bool) (z : Int), vs = [.bl b, .int z] ∧ (b = true → RefE C E H z) ∧ (b = false → Q .non H)
def spNeed (C : Cs) : Sp := fun vs H Q E => ∃ (S : Addr) (L : Lay) (w : MW) (k : Nat), vs = [.ref S, nI k] ∧ Ss C H S L w ∧ (w.reps.length ≤ k → RefE C E H (-2)) ∧ (¬ w.reps.length ≤ k → Q .non H)
def spNeed2 (C : Cs) : Sp := fun vs H Q E => ∃ (S : Addr) (L : Lay) (w : MW) (k j : Nat), vs = [.ref S, nI k, nI j] ∧ Ss C H S L w ∧ (w.reps.length ≤ k ∨ w.reps.length ≤ j ∨ k = j → RefE C E H (-2)) ∧ (¬ (w.reps.length ≤ k ∨ w.reps.length ≤ j ∨ k = j) → Q .non H)
def spRoom (C : Cs) : Sp := fun vs H Q E => ∃ (S : Addr) (L : Lay) (w : MW), vs = [.ref S] ∧ Ss C H S L w ∧ (w.msgs.length = 200 → RefE C E H (-5)) ∧ (¬ w.msgs.length = 200 → Q .non H)
def spNeedM (C : Cs) : Sp := fun vs H Q E => ∃ (S : Addr) (L : Lay) (w : MW) (i : Nat), vs = [.ref S, nI i] ∧ Ss C H S L w ∧ (w.msgs[i]? = none → RefE C E H (-2)) ∧ (∀ m a, w.msgs[i]? = some m → MsgAt C L.tag H a m → Q (.ref a) H)
def t_refuse (C : Addr) (E : XK) : TS := tIfS (tB (tVar 0)) (tRaiseLow C (fun cls d _ H => E cls d H) (tCons (tVar 1) tNil)) tNext
section
variable {P : Program} {wo : World} {K : PySem.W.Frag} {mg : Str → Option Value} {base : Heap} {f fX : Addr} {fd : FuncData} {C : Cs}
theorem scRefuse : FnScope ["asked", "code"] ["asked", "code"] (defScope sRefuse) := ⟨rfl, rfl, rfl, by decide +kernel, rfl, by decide +kernel, by decide +kernel⟩
theorem ok_refuse_if (low : PySem.LowX.LowTxt K mg C.cX fX) (F : Fun K "refuse_if" "refuse_if" sRefuse f fd) : FnOk P wo K mg base (L2.CX P wo) 3 f fd ["asked", "code"] (spRefuse C) := by
  refine F.okX scRefuse (fun vs H Q E h => ?_) (fun cdv A outer s H vs Q E hr h => ⟨t_refuse C.cX E, ?_, ?_⟩)
  · obtain ⟨b, z, rfl, _⟩ := h; rfl
  · exact pss_one (ps_if (pt_val (pv 0)) (pss_one (ps_raiseLow rfl low hr (takes_of rfl rfl rfl rfl) (by exact (pa_cons (pv 1) pa_nil)))) pss_nil)
  · obtain ⟨b, z, rfl, h1, h2⟩ := h
    refine ⟨_, rfl, b, rfl, ?_⟩
    cases b with
    | true =>
      refine iteT ⟨_, rfl, _, rfl, fun d hd => ?_⟩
      exact h1 rfl d _ (Same.new hd) upd_same
    | false => exact iteF (h2 rfl)
theorem scNeed : FnScope ["session", "number"] ["session", "number"] (defScope sNeed) := ⟨rfl, rfl, rfl, by decide +kernel, rfl, by decide +kernel, by decide +kernel⟩
theorem ok_need_replica (T : Txt K C) (B : Blt mg) (N : Cst mg) (cR : Cal (L2.CX P wo) P wo K mg base 3 "refuse_if" (spRefuse C)) (F : Fun K "need_replica" "need_replica" sNeed f fd) : FnOk P wo K mg base (L2.CX P wo) 5 f fd ["session", "number"] (spNeed C) := by
  refine F.okX scNeed (fun vs H Q E h => ?_) (fun cdv A outer s H vs Q E hr h => ⟨_, pss_one (ps_expr (pcX (E := E) cR hr (takes_of rfl rfl rfl rfl) (fun _ _ _ _ h => h) (pa_cons (pe_cmpR op_ge (pv 1) (pe_callB call_len_seq (by rfl) B.len PySem.boot_len (pa_cons (pe_fld (pe_fld (pv 0) rfl) rfl) pa_nil)) (nomark _)) (pa_cons (pk N.nth) pa_nil)))), ?_⟩)
  · obtain ⟨S, L, w, k, rfl, _⟩ := h; rfl
  · obtain ⟨S, L, w, k, rfl, ⟨tS, ⟨dS, hS⟩, hW⟩, h1, h2⟩ := h
    obtain ⟨tw, dw, hw⟩ := hW.wd
    have hlen : (L.reps.map fun R => V.ref R.r).length = w.reps.length := by rw [List.length_map, hW.lr]
    refine ⟨_, rfl, _, rfl, S, _, dS, _, _, rfl, hS, T.clS, T.nSw, sF_world _, L.w, _, dw, _, _, rfl, hw, T.clW, T.nWr, wF_replicas L, L.aR, _, rfl, .inl (.of hW.aR.2), _, _, rfl, rfl, _, _, rfl, fun c => h1 ?_, fun c => h2 fun z => ?_⟩
    · have := of_decide_eq_true c
      rw [hlen] at this; omega
    · have := of_decide_eq_false c
      rw [hlen] at this; omega
end
end VD
end
/-! ## part ses2 -/
section
set_option Elab.async false
set_option linter.all false
set_option maxRecDepth 100000
set_option maxHeartbeats 4000000
namespace VD
open PySem PySem.Spec PyProof.Rows L2
abbrev sSeI : Stmt := inClass (topS 40) 0
abbrev sDepends : Stmt := topS 57
def spTold (C : Cs) : Sp := fun vs H Q _ => ∃ (S : Addr) (L : Lay) (w : MW) (es : Addr) (l : List Ev), vs = [.ref S, .ref es] ∧ Ss C H S L w ∧ WF w ∧ Lst (EvAt L.tag H) H es l ∧ (∀ e ∈ l, EvOk w e) ∧ l.length ≤ 60 ∧ NewL H Q ((told3 w l).map V.int)
def spDepends (C : Cs) : Sp := fun vs H Q _ => ∃ (S : Addr) (L : Lay) (w : MW) (ta tb : Addr) (a b : Ev), vs = [.ref S, .ref ta, .ref tb] ∧ Ss C H S L w ∧ WF w ∧ H ta = some (.tup [nI a.1, nI a.2]) ∧ H tb = some (.tup [nI b.1, nI b.2]) ∧ EvOk w a ∧ EvOk w b ∧ Q (.bl (dep w a b)) H
def spSeI (C : Cs) : Sp := fun vs H Q _ => ∃ (p dx : Addr), vs = [.ref p] ∧ H p = some (.ins C.cS dx []) ∧ ∀ H' L, Ss C H' p L (mkW 1) → (∀ b, L.tag b ≠ none → H b = none) → (∀ b o, b ≠ p → H b = some o → H' b = some o) → Q .non H'
theorem flat3 (g : Ev → Int) : ∀ l : List Ev, (l.flatMap fun e => [(e.1 : Int), (e.2 : Int), g e]).length = l.length * 3
  | [] => rfl
  | e :: l => by
    have ih := flat3 g l
    rw [List.flatMap_cons, List.length_append, ih]
    show 3 + l.length * 3 = (l.length + 1) * 3
    omega
/-- a new world, its address stored elsewhere -/
theorem world_at {C : Cs} {H H1 H2 : Hp} {x : Addr} {L : Lay} {w : MW} (h : Wd C (rsP H x H1) L w) (hx : ∀ o, H1 x = some o → H2 x = some o) (k : ∀ b o, H b = none → H1 b = some o → H2 b = some o) : Wd C H2 L w := by
  refine h.same fun b o e => ?_
  unfold rsP at e
  by_cases c : b = x
  · rw [if_pos c] at e
    rw [c] at e ⊢
    exact hx o e
  · rw [if_neg c] at e
    obtain ⟨y, z⟩ := rs0_of e
    exact k b o y z
section
variable {P : Program} {wo : World} {K : PySem.W.Frag} {mg : Str → Option Value} {base : Heap} {f fX : Addr} {fd : FuncData} {C : Cs}
theorem scNeed2 : FnScope ["session", "one", "other"] ["session", "one", "other"] (defScope sNeed2) := ⟨rfl, rfl, rfl, by decide +kernel, rfl, by decide +kernel, by decide +kernel⟩
theorem ok_need_two (N : Cst mg) (cR : Cal (L2.CX P wo) P wo K mg base 3 "refuse_if" (spRefuse C)) (cN : Cal (L2.CX P wo) P wo K mg base 5 "need_replica" (spNeed C)) (F : Fun K "need_two" "need_two" sNeed2 f fd) : FnOk P wo K mg base (L2.CX P wo) 7 f fd ["session", "one", "other"] (spNeed2 C) := by
  refine F.okX scNeed2 (fun vs H Q E h => ?_) (fun cdv A outer s H vs Q E hr h => ⟨_, pss_cons (ps_expr (pcX (E := E) cN hr (takes_of rfl rfl rfl rfl) (fun _ _ _ _ h => h) (pa_cons (pv 0) (pa_cons (pv 1) pa_nil))))
    (pss_cons (ps_expr (pcX (E := E) cN hr (takes_of rfl rfl rfl rfl) (fun _ _ _ _ h => h) (pa_cons (pv 0) (pa_cons (pv 2) pa_nil))))
    (pss_one (ps_expr (pcX (E := E) cR hr (takes_of rfl rfl rfl rfl) (fun _ _ _ _ h => h) (pa_cons (pe_cmpR op_eq (pv 1) (pv 2) (nomark _)) (pa_cons (pk N.nth) pa_nil)))))), ?_⟩)
  · obtain ⟨S, L, w, k, j, rfl, _⟩ := h; rfl
  · obtain ⟨S, L, w, k, j, rfl, hS, h1, h2⟩ := h
    refine ⟨_, rfl, _, rfl, S, L, w, k, rfl, hS, fun c => h1 (.inl c), fun c1 => ?_⟩
    refine ⟨_, rfl, _, rfl, S, L, w, j, rfl, hS, fun c => h1 (.inr (.inl c)), fun c2 => ?_⟩
    refine ⟨_, rfl, _, rfl, rfl, _, _, rfl, fun c => h1 (.inr (.inr ?_)), fun c => h2 fun z => ?_⟩
    · have := of_decide_eq_true c
      injection this with z
      omega
    · rcases z with z | z | z
      · exact c1 z
      · exact c2 z
      · exact of_decide_eq_false c (by rw [z])
theorem scRoom : FnScope ["session"] ["session"] (defScope sRoom) := ⟨rfl, rfl, rfl, by decide +kernel, rfl, by decide +kernel, by decide +kernel⟩
theorem ok_need_room (T : Txt K C) (B : Blt mg) (N : Cst mg) (cR : Cal (L2.CX P wo) P wo K mg base 3 "refuse_if" (spRefuse C)) (F : Fun K "need_room" "need_room" sRoom f fd) : FnOk P wo K mg base (L2.CX P wo) 5 f fd ["session"] (spRoom C) := by
  refine F.okX scRoom (fun vs H Q E h => ?_) (fun cdv A outer s H vs Q E hr h => ⟨_, pss_one (ps_expr (pcX (E := E) cR hr (takes_of rfl rfl rfl rfl) (fun _ _ _ _ h => h) (pa_cons (pe_cmpR op_eq (pe_callB call_len_seq (by rfl) B.len PySem.boot_len (pa_cons (pe_fld (pe_fld (pv 0) rfl) rfl) pa_nil)) (pk N.mms) (nomark _)) (pa_cons (pk N.tmy) pa_nil)))), ?_⟩)
  · obtain ⟨S, L, w, rfl, _⟩ := h; rfl
  · obtain ⟨S, L, w, rfl, ⟨tS, ⟨dS, hS⟩, hW⟩, h1, h2⟩ := h
    obtain ⟨tw, dw, hw⟩ := hW.wd
    obtain ⟨xs, hx, hl⟩ := hW.msg.len
    refine ⟨_, rfl, S, _, dS, _, _, rfl, hS, T.clS, T.nSw, sF_world _, L.w, _, dw, _, _, rfl, hw, T.clW, T.nWm, wF_messages L, L.aM, _, rfl, .inl (.of hx), rfl, _, _, rfl, fun c => h1 ?_, fun c => h2 fun z => ?_⟩
    · have := of_decide_eq_true c
      injection this with z
      rw [hl] at z; omega
    · exact of_decide_eq_false c (by rw [hl, z]; rfl)
theorem scNeedM : FnScope ["session", "number"] ["session", "number"] (defScope sNeedM) := ⟨rfl, rfl, rfl, by decide +kernel, rfl, by decide +kernel, by decide +kernel⟩
theorem ok_need_message (T : Txt K C) (B : Blt mg) (N : Cst mg) (cR : Cal (L2.CX P wo) P wo K mg base 3 "refuse_if" (spRefuse C)) (F : Fun K "need_message" "need_message" sNeedM f fd) : FnOk P wo K mg base (L2.CX P wo) 5 f fd ["session", "number"] (spNeedM C) := by
  refine F.okX scNeedM (fun vs H Q E h => ?_) (fun cdv A outer s H vs Q E hr h => ⟨_, pss_cons (ps_expr (pcX (E := E) cR hr (takes_of rfl rfl rfl rfl) (fun _ _ _ _ h => h) (pa_cons (pe_cmpR op_ge (pv 1) (pe_callB call_len_seq (by rfl) B.len PySem.boot_len (pa_cons (pe_fld (pe_fld (pv 0) rfl) rfl) pa_nil)) (nomark _)) (pa_cons (pk N.nth) pa_nil))))
    (pss_one (ps_ret (pe_ix ix_list (pe_fld (pe_fld (pv 0) rfl) rfl) (pv 1) (fun _ _ => rfl)))), ?_⟩)
  · obtain ⟨S, L, w, i, rfl, _⟩ := h; rfl
  · obtain ⟨S, L, w, i, rfl, ⟨tS, ⟨dS, hS⟩, hW⟩, h1, h2⟩ := h
    obtain ⟨tw, dw, hw⟩ := hW.wd
    obtain ⟨xs, hx, hl⟩ := hW.msg.len
    refine ⟨_, rfl, _, rfl, S, _, dS, _, _, rfl, hS, T.clS, T.nSw, sF_world _, L.w, _, dw, _, _, rfl, hw, T.clW, T.nWm, wF_messages L, L.aM, _, rfl, .inl (.of hx), _, _, rfl, rfl, _, _, rfl, fun c => h1 ?_, fun c => ?_⟩
    · have := of_decide_eq_true c
      rw [hl] at this
      exact List.getElem?_eq_none (by omega)
    · have hi : i < w.msgs.length := by
        have := of_decide_eq_false c
        rw [hl] at this; omega
      obtain ⟨ys, b, hy1, hy2, hy3⟩ := hW.msg.at_ (List.getElem?_eq_getElem hi)
      exact ⟨_, rfl, S, _, dS, _, _, rfl, hS, T.clS, T.nSw, sF_world _, L.w, _, dw, _, _, rfl, hw, T.clW, T.nWm, wF_messages L, _, rfl, L.aM, ys, (i : Int), .ref b, rfl, rfl, .of hy1, atI_nat hy2, h2 _ b (List.getElem?_eq_getElem hi) hy3⟩
theorem scTold : FnScope ["session", "events", "found", "event"] ["session", "events"] (defScope sTold) := ⟨rfl, rfl, rfl, by decide +kernel, rfl, by decide +kernel, by decide +kernel⟩
theorem ok_told_events (T : Txt K C) (B : Blt mg) (cE : Cal CX0 P wo K mg base 1 "event_of" (spEventOf C)) (F : Fun K "told_events" "told_events" sTold f fd) : FnOk P wo K mg base CX0 3 f fd ["session", "events"] (spTold C) := by
  refine F.ok scTold (fun vs H Q E h => ?_) (fun cdv A outer s H vs Q E hr h => ?_)
  · obtain ⟨S, L, w, es, l, rfl, _⟩ := h; rfl
  · refine ⟨_, pss_cons (ps_set (i := 2) scTold.nd rfl (.inl rfl) (pe_lst (pa_cons (pe_callB call_len_seq (by rfl) B.len PySem.boot_len (pa_cons (pv 1) pa_nil)) pa_nil)))
      (pss_cons (ps_for PassesOwn.never rfl (pi_list (pv 1)) (pg_name (i := 3) scTold.nd rfl (.inl rfl))
        (pss_one (ps_expr (pe_bm PySem.F.plainAttrs_list PySem.F.slot_list_extend PySem.F.type_list_extend mt_extend (pv 2)
          (pa_cons (pe_lst (pa_cons (pe_ix ix_tup (pv 3) pe_int (fun _ _ => rfl)) (pa_cons (pe_ix ix_tup (pv 3) pe_int (fun _ _ => rfl)) (pa_cons (pe_fld (pc cE hr (pa_cons (pe_fld (pv 0) rfl) (pa_cons (pv 3) pa_nil))) rfl) pa_nil)))) pa_nil)))))
      (pss_one (ps_ret (pv 2)))), ?_⟩
    obtain ⟨S, L, w, es, l, rfl, ⟨tS, ⟨dS, hS⟩, hW⟩, wf, hes, hok, hl6, q⟩ := h
    obtain ⟨ps, eps, hps, hev⟩ := hes
    have hpl : ps.length = l.length := by rw [eps, List.length_map]
    refine ⟨_, rfl, es, _, rfl, .inl (.of hps), (by show 1 ≤ sizeLine; decide), fun fa hfa => ?_⟩
    have s1 : Same H (upd H fa (.lst [.int ((ps.map fun p => V.ref p.1).length : Nat)])) := Same.new hfa
    refine ⟨_, rfl, es, rfl, ⟨_, .of (s1 _ _ hps)⟩, for_list (K := K) (a := es) (xs := ps.map fun p => V.ref p.1) (fun i σ H' => ∃ v : Option V, σ = [some (.ref S), some (.ref es), some (.ref fa), v] ∧ Same H H' ∧
        H' fa = some (.lst (((l.length : Int) :: (l.take i).flatMap fun e => [(e.1 : Int), (e.2 : Int), ((w.ev e).val : Int)]).map V.int))) ⟨none, rfl, s1, ?_⟩ (fun i σ H' _ ⟨_, _, s5, _⟩ => .of (s5 _ _ hps)) ?_ ?_⟩
    · rw [upd_same, List.length_map, hpl]; rfl
    · rintro i x σ H' hi ⟨v, rfl, s5, hf⟩
      obtain ⟨p, hp, rfl⟩ := map_at hi
      have hpm := List.mem_of_getElem? hp
      have hpe := hev p hpm
      have hok' : EvOk w p.2 := hok p.2 (by rw [eps]; exact List.mem_map.mpr ⟨p, hpm, rfl⟩)
      have hW5 := hW.same s5
      have hi2 : i < 60 := by
        have := (List.getElem?_eq_some_iff.mp hp).1
        omega
      refine ⟨_, rfl, .inl ⟨rfl, _, .of hf⟩, _, rfl, p.1, _, 0, _, rfl, rfl, .of (s5 _ _ hpe.2), rfl, _, rfl, p.1, _, 1, _, rfl, rfl, .of (s5 _ _ hpe.2), rfl,
        _, rfl, S, _, dS, _, _, rfl, s5 _ _ hS, T.clS, T.nSw, sF_world _, _, rfl, L, w, p.1, p.2, rfl, hW5, s5 _ _ hpe.2, wf.rl, hok', fun a ha => ?_⟩
      obtain ⟨ta, da, nv, ha1, hnv⟩ := ha
      refine ⟨a, _, da, _, _, rfl, ha1, T.clE, T.nEv, eF_value _ _, (by show 3 ≤ sizeLine; decide), fun b hb => ?_⟩
      have fb : fa ≠ b := ne_of_none hf hb
      refine ⟨fa, b, _, _, rfl, rfl, (upd_ne fb).trans hf, upd_same, ?_, ⟨_, rfl, fun c o e => ?_, ?_⟩⟩
      · rw [List.length_map, List.length_cons]
        rw [flat3 (fun e => ((w.ev e).val : Int)), List.length_take]
        show min i l.length * 3 + 1 + 3 ≤ sizeLine
        exact sz_small (by omega)
      · rw [upd_ne (ne_of_none e hfa), upd_ne (ne_of_none (s5 _ _ e) hb)]; exact s5 _ _ e
      · have ei : l[i]? = some p.2 := by rw [eps, List.getElem?_map, hp]; rfl
        rw [upd_same, List.take_succ, ei, List.flatMap_append, List.map_cons, List.map_cons, List.map_append]; rfl
    · rintro σ H' ⟨v, rfl, s5, hf⟩
      refine ⟨_, rfl, q fa H' hfa s5 ?_⟩
      rw [hf, List.length_map, hpl, List.take_length]; rfl
theorem scDepends : FnScope ["session", "one", "other"] ["session", "one", "other"] (defScope sDepends) := ⟨rfl, rfl, rfl, by decide +kernel, rfl, by decide +kernel, by decide +kernel⟩
theorem ok_depends (T : Txt K C) (cE : Cal CX0 P wo K mg base 1 "event_of" (spEventOf C)) (cI : Cal CX0 P wo K mg base 1 "is_in" spIsIn) (F : Fun K "depends" "depends" sDepends f fd) : FnOk P wo K mg base CX0 3 f fd ["session", "one", "other"] (spDepends C) := by
  refine F.ok scDepends (fun vs H Q E h => ?_) (fun cdv A outer s H vs Q E hr h => ?_)
  · obtain ⟨S, L, w, ta, tb, a, b, rfl, _⟩ := h; rfl
  · refine ⟨_, pss_one (ps_ret (pc cI hr (pa_cons (pv 2) (pa_cons (pe_fld (pc cE hr (pa_cons (pe_fld (pv 0) rfl) (pa_cons (pv 1) pa_nil))) rfl) pa_nil)))), ?_⟩
    obtain ⟨S, L, w, ta, tb, a, b, rfl, ⟨tS, ⟨dS, hS⟩, hW⟩, wf, h1, h2, ha, hb, q⟩ := h
    refine ⟨_, rfl, _, rfl, S, _, dS, _, _, rfl, hS, T.clS, T.nSw, sF_world _, _, rfl, L, w, ta, a, rfl, hW, h1, wf.rl, ha, fun x hx => ?_⟩
    obtain ⟨tx, dx, nv, hx1, hnv⟩ := hx
    exact ⟨x, _, dx, _, _, rfl, hx1, T.clE, T.nEn, eF_needs _ _, tb, nv, b, _, rfl, h2, hnv.2, by rw [(wf.need a ha).len]; exact hb.r, q⟩
theorem scSeI : FnScope ["self"] ["self"] (defScope sSeI) := ⟨rfl, rfl, rfl, by decide +kernel, rfl, by decide +kernel, by decide +kernel⟩
theorem ok_session_init (T : Txt K C) (cW : Mak P wo K mg base 6 "World" C.cW (spWoI C)) (F : Fun K "__init__" "Session.__init__" sSeI f fd) : FnOk P wo K mg base CX0 8 f fd ["self"] (spSeI C) := by
  refine F.ok scSeI (fun vs H Q E h => ?_) (fun cdv A outer s H vs Q E hr h => ?_)
  · obtain ⟨p, dx, rfl, _⟩ := h; rfl
  · refine ⟨_, pss_one (ps_fld (pv 0) (pmk cW hr (pa_cons pe_int pa_nil)) rfl), ?_⟩
    obtain ⟨p, dx, rfl, hp, q⟩ := h
    intro x dx2 nx nd ne
    have px : p ≠ x := ne_of_none hp nx
    have hp2 : upd (upd H dx2 (.own x)) x (.ins C.cW dx2 []) p = some (.ins C.cS dx []) := by rw [upd_ne px, upd_ne (ne_of_none hp nd)]; exact hp
    refine ⟨x, dx2, 1, rfl, by decide, by decide, upd_same, fun H1 L hLw hW ht hk => ⟨rfl, ?_⟩⟩
    refine ⟨_, rfl, p, _, dx, _, rfl, hk _ _ px hp2, T.clS, T.nSw, (by show 0 < 1000; decide), ?_⟩
    have tp : L.tag p = none := by
      cases e : L.tag p with
      | none => rfl
      | some y =>
        have := ht p (by rw [e]; simp)
        rw [hp2] at this; cases this
    refine q _ L ⟨tp, ⟨dx, by rw [upd_same, hLw]; rfl⟩, world_at hW (fun o e => by rw [upd_ne px.symm]; exact e) fun b o hb e => ?_⟩ (fun b hb => ?_) (fun b o c e => ?_)
    · rw [upd_ne (fun z => by rw [z, hp2] at hb; cases hb)]; exact e
    · have := ht b hb
      cases z : H b with
      | none => rfl
      | some o =>
        rw [upd_ne (ne_of_none z nx), upd_ne (ne_of_none z nd)] at this
        rw [this] at z; cases z
    · rw [upd_ne c]
      exact hk b o (ne_of_none e nx) (by rw [upd_ne (ne_of_none e nx), upd_ne (ne_of_none e nd)]; exact e)
end
end VD
end
/-! ## part deed0 -/
section
set_option Elab.async false
set_option linter.all false
set_option maxRecDepth 100000
set_option maxHeartbeats 4000000
namespace VD
open PySem PySem.Spec PyProof.Rows L2
open Sq32 (Call)
section
variable {C : Cs} {T T' : Tags} {H H' : Hp} {a : Addr}
theorem InfoAt.keepT {i : EvI} (k : KeepT T T' H H') (h : InfoAt C T H a i) : InfoAt C T' H' a i := by
  obtain ⟨t, dx, v, h1, h2⟩ := h
  obtain ⟨t', h1'⟩ := k _ _ t h1
  exact ⟨t', dx, v, h1', h2.keepT k⟩
theorem MsgAt.keepT {m : MG} (k : KeepT T T' H H') (h : MsgAt C T H a m) : MsgAt C T' H' a m := by
  obtain ⟨t, dx, v, es, h1, h2, h3⟩ := h
  obtain ⟨t', h1'⟩ := k _ _ t h1
  exact ⟨t', dx, v, es, h1', h2.keepT k, h3.keepT k⟩
end
/-- the world seen in another heap, under other tags; strangers may change -/
theorem Wd.move {C : Cs} {H H' : Hp} {L : Lay} {w : MW} {T' : Tags} (h : Wd C H L w) (k : ∀ b o, L.tag b ≠ some (9, 9) → H b = some o → T' b = L.tag b ∧ H' b = some o) (tk : ∀ b, T' b ≠ none → H' b ≠ none) : Wd C H' { L with tag := T' } w := by
  have kT : KeepT L.tag T' H H' := fun b o t e => by
    obtain ⟨x, y⟩ := k b o (by rw [t]; simp) e
    exact ⟨x.trans t, y⟩
  have tg : ∀ b x, L.tag b = some x → x ≠ (9, 9) → T' b = some x := fun b x t n => by
    cases q : H b with
    | none => exact absurd q (h.tk b (by rw [t]; simp))
    | some o => exact ((k b o (by rw [t]; simpa using n) q).1).trans t
  have kO : ∀ b x, L.tag b = some x → x ≠ (9, 9) → ∀ o, H b = some o → H' b = some o := fun b x t n o e => (k b o (by rw [t]; simpa using n) e).2
  obtain ⟨tw, dx, hw⟩ := h.wd
  refine ⟨tg _ _ h.tM (by decide), fun i a e => tg _ _ (h.tE i a e) (by simp), fun i R e => ?_, ⟨(kT _ _ tw hw).1, dx, (kT _ _ tw hw).2⟩, kT _ _ h.aR.1 h.aR.2, kT _ _ h.aE.1 h.aE.2, h.msg.imp (fun _ _ q => q.keepT kT) (kO _ _ h.tM (by decide)), h.lr, h.le,
    fun i R m e1 e2 => ?_, fun i a es e1 e2 => (h.row i a es e1 e2).imp (fun _ _ q => q.keepT kT) (kO _ _ (h.tE i a e1) (by simp)), tk⟩
  · obtain ⟨x, y, z⟩ := h.tR i R e
    exact ⟨tg _ _ x (by simp), tg _ _ y (by simp), tg _ _ z (by simp)⟩
  · obtain ⟨x, y, z⟩ := h.tR i R e1
    exact (h.rep i R m e1 e2).keepT kT (kO _ _ x (by simp)) (kO _ _ y (by simp)) (kO _ _ z (by simp))
/-- behind an operation -/
structure After (C : Cs) (H H' : Hp) (S : Addr) (L L' : Lay) (w' : MW) : Prop where
  ss : Ss C H' S L' w'
  kp : ∀ b o, b ≠ S → L.tag b = none → H b = some o → H' b = some o ∧ L'.tag b = none
  kf : ∀ b o, L.tag b = some (9, 9) → H b = some o → H' b = some o ∧ L'.tag b = some (9, 9)
  up : ∀ b, H' b = none → H b = none
section
variable {C : Cs} {H H' : Hp} {S p : Addr} {L L' : Lay} {w w' : MW}
theorem Ss.same (s : Same H H') (h : Ss C H S L w) : Ss C H' S L w := by
  obtain ⟨t, ⟨dx, hS⟩, hW⟩ := h
  exact ⟨t, ⟨dx, s _ _ hS⟩, hW.same s⟩
theorem After.keep (h : Ss C H S L w) (k : Keep L.tag H H') (hW : Wd C H' L w') : After C H H' S L L w' := by
  obtain ⟨t, ⟨dx, hS⟩, hW0⟩ := h
  refine ⟨⟨t, ⟨dx, k _ _ t hS⟩, hW⟩, fun b o _ tb e => ⟨k _ _ tb e, tb⟩, fun b o tb e => ⟨k.fo _ _ tb e, tb⟩, fun b hb => ?_⟩
  cases q : H b with
  | none => rfl
  | some o =>
    cases tb : L.tag b with
    | none => rw [k _ _ tb q] at hb; cases hb
    | some x => exact absurd hb (hW.tk b (by rw [tb]; simp))
theorem After.same (h : Ss C H S L w) (s : Same H H') : After C H H' S L L w := After.keep h (Keep.of s) (h.2.2.same s)
theorem After.new (h : After C H H' S L L' w') {o : HO} (hp : H' p = none) : After C H (upd H' p o) S L L' w' := by
  have s : Same H' (upd H' p o) := Same.new hp
  refine ⟨h.ss.same s, fun b u c t e => ?_, fun b u t e => ?_, fun b hb => h.up b (s.free hb)⟩
  · obtain ⟨x, y⟩ := h.kp b u c t e
    exact ⟨s _ _ x, y⟩
  · obtain ⟨x, y⟩ := h.kf b u t e
    exact ⟨s _ _ x, y⟩
end
/-- the answer's way: the state and the list that the mirror says -/
def Done (C : Cs) (Q : VK) (H : Hp) (S : Addr) (L : Lay) (w : MW) (c : Call) : Prop :=
  ∀ (p : Addr) (H' : Hp) (L' : Lay), After C H H' S L L' (stepM w c).1 → H p = none → H' p = some (.lst ((stepM w c).2.map V.int)) → Q (.ref p) H'
def spDeed (C : Cs) (n : Nat) : Sp := fun vs H Q E => ∃ (c : Call) (S g : Addr) (L : Lay) (w : MW), opNo c = n ∧ vs = [.ref S, .ref g] ∧ Ss C H S L w ∧ WF w ∧ H g = some (.lst ((argsOf c).map nI)) ∧ L.tag g = none ∧
  (∀ z, stepM w c = (w, [z]) → RefE C E H z) ∧ Done C Q H S L w c
theorem Done.at {C : Cs} {Q : VK} {H H' : Hp} {S p : Addr} {L L' : Lay} {w w' : MW} {c : Call} {out : List Int} (h : Done C Q H S L w c) (e : stepM w c = (w', out)) (a : After C H H' S L L' w') (hp : H' p = none) {xs : List V} (ex : xs = out.map V.int) : Q (.ref p) (upd H' p (.lst xs)) := by
  refine h p _ L' ?_ (a.up p hp) ?_
  · rw [e]; exact a.new hp
  · rw [e, ex]; exact upd_same
end VD
end
/-! ## part deed1 -/
section
set_option Elab.async false
set_option linter.all false
set_option maxRecDepth 100000
set_option maxHeartbeats 4000000
namespace VD
open PySem PySem.Spec PyProof.Rows L2
open Sq32 (Call)
section
variable {P : Program} {wo : World} {K : PySem.W.Frag} {mg : Str → Option Value} {base : Heap} {f fX : Addr} {fd : FuncData} {C : Cs}
abbrev sBegin : Stmt := topS 47
theorem scBegin : FnScope ["session", "given"] ["session", "given"] (defScope sBegin) := ⟨rfl, rfl, rfl, by decide +kernel, rfl, by decide +kernel, by decide +kernel⟩
theorem ok_begin (T : Txt K C) (B : Blt mg) (N : Cst mg) (cR : Cal (L2.CX P wo) P wo K mg base 3 "refuse_if" (spRefuse C)) (cW : Mak P wo K mg base 6 "World" C.cW (spWoI C)) (F : Fun K "begin" "begin" sBegin f fd) : FnOk P wo K mg base (L2.CX P wo) 12 f fd ["session", "given"] (spDeed C 1) := by
  refine F.okX scBegin (fun vs H Q E h => ?_) (fun cdv A outer s H vs Q E hr h => ⟨_, pss_cons (ps_expr (pcX (E := E) cR hr (takes_of rfl rfl rfl rfl) (fun _ _ _ _ h => h) (pa_cons (pe_not (pe_chain op_le op_le pe_int (pe_ix ix_list (pv 1) pe_int (fun _ _ => rfl)) (pk N.mrp))) (pa_cons (pk N.oor) pa_nil))))
      (pss_cons (ps_fld (pv 0) (pmk cW hr (pa_cons (pe_ix ix_list (pv 1) pe_int (fun _ _ => rfl)) pa_nil)) rfl) (pss_one (ps_ret (pe_lst (pa_cons pe_int pa_nil))))), ?_⟩)
  · obtain ⟨c, S, g, L, w, _, rfl, _⟩ := h; rfl
  · obtain ⟨c, S, g, L, w, hn, rfl, hSs, wf, hg, tg, hE, hd⟩ := h
    cases c <;> first | cases hn | skip
    rename_i n
    obtain ⟨tS, ⟨dS, hS⟩, hW⟩ := id hSs
    have bad : ¬ (1 ≤ n ∧ n ≤ 6) → RefE C E H (-1) := fun z => hE _ (st_begin0 z)
    refine ⟨_, rfl, g, _, 0, _, rfl, rfl, .of (hg), rfl, _, _, rfl, rfl, _, rfl, ite2 (fun c1 => ?_) (fun c1 => ?_)⟩
    · have h1 : 1 ≤ n := by
        have := of_decide_eq_true c1
        omega
      refine ⟨_, _, rfl, rfl, _, rfl, _, _, rfl, fun c => bad fun z => ?_, fun c => ?_⟩
      · have : decide ((n : Int) ≤ 6) = false := by simpa using c
        have := of_decide_eq_false this
        omega
      have h6 : n ≤ 6 := by
        have : decide ((n : Int) ≤ 6) = true := by simpa using c
        have := of_decide_eq_true this
        omega
      refine ⟨_, rfl, g, _, 0, _, rfl, rfl, .of (hg), rfl, fun x dx2 nx nd ne => ?_⟩
      have hold : ∀ b o, H b = some o → upd (upd H dx2 (.own x)) x (.ins C.cW dx2 []) b = some o := fun b o e => by rw [upd_ne (ne_of_none e nx), upd_ne (ne_of_none e nd)]; exact e
      refine ⟨x, dx2, n, rfl, h1, h6, upd_same, fun H1 L' hLw hW' ht hk => ⟨rfl, ?_⟩⟩
      have Sx : S ≠ x := ne_of_none hS nx
      refine ⟨_, rfl, S, _, dS, _, rfl, hk _ _ Sx (hold _ _ hS), T.clS, T.nSw, (by show 1 < 1000; decide), (by show 1 ≤ sizeLine; decide), fun p hp => ?_⟩
      have tno : ∀ b o, H b = some o → L'.tag b = none := fun b o e => by
        cases q : L'.tag b with
        | none => rfl
        | some y =>
          have := ht b (by rw [q]; simp)
          rw [hold b o e] at this; cases this
      have kp : ∀ b o, b ≠ S → H b = some o → upd H1 S (.ins C.cS dS (putF "world" (.ref x) (sF L.w))) b = some o := fun b o c e => by
        rw [upd_ne c]; exact hk b o (ne_of_none e nx) (hold b o e)
      have tS9 : ∀ b, L.tag b = some (9, 9) → H b ≠ none := fun b t => hW.tk b (by rw [t]; simp)
      refine hd.at (L' := { L' with tag := fun b => if L.tag b = some (9, 9) then some (9, 9) else L'.tag b }) (st_begin ⟨h1, h6⟩) ⟨⟨?_, ⟨dS, by rw [upd_same, hLw]; exact congrArg (fun q => some (HO.ins C.cS dS q)) (sF_set L.w x)⟩, hW'.move (fun b o _ e => ?_) fun b tb => ?_⟩, fun b o c t e => ⟨kp b o c e, ?_⟩, fun b o t e => ⟨kp b o (fun z => by rw [z, tS] at t; cases t) e, if_pos t⟩, fun b hb => ?_⟩ hp rfl
      · exact (if_neg (by rw [tS]; simp)).trans (tno S _ hS)
      · have e' := e
        unfold rsP at e'
        split at e'
        · rename_i c
          subst c
          refine ⟨if_neg (fun t => tS9 _ t nx), ?_⟩
          rw [upd_ne Sx.symm]; exact e'
        · rename_i c
          obtain ⟨y1, y2⟩ := rs0_of e'
          have hb0 : H b = none := by
            cases q : H b with
            | none => rfl
            | some o2 => rw [hold b o2 q] at y1; cases y1
          refine ⟨if_neg (fun t => tS9 _ t hb0), ?_⟩
          rw [upd_ne (fun z => by rw [z, hS] at hb0; cases hb0)]; exact y2
      · by_cases c : L.tag b = some (9, 9)
        · cases q : H b with
          | none => exact absurd q (tS9 b c)
          | some o =>
            rw [kp b o (fun z => by rw [z, tS] at c; cases c) q]; simp
        · have tb' : L'.tag b ≠ none := fun z => tb ((if_neg c).trans z)
          have hb0 := ht b tb'
          have := hW'.tk b tb'
          rw [upd_ne (fun z => by rw [z, hold _ _ hS] at hb0; cases hb0)]
          intro z
          apply this
          unfold rsP
          split
          · exact z
          · rw [rs0_new hb0]; exact z
      · exact (if_neg (by rw [t]; simp)).trans (tno b _ e)
      · cases q : H b with
        | none => rfl
        | some o =>
          by_cases c : b = S
          · rw [c, upd_same] at hb; cases hb
          · rw [kp b o c q] at hb; cases hb
    · refine ⟨_, rfl, _, _, rfl, fun _ => bad fun z => c1 (decide_eq_true (by omega)), fun c => ?_⟩
      exact absurd c (by decide)
abbrev sCreate : Stmt := topS 48
theorem scCreate : FnScope ["session", "given"] ["session", "given"] (defScope sCreate) := ⟨rfl, rfl, rfl, by decide +kernel, rfl, by decide +kernel, by decide +kernel⟩
theorem ok_create (T : Txt K C) (B : Blt mg) (N : Cst mg) (cR : Cal (L2.CX P wo) P wo K mg base 3 "refuse_if" (spRefuse C)) (cN : Cal (L2.CX P wo) P wo K mg base 5 "need_replica" (spNeed C)) (cM : Cal CX0 P wo K mg base 1 "many_events" (spMany C)) (cC : Cal CX0 P wo K mg base 5 "create_event" (spCreateE C)) (F : Fun K "create" "create" sCreate f fd) : FnOk P wo K mg base (L2.CX P wo) 12 f fd ["session", "given"] (spDeed C 2) := by
  refine F.okX scCreate (fun vs H Q E h => ?_) (fun cdv A outer s H vs Q E hr h => ⟨_, pss_cons (ps_expr (pcX (E := E) cN hr (takes_of rfl rfl rfl rfl) (fun _ _ _ _ h => h) (pa_cons (pv 0) (pa_cons (pe_ix ix_list (pv 1) pe_int (fun _ _ => rfl)) pa_nil))))
      (pss_cons (ps_expr (pcX (E := E) cR hr (takes_of rfl rfl rfl rfl) (fun _ _ _ _ h => h) (pa_cons (pe_cmpR op_gt (pe_ix ix_list (pv 1) pe_int (fun _ _ => rfl)) (pk N.mvl) (nomark _)) (pa_cons (pk N.oor) pa_nil))))
      (pss_cons (ps_expr (pcX (E := E) cR hr (takes_of rfl rfl rfl rfl) (fun _ _ _ _ h => h) (pa_cons (pe_cmpR op_eq (pc cM hr (pa_cons (pe_fld (pv 0) rfl) pa_nil)) (pk N.mev) (nomark _)) (pa_cons (pk N.tmy) pa_nil))))
      (pss_one (ps_ret (pe_lst (pa_cons (pc cC hr (pa_cons (pe_fld (pv 0) rfl) (pa_cons (pe_ix ix_list (pv 1) pe_int (fun _ _ => rfl)) (pa_cons (pe_ix ix_list (pv 1) pe_int (fun _ _ => rfl)) pa_nil)))) pa_nil)))))), ?_⟩)
  · obtain ⟨c, S, g, L, w, _, rfl, _⟩ := h; rfl
  · obtain ⟨c, S, g, L, w, hn, rfl, hSs, wf, hg, tg, hE, hd⟩ := h
    cases c <;> first | cases hn | skip
    rename_i k v
    obtain ⟨tS, ⟨dS, hS⟩, hW⟩ := id hSs
    refine ⟨_, rfl, _, rfl, g, _, 0, _, rfl, rfl, .of (hg), rfl, S, L, w, k, rfl, hSs, fun c => hE _ (st_does1 c), fun c1 => ?_⟩
    refine ⟨_, rfl, g, _, 1, _, rfl, rfl, .of (hg), rfl, _, _, rfl, rfl, _, _, rfl, fun c => hE _ (st_does2 c1 ?_), fun c => ?_⟩
    · have := of_decide_eq_true c
      omega
    have c2 : ¬ 1000000000 < v := by
      have := of_decide_eq_false c
      omega
    refine ⟨_, rfl, S, _, dS, _, _, rfl, hS, T.clS, T.nSw, sF_world _, L, w, rfl, hW, by have := wf.rl; have := wf.n6; omega, fun H1 s1 => ?_⟩
    refine ⟨rfl, _, _, rfl, fun c => (hE _ (st_does3 c1 c2 ?_)).mono s1, fun c => ?_⟩
    · have := of_decide_eq_true c
      injection this with z
      omega
    have c3 : ¬ w.many = 60 := fun z => of_decide_eq_false c (by rw [z]; rfl)
    have hg1 := s1 _ _ hg
    have ht := wf.tot
    refine ⟨_, rfl, S, _, dS, _, _, rfl, s1 _ _ hS, T.clS, T.nSw, sF_world _, _, rfl, g, _, 0, _, rfl, rfl, .of (hg1), rfl, _, rfl, g, _, 1, _, rfl, rfl, .of (hg1), rfl, L, w, k, v, rfl, hW.same s1, wf, by omega, by omega, fun H2 k2 hW2 => ?_⟩
    exact ⟨(by show 1 ≤ sizeLine; decide), fun p hp => hd.at (st_does c1 c2 c3) (After.keep hSs ((Keep.of s1).trans k2) hW2) hp rfl⟩
abbrev sSend : Stmt := topS 49
theorem scSend : FnScope ["session", "given", "events"] ["session", "given"] (defScope sSend) := ⟨rfl, rfl, rfl, by decide +kernel, rfl, by decide +kernel, by decide +kernel⟩
theorem ok_send (T : Txt K C) (B : Blt mg) (N : Cst mg) (c2 : Cal (L2.CX P wo) P wo K mg base 7 "need_two" (spNeed2 C)) (cRo : Cal (L2.CX P wo) P wo K mg base 5 "need_room" (spRoom C)) (cL : Cal CX0 P wo K mg base 3 "lacking" (spLack C)) (cP : Cal CX0 P wo K mg base 3 "put_message" (spPut C)) (F : Fun K "send" "send" sSend f fd) : FnOk P wo K mg base (L2.CX P wo) 12 f fd ["session", "given"] (spDeed C 3) := by
  refine F.okX scSend (fun vs H Q E h => ?_) (fun cdv A outer s H vs Q E hr h => ⟨_, pss_cons (ps_expr (pcX (E := E) c2 hr (takes_of rfl rfl rfl rfl) (fun _ _ _ _ h => h) (pa_cons (pv 0) (pa_cons (pe_ix ix_list (pv 1) pe_int (fun _ _ => rfl)) (pa_cons (pe_ix ix_list (pv 1) pe_int (fun _ _ => rfl)) pa_nil)))))
      (pss_cons (ps_expr (pcX (E := E) cRo hr (takes_of rfl rfl rfl rfl) (fun _ _ _ _ h => h) (pa_cons (pv 0) pa_nil)))
      (pss_cons (ps_set (i := 2) scSend.nd rfl (.inl rfl) (pc cL hr (pa_cons (pe_fld (pv 0) rfl) (pa_cons (pe_ix ix_list (pv 1) pe_int (fun _ _ => rfl)) (pa_cons (pe_ix ix_list (pv 1) pe_int (fun _ _ => rfl)) pa_nil)))))
      (pss_one (ps_ret (pe_lst (pa_cons (pc cP hr (pa_cons (pe_fld (pv 0) rfl) (pa_cons (pe_ix ix_list (pv 1) pe_int (fun _ _ => rfl)) (pa_cons (pe_ix ix_list (pv 1) pe_int (fun _ _ => rfl)) (pa_cons (pv 2) pa_nil))))) (pa_cons (pe_callB call_len_seq (by rfl) B.len PySem.boot_len (pa_cons (pv 2) pa_nil)) pa_nil))))))), ?_⟩)
  · obtain ⟨c, S, g, L, w, _, rfl, _⟩ := h; rfl
  · obtain ⟨c, S, g, L, w, hn, rfl, hSs, wf, hg, tg, hE, hd⟩ := h
    cases c <;> first | cases hn | skip
    rename_i k j
    obtain ⟨tS, ⟨dS, hS⟩, hW⟩ := id hSs
    refine ⟨_, rfl, _, rfl, g, _, 0, _, rfl, rfl, .of (hg), rfl, _, rfl, g, _, 1, _, rfl, rfl, .of (hg), rfl, S, L, w, k, j, rfl, hSs, fun c => hE _ (st_send1 c), fun c1 => ?_⟩
    refine ⟨_, rfl, S, L, w, rfl, hSs, fun c => hE _ (st_send2 c1 c), fun c2 => ?_⟩
    have hk : k < w.reps.length := by omega
    have hj : j < w.reps.length := by omega
    have hm := wf.mm
    refine ⟨_, rfl, S, _, dS, _, _, rfl, hS, T.clS, T.nSw, sF_world _, _, rfl, g, _, 0, _, rfl, rfl, .of (hg), rfl, _, rfl, g, _, 1, _, rfl, rfl, .of (hg), rfl, L, w, k, j, rfl, hW, wf, hk, hj, fun es H1 hes s1 he => ?_⟩
    have hg1 := s1 _ _ hg
    refine ⟨_, rfl, S, _, dS, _, _, rfl, s1 _ _ hS, T.clS, T.nSw, sF_world _, _, rfl, g, _, 0, _, rfl, rfl, .of (hg1), rfl, _, rfl, g, _, 1, _, rfl, rfl, .of (hg1), rfl, _, rfl, L, w, k, j, es, _, rfl, hW.same s1, he, hk, by omega, fun H2 k2 hW2 => ?_⟩
    obtain ⟨te, qs, eqs, hqs, _⟩ := he.keep k2
    refine ⟨_, rfl, es, _, rfl, .inl (.of hqs), (by show 2 ≤ sizeLine; decide), fun p hp => hd.at (st_send c1 c2) (After.keep hSs ((Keep.of s1).trans k2) hW2) hp ?_⟩
    rw [eqs, List.length_map, List.length_map]; rfl
abbrev sSendOne : Stmt := topS 50
theorem scSendOne : FnScope ["session", "given", "sender", "receiver", "replica", "number"] ["session", "given"] (defScope sSendOne) := ⟨rfl, rfl, rfl, by decide +kernel, rfl, by decide +kernel, by decide +kernel⟩
theorem ok_send_one (T : Txt K C) (B : Blt mg) (N : Cst mg) (c2 : Cal (L2.CX P wo) P wo K mg base 7 "need_two" (spNeed2 C)) (cR : Cal (L2.CX P wo) P wo K mg base 3 "refuse_if" (spRefuse C)) (cIe : Cal CX0 P wo K mg base 1 "is_event" (spIsEvent C)) (cI : Cal CX0 P wo K mg base 1 "is_in" spIsIn) (cRo : Cal (L2.CX P wo) P wo K mg base 5 "need_room" (spRoom C)) (cP : Cal CX0 P wo K mg base 3 "put_message" (spPut C)) (F : Fun K "send_one" "send_one" sSendOne f fd) : FnOk P wo K mg base (L2.CX P wo) 12 f fd ["session", "given"] (spDeed C 4) := by
  refine F.okX scSendOne (fun vs H Q E h => ?_) (fun cdv A outer s H vs Q E hr h => ⟨_, pss_cons (ps_asg (pv 1) (pg_lst rfl (pgs_cons (pg_name (i := 2) scSendOne.nd rfl (.inl rfl)) (pgs_cons (pg_name (i := 3) scSendOne.nd rfl (.inl rfl)) (pgs_cons (pg_name (i := 4) scSendOne.nd rfl (.inl rfl)) (pgs_cons (pg_name (i := 5) scSendOne.nd rfl (.inl rfl)) pgs_nil))))))
      (pss_cons (ps_expr (pcX (E := E) c2 hr (takes_of rfl rfl rfl rfl) (fun _ _ _ _ h => h) (pa_cons (pv 0) (pa_cons (pv 2) (pa_cons (pv 3) pa_nil)))))
      (pss_cons (ps_expr (pcX (E := E) cR hr (takes_of rfl rfl rfl rfl) (fun _ _ _ _ h => h) (pa_cons (pe_not (pc cIe hr (pa_cons (pe_fld (pv 0) rfl) (pa_cons (pv 4) (pa_cons (pv 5) pa_nil))))) (pa_cons (pk N.nap) pa_nil))))
      (pss_cons (ps_expr (pcX (E := E) cR hr (takes_of rfl rfl rfl rfl) (fun _ _ _ _ h => h) (pa_cons (pe_not (pc cI hr (pa_cons (pe_tup (pa_cons (pv 4) (pa_cons (pv 5) pa_nil))) (pa_cons (pe_fld (pe_ix ix_list (pe_fld (pe_fld (pv 0) rfl) rfl) (pv 2) (fun _ _ => rfl)) rfl) pa_nil)))) (pa_cons (pk N.nap) pa_nil))))
      (pss_cons (ps_expr (pcX (E := E) cRo hr (takes_of rfl rfl rfl rfl) (fun _ _ _ _ h => h) (pa_cons (pv 0) pa_nil)))
      (pss_one (ps_ret (pe_lst (pa_cons (pc cP hr (pa_cons (pe_fld (pv 0) rfl) (pa_cons (pv 2) (pa_cons (pv 3) (pa_cons (pe_lst (pa_cons (pe_tup (pa_cons (pv 4) (pa_cons (pv 5) pa_nil))) pa_nil)) pa_nil))))) pa_nil)))))))), ?_⟩)
  · obtain ⟨c, S, g, L, w, _, rfl, _⟩ := h; rfl
  · obtain ⟨c, S, g, L, w, hn, rfl, hSs, wf, hg, tg, hE, hd⟩ := h
    cases c <;> first | cases hn | skip
    rename_i k j d n
    obtain ⟨tS, ⟨dS, hS⟩, hW⟩ := id hSs
    obtain ⟨tw, dw, hw⟩ := hW.wd
    refine ⟨_, rfl, g, _, rfl, .of hg, rfl, _, _, rfl, _, _, rfl, _, _, rfl, _, _, rfl, rfl, ?_⟩
    refine ⟨_, rfl, _, rfl, _, rfl, S, L, w, k, j, rfl, hSs, fun c => hE _ (st_post1 c), fun c1 => ?_⟩
    have hk : k < w.reps.length := by omega
    have hm := wf.mm
    refine ⟨_, rfl, S, _, dS, _, _, rfl, hS, T.clS, T.nSw, sF_world _, _, rfl, _, rfl, L, w, d, n, rfl, hW, _, rfl, _, _, rfl, fun c => hE _ (st_post2 c1 fun z => ?_), fun c => ?_⟩
    · rw [z.1] at c; cases c
    have e1 : w.isEv d n = true := by simpa using c
    have hev := (isEv_iff wf d n).mp e1
    obtain ⟨R, hRk, hR⟩ := hW.repA hk
    obtain ⟨dr, v, pe, hr1, hv, hpe⟩ := hR.ins
    refine ⟨_, rfl, _, rfl, (by show 2 ≤ sizeLine; decide), fun t ht => ?_⟩
    have s1 := Same.new (o := HO.tup [nI d, nI n]) ht
    refine ⟨_, rfl, S, _, dS, _, _, rfl, s1 _ _ hS, T.clS, T.nSw, sF_world _, L.w, _, dw, _, _, rfl, s1 _ _ hw, T.clW, T.nWr, wF_replicas L, _, rfl, L.aR, _, (k : Int), _, rfl, rfl, .of (s1 _ _ hW.aR.2), atI_nat (at_map hRk), R.r, _, dr, _, _, rfl, s1 _ _ hr1, T.clR, T.nRv, rF_vector _ _ _ _,
      t, v, (d, n), _, rfl, upd_same, s1 _ _ hv.2, by rw [(wf.rep k _ (rep_at hk)).vec.len]; exact hev.r, _, rfl, _, _, rfl, fun c => (hE _ (st_post2 c1 fun z => ?_)).mono s1, fun c => ?_⟩
    · rw [z.2] at c; cases c
    have e2 : isIn (d, n) (w.rep k).vec = true := by simpa using c
    refine ⟨_, rfl, S, L, w, rfl, hSs.same s1, fun c => (hE _ (st_post3 c1 ⟨e1, e2⟩ c)).mono s1, fun c3 => ?_⟩
    refine ⟨_, rfl, S, _, dS, _, _, rfl, s1 _ _ hS, T.clS, T.nSw, sF_world _, _, rfl, _, rfl, _, rfl, _, rfl, (by show 2 ≤ sizeLine; decide), fun t2 ht2 => ⟨(by show 1 ≤ sizeLine; decide), fun es hes => ?_⟩⟩
    have s2 := Same.new (o := HO.tup [nI d, nI n]) ht2
    have s3 := s1.trans (s2.trans (Same.new (o := HO.lst [.ref t2]) hes))
    have tt2 : L.tag t2 = none := hW.untagged (s1.free ht2)
    refine ⟨L, w, k, j, es, [(d, n)], rfl, hW.same s3, ⟨hW.untagged (s1.free (s2.free hes)), [(t2, (d, n))], rfl, upd_same, fun p hp => ?_⟩, hk, by omega, fun H2 k2 hW2 => ?_⟩
    · rw [List.mem_singleton.mp hp]
      exact ⟨tt2, Same.new hes _ _ upd_same⟩
    · exact ⟨(by show 1 ≤ sizeLine; decide), fun p hp => hd.at (st_post c1 ⟨e1, e2⟩ c3) (After.keep hSs ((Keep.of s3).trans k2) hW2) hp rfl⟩
end
end VD
end
/-! ## part deed2 -/
section
set_option Elab.async false
set_option linter.all false
set_option maxRecDepth 100000
set_option maxHeartbeats 4000000
namespace VD
open PySem PySem.Spec PyProof.Rows L2
open Sq32 (Call)
theorem ints_V (v : List Nat) : [V.int 0] ++ v.map nI = (0 :: intsN v).map V.int := by
  unfold intsN
  rw [List.map_cons, List.map_map]; rfl
theorem flat2 : ∀ l : List Ev, (l.flatMap fun e => [(e.1 : Int), (e.2 : Int)]).length = l.length * 2
  | [] => rfl
  | e :: l => by
    have ih := flat2 l
    rw [List.flatMap_cons, List.length_append, ih]
    show 2 + l.length * 2 = (l.length + 1) * 2
    omega
section
variable {P : Program} {wo : World} {K : PySem.W.Frag} {mg : Str → Option Value} {base : Heap} {f fX : Addr} {fd : FuncData} {C : Cs}
abbrev sDeliverD : Stmt := topS 51
theorem scDeliverD : FnScope ["session", "given", "message", "many"] ["session", "given"] (defScope sDeliverD) := ⟨rfl, rfl, rfl, by decide +kernel, rfl, by decide +kernel, by decide +kernel⟩
theorem ok_deliver (T : Txt K C) (B : Blt mg) (N : Cst mg) (cNm : Cal (L2.CX P wo) P wo K mg base 5 "need_message" (spNeedM C)) (cD : Cal CX0 P wo K mg base 10 "deliver_message" (spDeliver C)) (F : Fun K "deliver" "deliver" sDeliverD f fd) : FnOk P wo K mg base (L2.CX P wo) 12 f fd ["session", "given"] (spDeed C 5) := by
  refine F.okX scDeliverD (fun vs H Q E h => ?_) (fun cdv A outer s H vs Q E hr h => ⟨_, pss_cons (ps_set (i := 2) scDeliverD.nd rfl (.inl rfl) (pcX (E := E) cNm hr (takes_of rfl rfl rfl rfl) (fun _ _ _ _ h => h) (pa_cons (pv 0) (pa_cons (pe_ix ix_list (pv 1) pe_int (fun _ _ => rfl)) pa_nil))))
      (pss_cons (ps_set (i := 3) scDeliverD.nd rfl (.inl rfl) (pc cD hr (pa_cons (pe_fld (pv 0) rfl) (pa_cons (pv 2) pa_nil))))
      (pss_one (ps_ret (pe_lst (pa_cons (pv 3) (pa_cons (pe_callB call_len_seq (by rfl) B.len PySem.boot_len (pa_cons (pe_fld (pe_ix ix_list (pe_fld (pe_fld (pv 0) rfl) rfl) (pe_fld (pv 2) rfl) (fun _ _ => rfl)) rfl) pa_nil)) pa_nil)))))), ?_⟩)
  · obtain ⟨c, S, g, L, w, _, rfl, _⟩ := h; rfl
  · obtain ⟨c, S, g, L, w, hn, rfl, hSs, wf, hg, tg, hE, hd⟩ := h
    cases c <;> first | cases hn | skip
    rename_i i
    obtain ⟨tS, ⟨dS, hS⟩, hW⟩ := id hSs
    obtain ⟨tw, dw, hw⟩ := hW.wd
    refine ⟨_, rfl, _, rfl, g, _, 0, _, rfl, rfl, .of (hg), rfl, S, L, w, i, rfl, hSs, fun c => hE _ (st_comes0 c), fun m ma hm hma => ?_⟩
    have hmw := wf.msg m (List.mem_of_getElem? hm)
    have hk := hmw.to
    obtain ⟨R, hRk, _⟩ := hW.repA hk
    obtain ⟨tm, dm, mv, me, hm1, _⟩ := id hma
    refine ⟨_, rfl, S, _, dS, _, _, rfl, hS, T.clS, T.nSw, sF_world _, _, rfl, L, w, ma, m, rfl, hW, wf, hma, hmw, fun H1 k1 hW1 => ?_⟩
    obtain ⟨_, hR1⟩ := hW1.repR hRk
    obtain ⟨dr, v, pe, hr1, hv, hpe⟩ := hR1.ins
    obtain ⟨tpe, hpl⟩ := hpe
    obtain ⟨xs, hx, hl⟩ := hpl.len
    refine ⟨_, rfl, _, rfl, S, _, dS, _, _, rfl, k1 _ _ tS hS, T.clS, T.nSw, sF_world _, L.w, _, dw, _, _, rfl, k1 _ _ tw hw, T.clW, T.nWr, wF_replicas L, _, rfl, ma, _, dm, _, _, rfl, k1 _ _ tm hm1, T.clM, T.nMr, mF_receiver _ _ _, L.aR, _, (m.to : Int), _, rfl, rfl, .of (k1 _ _ hW.aR.1 hW.aR.2), atI_nat (at_map hRk),
      R.r, _, dr, _, _, rfl, hr1, T.clR, T.nRp, rF_pending _ _ _ _, pe, xs, rfl, .inl (.of hx), (by show 2 ≤ sizeLine; decide), fun p hp => hd.at (st_comes hm) (After.keep hSs k1 hW1) hp ?_⟩
    rw [hl]; rfl
abbrev sApplied : Stmt := topS 52
theorem scApplied : FnScope ["session", "given"] ["session", "given"] (defScope sApplied) := ⟨rfl, rfl, rfl, by decide +kernel, rfl, by decide +kernel, by decide +kernel⟩
theorem ok_applied (T : Txt K C) (B : Blt mg) (N : Cst mg) (cN : Cal (L2.CX P wo) P wo K mg base 5 "need_replica" (spNeed C)) (cT : Cal CX0 P wo K mg base 3 "told_events" (spTold C)) (F : Fun K "applied" "applied" sApplied f fd) : FnOk P wo K mg base (L2.CX P wo) 12 f fd ["session", "given"] (spDeed C 6) := by
  refine F.okX scApplied (fun vs H Q E h => ?_) (fun cdv A outer s H vs Q E hr h => ⟨_, pss_cons (ps_expr (pcX (E := E) cN hr (takes_of rfl rfl rfl rfl) (fun _ _ _ _ h => h) (pa_cons (pv 0) (pa_cons (pe_ix ix_list (pv 1) pe_int (fun _ _ => rfl)) pa_nil))))
      (pss_one (ps_ret (pc cT hr (pa_cons (pv 0) (pa_cons (pe_fld (pe_ix ix_list (pe_fld (pe_fld (pv 0) rfl) rfl) (pe_ix ix_list (pv 1) pe_int (fun _ _ => rfl)) (fun _ _ => rfl)) rfl) pa_nil))))), ?_⟩)
  · obtain ⟨c, S, g, L, w, _, rfl, _⟩ := h; rfl
  · obtain ⟨c, S, g, L, w, hn, rfl, hSs, wf, hg, tg, hE, hd⟩ := h
    cases c <;> first | cases hn | skip
    rename_i k
    obtain ⟨tS, ⟨dS, hS⟩, hW⟩ := id hSs
    obtain ⟨tw, dw, hw⟩ := hW.wd
    refine ⟨_, rfl, _, rfl, g, _, 0, _, rfl, rfl, .of (hg), rfl, S, L, w, k, rfl, hSs, fun c => hE _ (st_taken0 c), fun c1 => ?_⟩
    obtain ⟨R, hRk, hR⟩ := hW.repA (k := k) (by omega)
    obtain ⟨dr, v, pe, hr1, hv, hpe⟩ := hR.ins
    have hrw := wf.rep k _ (rep_at (by omega : k < w.reps.length))
    refine ⟨_, rfl, _, rfl, S, _, dS, _, _, rfl, hS, T.clS, T.nSw, sF_world _, L.w, _, dw, _, _, rfl, hw, T.clW, T.nWr, wF_replicas L, _, rfl, g, _, 0, _, rfl, rfl, .of (hg), rfl, L.aR, _, (k : Int), _, rfl, rfl, .of hW.aR.2, atI_nat (at_map hRk), R.r, _, dr, _, _, rfl, hr1, T.clR, T.nRa, rF_applied _ _ _ _,
      S, L, w, _, _, rfl, hSs, wf, hR.app, fun e he => (app_ok hrw.toLWF he).1, app_few wf hrw.toLWF, fun p H' hp s e => hd p H' L ?_ hp ?_⟩
    · rw [st_taken c1]; exact After.same hSs s
    · rw [st_taken c1]; exact e
abbrev sPending : Stmt := topS 53
theorem scPending : FnScope ["session", "given"] ["session", "given"] (defScope sPending) := ⟨rfl, rfl, rfl, by decide +kernel, rfl, by decide +kernel, by decide +kernel⟩
theorem ok_pending (T : Txt K C) (B : Blt mg) (N : Cst mg) (cN : Cal (L2.CX P wo) P wo K mg base 5 "need_replica" (spNeed C)) (cT : Cal CX0 P wo K mg base 3 "told_events" (spTold C)) (F : Fun K "pending" "pending" sPending f fd) : FnOk P wo K mg base (L2.CX P wo) 12 f fd ["session", "given"] (spDeed C 7) := by
  refine F.okX scPending (fun vs H Q E h => ?_) (fun cdv A outer s H vs Q E hr h => ⟨_, pss_cons (ps_expr (pcX (E := E) cN hr (takes_of rfl rfl rfl rfl) (fun _ _ _ _ h => h) (pa_cons (pv 0) (pa_cons (pe_ix ix_list (pv 1) pe_int (fun _ _ => rfl)) pa_nil))))
      (pss_one (ps_ret (pc cT hr (pa_cons (pv 0) (pa_cons (pe_fld (pe_ix ix_list (pe_fld (pe_fld (pv 0) rfl) rfl) (pe_ix ix_list (pv 1) pe_int (fun _ _ => rfl)) (fun _ _ => rfl)) rfl) pa_nil))))), ?_⟩)
  · obtain ⟨c, S, g, L, w, _, rfl, _⟩ := h; rfl
  · obtain ⟨c, S, g, L, w, hn, rfl, hSs, wf, hg, tg, hE, hd⟩ := h
    cases c <;> first | cases hn | skip
    rename_i k
    obtain ⟨tS, ⟨dS, hS⟩, hW⟩ := id hSs
    obtain ⟨tw, dw, hw⟩ := hW.wd
    refine ⟨_, rfl, _, rfl, g, _, 0, _, rfl, rfl, .of (hg), rfl, S, L, w, k, rfl, hSs, fun c => hE _ (st_waits0 c), fun c1 => ?_⟩
    obtain ⟨R, hRk, hR⟩ := hW.repA (k := k) (by omega)
    obtain ⟨dr, v, pe, hr1, hv, hpe⟩ := hR.ins
    have hrw := wf.rep k _ (rep_at (by omega : k < w.reps.length))
    refine ⟨_, rfl, _, rfl, S, _, dS, _, _, rfl, hS, T.clS, T.nSw, sF_world _, L.w, _, dw, _, _, rfl, hw, T.clW, T.nWr, wF_replicas L, _, rfl, g, _, 0, _, rfl, rfl, .of (hg), rfl, L.aR, _, (k : Int), _, rfl, rfl, .of hW.aR.2, atI_nat (at_map hRk), R.r, _, dr, _, _, rfl, hr1, T.clR, T.nRp, rF_pending _ _ _ _,
      S, L, w, _, _, rfl, hSs, wf, hpe.2, hrw.pv, pend_few wf hrw.toLWF, fun p H' hp s e => hd p H' L ?_ hp ?_⟩
    · rw [st_waits c1]; exact After.same hSs s
    · rw [st_waits c1]; exact e
abbrev sVector : Stmt := topS 54
theorem scVector : FnScope ["session", "given"] ["session", "given"] (defScope sVector) := ⟨rfl, rfl, rfl, by decide +kernel, rfl, by decide +kernel, by decide +kernel⟩
theorem ok_vector (T : Txt K C) (B : Blt mg) (N : Cst mg) (cN : Cal (L2.CX P wo) P wo K mg base 5 "need_replica" (spNeed C)) (F : Fun K "vector" "vector" sVector f fd) : FnOk P wo K mg base (L2.CX P wo) 12 f fd ["session", "given"] (spDeed C 8) := by
  refine F.okX scVector (fun vs H Q E h => ?_) (fun cdv A outer s H vs Q E hr h => ⟨_, pss_cons (ps_expr (pcX (E := E) cN hr (takes_of rfl rfl rfl rfl) (fun _ _ _ _ h => h) (pa_cons (pv 0) (pa_cons (pe_ix ix_list (pv 1) pe_int (fun _ _ => rfl)) pa_nil))))
      (pss_one (ps_ret (pe_op op_cat (pe_lst (pa_cons pe_int pa_nil)) (pe_fld (pe_ix ix_list (pe_fld (pe_fld (pv 0) rfl) rfl) (pe_ix ix_list (pv 1) pe_int (fun _ _ => rfl)) (fun _ _ => rfl)) rfl)))), ?_⟩)
  · obtain ⟨c, S, g, L, w, _, rfl, _⟩ := h; rfl
  · obtain ⟨c, S, g, L, w, hn, rfl, hSs, wf, hg, tg, hE, hd⟩ := h
    cases c <;> first | cases hn | skip
    rename_i k
    obtain ⟨tS, ⟨dS, hS⟩, hW⟩ := id hSs
    obtain ⟨tw, dw, hw⟩ := hW.wd
    refine ⟨_, rfl, _, rfl, g, _, 0, _, rfl, rfl, .of (hg), rfl, S, L, w, k, rfl, hSs, fun c => hE _ (st_has0 c), fun c1 => ?_⟩
    obtain ⟨R, hRk, hR⟩ := hW.repA (k := k) (by omega)
    obtain ⟨dr, v, pe, hr1, hv, hpe⟩ := hR.ins
    have hrw := wf.rep k _ (rep_at (by omega : k < w.reps.length))
    refine ⟨(by show 1 ≤ sizeLine; decide), fun z hz => ?_⟩
    have s1 := Same.new (o := HO.lst [.int 0]) hz
    refine ⟨_, rfl, S, _, dS, _, _, rfl, s1 _ _ hS, T.clS, T.nSw, sF_world _, L.w, _, dw, _, _, rfl, s1 _ _ hw, T.clW, T.nWr, wF_replicas L, _, rfl, g, _, 0, _, rfl, rfl, .of (s1 _ _ hg), rfl, L.aR, _, (k : Int), _, rfl, rfl, .of (s1 _ _ hW.aR.2), atI_nat (at_map hRk), R.r, _, dr, _, _, rfl, s1 _ _ hr1, T.clR, T.nRv, rF_vector _ _ _ _,
      z, v, _, _, rfl, rfl, upd_same, s1 _ _ hv.2, ?_, fun p hp => hd.at (st_has c1) (After.same hSs s1) hp (ints_V _)⟩
    rw [List.length_map, hrw.vec.len]
    show 1 + _ ≤ sizeLine
    have := wf.n6
    exact sz_small (by omega)
abbrev sKnownD : Stmt := topS 55
theorem scKnownD : FnScope ["session", "given"] ["session", "given"] (defScope sKnownD) := ⟨rfl, rfl, rfl, by decide +kernel, rfl, by decide +kernel, by decide +kernel⟩
theorem ok_known (T : Txt K C) (B : Blt mg) (N : Cst mg) (cN : Cal (L2.CX P wo) P wo K mg base 5 "need_replica" (spNeed C)) (cK : Cal CX0 P wo K mg base 1 "known_vector" (spKnown C)) (F : Fun K "known" "known" sKnownD f fd) : FnOk P wo K mg base (L2.CX P wo) 12 f fd ["session", "given"] (spDeed C 9) := by
  refine F.okX scKnownD (fun vs H Q E h => ?_) (fun cdv A outer s H vs Q E hr h => ⟨_, pss_cons (ps_expr (pcX (E := E) cN hr (takes_of rfl rfl rfl rfl) (fun _ _ _ _ h => h) (pa_cons (pv 0) (pa_cons (pe_ix ix_list (pv 1) pe_int (fun _ _ => rfl)) pa_nil))))
      (pss_cons (ps_expr (pcX (E := E) cN hr (takes_of rfl rfl rfl rfl) (fun _ _ _ _ h => h) (pa_cons (pv 0) (pa_cons (pe_ix ix_list (pv 1) pe_int (fun _ _ => rfl)) pa_nil))))
      (pss_one (ps_ret (pe_op op_cat (pe_lst (pa_cons pe_int pa_nil)) (pc cK hr (pa_cons (pe_fld (pv 0) rfl) (pa_cons (pe_ix ix_list (pv 1) pe_int (fun _ _ => rfl)) (pa_cons (pe_ix ix_list (pv 1) pe_int (fun _ _ => rfl)) pa_nil)))))))), ?_⟩)
  · obtain ⟨c, S, g, L, w, _, rfl, _⟩ := h; rfl
  · obtain ⟨c, S, g, L, w, hn, rfl, hSs, wf, hg, tg, hE, hd⟩ := h
    cases c <;> first | cases hn | skip
    rename_i k j
    obtain ⟨tS, ⟨dS, hS⟩, hW⟩ := id hSs
    refine ⟨_, rfl, _, rfl, g, _, 0, _, rfl, rfl, .of (hg), rfl, S, L, w, k, rfl, hSs, fun c => hE _ (st_sure0 (.inl c)), fun c1 => ?_⟩
    refine ⟨_, rfl, _, rfl, g, _, 1, _, rfl, rfl, .of (hg), rfl, S, L, w, j, rfl, hSs, fun c => hE _ (st_sure0 (.inr c)), fun c2 => ?_⟩
    have c0 : ¬ (w.reps.length ≤ k ∨ w.reps.length ≤ j) := by omega
    have hk : k < w.reps.length := by omega
    have hj : j < w.reps.length := by omega
    refine ⟨(by show 1 ≤ sizeLine; decide), fun z hz => ?_⟩
    have s1 := Same.new (o := HO.lst [.int 0]) hz
    refine ⟨_, rfl, S, _, dS, _, _, rfl, s1 _ _ hS, T.clS, T.nSw, sF_world _, _, rfl, g, _, 0, _, rfl, rfl, .of (s1 _ _ hg), rfl, _, rfl, g, _, 1, _, rfl, rfl, .of (s1 _ _ hg), rfl, L, w, k, j, rfl, hW.same s1, wf, hk, hj, fun a ha => ?_⟩
    refine ⟨z, a, _, _, rfl, rfl, upd_same, ha.2, ?_, fun p hp => hd.at (st_sure c0) (After.same hSs s1) hp (ints_V _)⟩
    rw [List.length_map, known_len wf hk hj]
    show 1 + _ ≤ sizeLine
    have := wf.n6
    exact sz_small (by omega)
abbrev sStableD : Stmt := topS 56
theorem scStableD : FnScope ["session", "given"] ["session", "given"] (defScope sStableD) := ⟨rfl, rfl, rfl, by decide +kernel, rfl, by decide +kernel, by decide +kernel⟩
theorem ok_stable (T : Txt K C) (B : Blt mg) (N : Cst mg) (cN : Cal (L2.CX P wo) P wo K mg base 5 "need_replica" (spNeed C)) (cS : Cal CX0 P wo K mg base 3 "stable_vector" (spStable C)) (F : Fun K "stable" "stable" sStableD f fd) : FnOk P wo K mg base (L2.CX P wo) 12 f fd ["session", "given"] (spDeed C 10) := by
  refine F.okX scStableD (fun vs H Q E h => ?_) (fun cdv A outer s H vs Q E hr h => ⟨_, pss_cons (ps_expr (pcX (E := E) cN hr (takes_of rfl rfl rfl rfl) (fun _ _ _ _ h => h) (pa_cons (pv 0) (pa_cons (pe_ix ix_list (pv 1) pe_int (fun _ _ => rfl)) pa_nil))))
      (pss_one (ps_ret (pe_op op_cat (pe_lst (pa_cons pe_int pa_nil)) (pc cS hr (pa_cons (pe_fld (pv 0) rfl) (pa_cons (pe_ix ix_list (pv 1) pe_int (fun _ _ => rfl)) pa_nil)))))), ?_⟩)
  · obtain ⟨c, S, g, L, w, _, rfl, _⟩ := h; rfl
  · obtain ⟨c, S, g, L, w, hn, rfl, hSs, wf, hg, tg, hE, hd⟩ := h
    cases c <;> first | cases hn | skip
    rename_i k
    obtain ⟨tS, ⟨dS, hS⟩, hW⟩ := id hSs
    refine ⟨_, rfl, _, rfl, g, _, 0, _, rfl, rfl, .of (hg), rfl, S, L, w, k, rfl, hSs, fun c => hE _ (st_all0 c), fun c1 => ?_⟩
    have hk : k < w.reps.length := by omega
    refine ⟨(by show 1 ≤ sizeLine; decide), fun z hz => ?_⟩
    have s1 := Same.new (o := HO.lst [.int 0]) hz
    refine ⟨_, rfl, S, _, dS, _, _, rfl, s1 _ _ hS, T.clS, T.nSw, sF_world _, _, rfl, g, _, 0, _, rfl, rfl, .of (s1 _ _ hg), rfl, L, w, k, rfl, hW.same s1, wf, hk, fun a H2 s2 ha => ?_⟩
    have sl : (stableV w k).length = w.reps.length := by
      have e := (all_law wf hk).symm
      have h0 := (wf.rep k _ (rep_at hk)).vec.len
      unfold stableV
      have key : ∀ (l : List Nat) (v : List Nat), v.length = w.reps.length → (∀ j ∈ l, j < w.reps.length) → (l.foldl (fun f j => les f (knownV w k j)) v).length = w.reps.length := by
        intro l
        induction l with
        | nil => intro v hv _; exact hv
        | cons j l ih =>
          intro v hv hj
          rw [List.foldl_cons]
          refine ih _ ?_ fun i hi => hj i (List.mem_cons_of_mem _ hi)
          rw [les_len _ _ (by rw [hv, known_len wf hk (hj j List.mem_cons_self)]), hv]
      exact key _ _ h0 fun j hj => List.mem_range.mp hj
    refine ⟨z, a, _, _, rfl, rfl, s2 _ _ upd_same, ha.2, ?_, fun p hp => hd.at (st_all c1) (After.same hSs (s1.trans s2)) hp (ints_V _)⟩
    rw [List.length_map, sl]
    show 1 + _ ≤ sizeLine
    have := wf.n6
    exact sz_small (by omega)
abbrev sCompare : Stmt := topS 58
theorem scCompare : FnScope ["session", "given", "one", "other", "event"] ["session", "given"] (defScope sCompare) := ⟨rfl, rfl, rfl, by decide +kernel, rfl, by decide +kernel, by decide +kernel⟩
theorem ok_compare (T : Txt K C) (B : Blt mg) (N : Cst mg) (cR : Cal (L2.CX P wo) P wo K mg base 3 "refuse_if" (spRefuse C)) (cIe : Cal CX0 P wo K mg base 1 "is_event" (spIsEvent C)) (cDe : Cal CX0 P wo K mg base 3 "depends" (spDepends C)) (F : Fun K "compare" "compare" sCompare f fd) : FnOk P wo K mg base (L2.CX P wo) 12 f fd ["session", "given"] (spDeed C 11) := by
  refine F.okX scCompare (fun vs H Q E h => ?_) (fun cdv A outer s H vs Q E hr h => ⟨_, pss_cons (ps_par (by rfl) scCompare.nd (i := 2) (j := 3) rfl rfl (by decide) rfl rfl (pa_cons (pe_tup (pa_cons (pe_ix ix_list (pv 1) pe_int (fun _ _ => rfl)) (pa_cons (pe_ix ix_list (pv 1) pe_int (fun _ _ => rfl)) pa_nil))) (pa_cons (pe_tup (pa_cons (pe_ix ix_list (pv 1) pe_int (fun _ _ => rfl)) (pa_cons (pe_ix ix_list (pv 1) pe_int (fun _ _ => rfl)) pa_nil))) pa_nil)) (by rfl))
      (pss_cons (ps_for (passes_of rfl) rfl (pi_tup (pe_tup (pa_cons (pv 2) (pa_cons (pv 3) pa_nil)))) (pg_name (i := 4) scCompare.nd rfl (.inl rfl))
        (pss_one (ps_expr (pcX (E := E) cR hr (takes_of rfl rfl rfl rfl) (fun _ _ _ _ h => h) (pa_cons (pe_not (pc cIe hr (pa_cons (pe_fld (pv 0) rfl) (pa_cons (pe_ix ix_tup (pv 4) pe_int (fun _ _ => rfl)) (pa_cons (pe_ix ix_tup (pv 4) pe_int (fun _ _ => rfl)) pa_nil))))) (pa_cons (pk N.nth) pa_nil))))))
      (pss_cons (ps_if (pt_val (pc cDe hr (pa_cons (pv 0) (pa_cons (pv 3) (pa_cons (pv 2) pa_nil))))) (pss_one (ps_ret (pe_lst (pa_cons (pk N.fst) pa_nil)))) pss_nil)
      (pss_one (ps_ret (pe_ifExp (pt_val (pc cDe hr (pa_cons (pv 0) (pa_cons (pv 2) (pa_cons (pv 3) pa_nil))))) (pe_lst (pa_cons (pk N.snd) pa_nil)) (pe_lst (pa_cons (pk N.nei) pa_nil))))))), ?_⟩)
  · obtain ⟨c, S, g, L, w, _, rfl, _⟩ := h; rfl
  · obtain ⟨c, S, g, L, w, hn, rfl, hSs, wf, hg, tg, hE, hd⟩ := h
    cases c <;> first | cases hn | skip
    rename_i d n e m
    obtain ⟨tS, ⟨dS, hS⟩, hW⟩ := id hSs
    refine ⟨_, rfl, g, _, 0, _, rfl, rfl, .of (hg), rfl, _, rfl, g, _, 1, _, rfl, rfl, .of (hg), rfl, (by show 2 ≤ sizeLine; decide), fun t1 ht1 => ?_⟩
    have s1 := Same.new (o := HO.tup [nI d, nI n]) ht1
    refine ⟨_, rfl, g, _, 2, _, rfl, rfl, .of (s1 _ _ hg), rfl, _, rfl, g, _, 3, _, rfl, rfl, .of (s1 _ _ hg), rfl, (by show 2 ≤ sizeLine; decide), fun t2 ht2 => ⟨_, _, rfl, ?_⟩⟩
    have s2 := Same.new (o := HO.tup [nI e, nI m]) ht2
    have a1 : upd (upd H t1 (.tup [nI d, nI n])) t2 (.tup [nI e, nI m]) t1 = some (.tup [nI d, nI n]) := s2 _ _ upd_same
    refine ⟨_, rfl, _, rfl, (by show 2 ≤ sizeLine; decide), fun t3 ht3 => ?_⟩
    have s3 := Same.new (o := HO.tup [V.ref t1, V.ref t2]) ht3
    have s4 := s1.trans (s2.trans s3)
    generalize hH4 : upd (upd (upd H t1 (.tup [nI d, nI n])) t2 (.tup [nI e, nI m])) t3 (.tup [V.ref t1, V.ref t2]) = H4
    rw [hH4] at s4
    have b1 : H4 t1 = some (.tup [nI d, nI n]) := by rw [← hH4]; exact s3 _ _ a1
    have b2 : H4 t2 = some (.tup [nI e, nI m]) := by rw [← hH4]; exact s3 _ _ upd_same
    have b3 : H4 t3 = some (.tup [V.ref t1, V.ref t2]) := by rw [← hH4]; exact upd_same
    have hW4 := hW.same s4
    refine ⟨t3, rfl, ⟨_, .of b3⟩, for_tup (K := K) (a := t3) (xs := [V.ref t1, V.ref t2]) (fun i σ H' => H' = H4 ∧ (∃ u, σ = [some (.ref S), some (.ref g), some (.ref t1), some (.ref t2), u]) ∧ (1 ≤ i → w.isEv d n = true) ∧ (2 ≤ i → w.isEv e m = true))
      ⟨rfl, ⟨_, rfl⟩, fun z => absurd z (by decide), fun z => absurd z (by decide)⟩ (fun i σ H' _ ⟨z, _⟩ => by rw [z]; exact .of b3) ?_ ?_⟩
    · rintro i x σ H' hi ⟨rfl, ⟨u, rfl⟩, q1, q2⟩
      have turn : ∀ (t : Addr) (x y : Nat), H' t = some (.tup [nI x, nI y]) → (w.isEv x y = false → RefE C E H (-2)) → ∀ R : Prop, (w.isEv x y = true → R) →
          tDrop (tCall (spRefuse C) [] E (tCons (tNotV (tCall (spIsEvent C) [] E0 (tCons (tFld K (tVar 0) "world") (tCons (tOp (rIxT K) (tVar 4) (tC (.int 0))) (tCons (tOp (rIxT K) (tVar 4) (tC (.int 1))) tNil))))) (tCons (tC (.int (-2))) tNil)))
            { nx := fun _ _ => R, rt := fun _ _ => False, ct := fun _ _ => False, bk := fun _ _ => False } [some (.ref S), some (.ref g), some (.ref t1), some (.ref t2), some (.ref t)] H' := fun t x y ht hbad R hR => by
        refine ⟨_, rfl, S, _, dS, _, _, rfl, s4 _ _ hS, T.clS, T.nSw, sF_world _, _, rfl, t, _, 0, _, rfl, rfl, .of ht, rfl, _, rfl, t, _, 1, _, rfl, rfl, .of ht, rfl, L, w, x, y, rfl, hW4, _, rfl, _, _, rfl, fun c => (hbad ?_).mono s4, fun c => hR ?_⟩
        · simpa using c
        · simpa using c
      match i, hi with
      | 0, hi =>
        have ex : x = V.ref t1 := by simpa using hi.symm
        subst ex
        exact turn t1 d n b1 (fun c => hE _ (st_hangs0 fun z => by rw [z.1] at c; cases c)) _ fun c => ⟨rfl, ⟨_, rfl⟩, fun _ => c, fun z => absurd z (by decide)⟩
      | 1, hi =>
        have ex : x = V.ref t2 := by simpa using hi.symm
        subst ex
        exact turn t2 e m b2 (fun c => hE _ (st_hangs0 fun z => by rw [z.2] at c; cases c)) _ fun c => ⟨rfl, ⟨_, rfl⟩, fun _ => q1 (by decide), fun _ => c⟩
      | i + 2, hi => exact absurd hi (by simp)
    · rintro σ H' ⟨rfl, ⟨u, rfl⟩, q1, q2⟩
      have v1 := q1 (by show 1 ≤ 2; decide)
      have v2 := q2 (by show 2 ≤ 2; decide)
      have w1 := (isEv_iff wf d n).mp v1
      have w2 := (isEv_iff wf e m).mp v2
      have hst := st_hangs (w := w) ⟨v1, v2⟩
      have hSs4 := hSs.same s4
      refine ⟨_, rfl, _, rfl, _, rfl, S, L, w, t2, t1, (e, m), (d, n), rfl, hSs4, wf, b2, b1, w2, w1, _, rfl, ite2 (fun c => ?_) (fun c => ?_)⟩
      · refine ⟨(by show 1 ≤ sizeLine; decide), fun p hp => hd.at hst (After.same hSs s4) hp ?_⟩
        rw [if_pos c]; rfl
      · refine ⟨_, rfl, _, rfl, _, rfl, S, L, w, t1, t2, (d, n), (e, m), rfl, hSs4, wf, b1, b2, w1, w2, _, rfl, ite2 (fun c2 => ?_) (fun c2 => ?_)⟩
        · refine ⟨(by show 1 ≤ sizeLine; decide), fun p hp => hd.at hst (After.same hSs s4) hp ?_⟩
          rw [if_neg c, if_pos c2]; rfl
        · refine ⟨(by show 1 ≤ sizeLine; decide), fun p hp => hd.at hst (After.same hSs s4) hp ?_⟩
          rw [if_neg c, if_neg c2]; rfl
abbrev sLetter : Stmt := topS 59
theorem scLetter : FnScope ["session", "given", "message", "found", "event"] ["session", "given"] (defScope sLetter) := ⟨rfl, rfl, rfl, by decide +kernel, rfl, by decide +kernel, by decide +kernel⟩
theorem ok_message_told (T : Txt K C) (B : Blt mg) (N : Cst mg) (cNm : Cal (L2.CX P wo) P wo K mg base 5 "need_message" (spNeedM C)) (F : Fun K "message_told" "message_told" sLetter f fd) : FnOk P wo K mg base (L2.CX P wo) 12 f fd ["session", "given"] (spDeed C 12) := by
  refine F.okX scLetter (fun vs H Q E h => ?_) (fun cdv A outer s H vs Q E hr h => ⟨_, pss_cons (ps_set (i := 2) scLetter.nd rfl (.inl rfl) (pcX (E := E) cNm hr (takes_of rfl rfl rfl rfl) (fun _ _ _ _ h => h) (pa_cons (pv 0) (pa_cons (pe_ix ix_list (pv 1) pe_int (fun _ _ => rfl)) pa_nil))))
      (pss_cons (ps_set (i := 3) scLetter.nd rfl (.inl rfl) (pe_lst (pa_cons (pe_callB call_len_seq (by rfl) B.len PySem.boot_len (pa_cons (pe_fld (pv 2) rfl) pa_nil)) pa_nil)))
      (pss_cons (ps_for (passes_of rfl) rfl (pi_list (pe_fld (pv 2) rfl)) (pg_name (i := 4) scLetter.nd rfl (.inl rfl))
        (pss_one (ps_expr (pe_bm PySem.F.plainAttrs_list PySem.F.slot_list_extend PySem.F.type_list_extend mt_extend (pv 3) (pa_cons (pe_callTy call_list_of (by rfl) B.list (by decide +kernel) (pa_cons (pv 4) pa_nil)) pa_nil)))))
      (pss_one (ps_ret (pv 3))))), ?_⟩)
  · obtain ⟨c, S, g, L, w, _, rfl, _⟩ := h; rfl
  · obtain ⟨c, S, g, L, w, hn, rfl, hSs, wf, hg, tg, hE, hd⟩ := h
    cases c <;> first | cases hn | skip
    rename_i i
    obtain ⟨tS, ⟨dS, hS⟩, hW⟩ := id hSs
    refine ⟨_, rfl, _, rfl, g, _, 0, _, rfl, rfl, .of (hg), rfl, S, L, w, i, rfl, hSs, fun c => hE _ (st_letter0 c), fun m ma hm hma => ?_⟩
    have hmw := wf.msg m (List.mem_of_getElem? hm)
    obtain ⟨tm, dm, mv, me, hm1, _, hme⟩ := hma
    obtain ⟨te, ps, eps, hps, hev⟩ := hme
    have hpl : ps.length = m.evs.length := by rw [eps, List.length_map]
    have hfew := hmw.few
    refine ⟨_, rfl, ma, _, dm, _, _, rfl, hm1, T.clM, T.nMe, mF_events _ _ _, me, _, rfl, .inl (.of hps), (by show 1 ≤ sizeLine; decide), fun fa hfa => ?_⟩
    have s1 : Same H (upd H fa (.lst [.int ((ps.map fun p => V.ref p.1).length : Nat)])) := Same.new hfa
    refine ⟨_, rfl, ma, _, dm, _, _, rfl, s1 _ _ hm1, T.clM, T.nMe, mF_events _ _ _, me, rfl, ⟨_, .of (s1 _ _ hps)⟩, for_list (K := K) (a := me) (xs := ps.map fun p => V.ref p.1) (fun i σ H' => ∃ v : Option V, σ = [some (.ref S), some (.ref g), some (.ref ma), some (.ref fa), v] ∧ Same H H' ∧
        H' fa = some (.lst (((m.evs.length : Int) :: (m.evs.take i).flatMap fun e => [(e.1 : Int), (e.2 : Int)]).map V.int))) ⟨none, rfl, s1, ?_⟩ (fun i σ H' _ ⟨_, _, s5, _⟩ => .of (s5 _ _ hps)) ?_ ?_⟩
    · rw [upd_same, List.length_map, hpl]; rfl
    · rintro i x σ H' hi ⟨v, rfl, s5, hf⟩
      obtain ⟨p, hp, rfl⟩ := map_at hi
      have hpm := List.mem_of_getElem? hp
      have hpe := hev p hpm
      have hi2 : i < 60 := by
        have := (List.getElem?_eq_some_iff.mp hp).1
        omega
      refine ⟨_, rfl, .inl ⟨rfl, _, .of hf⟩, _, rfl, p.1, _, rfl, .inr (.of (s5 _ _ hpe.2)), fun b hb => ?_⟩
      have fb : fa ≠ b := ne_of_none hf hb
      refine ⟨fa, b, _, _, rfl, rfl, (upd_ne fb).trans hf, upd_same, ?_, ⟨_, rfl, fun c o e => ?_, ?_⟩⟩
      · rw [List.length_map, List.length_cons, flat2, List.length_take]
        show min i m.evs.length * 2 + 1 + 2 ≤ sizeLine
        exact sz_small (by omega)
      · rw [upd_ne (ne_of_none e hfa), upd_ne (ne_of_none (s5 _ _ e) hb)]; exact s5 _ _ e
      · have ei : m.evs[i]? = some p.2 := by rw [eps, List.getElem?_map, hp]; rfl
        rw [upd_same, List.take_succ, ei, List.flatMap_append, List.map_cons, List.map_cons, List.map_append]; rfl
    · rintro σ H' ⟨v, rfl, s5, hf⟩
      refine ⟨_, rfl, hd fa H' L ?_ hfa ?_⟩
      · rw [st_letter hm]; exact After.same hSs s5
      · rw [st_letter hm, hf, List.length_map, hpl, List.take_length]; rfl
end
end VD
end
/-! ## part ans -/
section
set_option Elab.async false
set_option linter.all false
set_option maxRecDepth 100000
set_option maxHeartbeats 4000000
namespace VD
open PySem PySem.Spec PyProof.Rows L2
open Sq32 (Call)
/-! ### a dict that the top has written, its keys ints -/
def IDct (K : PySem.W.Frag) (a : Addr) (i : Int) (v : V) : Prop :=
  ∃ es n u, K.lookup a = some ⟨.type "dict", none, .dict es n, #[]⟩ ∧ (∀ e ∈ es.toList, ∃ i t, e.key = .int i t ∧ e.hash = hashInt i) ∧ findBy Value.isInt es i = some u ∧ RelV v u
def rIxDI (K : PySem.W.Frag) : R2 := fun x y H Q => ∃ p i v, x = .ref p ∧ y = .int i ∧ IDct K p i v ∧ Q v H
theorem ix_idict {X : Cx} : IxR X (rIxDI X.K) := by
  intro _ _ pins s σ H x y v u Q I rx ry h hs
  obtain ⟨p, i, r, rfl, rfl, ⟨es, n, u0, hl, hk, e, ru⟩, q⟩ := h
  cases (show v = Value.ref p from rx)
  obtain ⟨t, rfl⟩ := ry
  have hm : s.heap.MapOf (intKind X.prog X.w) p (fun k => findBy Value.isInt es k) := ⟨_, es, n, I.kIn _ _ hl, ⟨rfl, rfl, rfl⟩, rfl, fun e he => by
    obtain ⟨i, t, e1, e2⟩ := hk e (Array.mem_toList_iff.mpr he)
    exact ⟨i, by rw [e1]; exact intKind_is X.prog X.w i t, e2⟩, fun _ => rfl⟩
  exact tail_any hm.typeIs slot_dict_getitem.lookup (wpAny_getItem_of (intKind_is X.prog X.w i t) hm e ⟨r, H, I.tok _, ru, q⟩) hs
/-! ### a call of the def that a slot holds, inside a try -/
def tCallLS (i : Nat) (Hd : Addr → Sp → Prop) (E : L2.St → XK) (t : TA) : TE := fun σ H Q => ∃ f sp, σ[i]? = some (some (.ref f)) ∧ Hd f sp ∧ t σ H fun vs H1 => sp vs H1 Q (E σ)
section
variable {X : Cx} {CX : CXT} {k i : Nat} {E : L2.St → XK} {x : Str} {p pos : Pos} {e : Expr} {es : List Expr} {t : TA} {Hd : Addr → Sp → Prop}
theorem pe_callLS (A : ∀ f sp, Hd f sp → ∃ fd ps, FnOk X.prog X.w X.K X.mg X.base CX k f fd ps sp ∧ PySem.W.keepIn X.K (.ref f) = true ∧ Binds X.K fd ps []) (hr : Room k X.A) (hN : X.N[i]? = some x) (hv : Vis X.env.scope x) (hx : ∀ σ, PassesAt CX X σ (E σ)) (ha : PA X (e :: es) t)
    (hcd : (x == ("__classdict__" : Str)) = false := by decide) (hdb : (x == ("__debug__" : Str)) = false := by decide)
    (he : starEach (e :: es) X.env = (false, eval e X.env) :: starEach es X.env := by rfl) (hpl : (backTo pos (starEach es X.env)).any (·.1) = false := by rfl) : PE X (.Call (.Name x p) (e :: es) [] pos) (tCallLS i Hd E t) := by
  refine ⟨fun pins s σ H Q I h => ?_⟩
  obtain ⟨f, sp, hs, hS, ht⟩ := h
  obtain ⟨fd, ps, F, hk, hb⟩ := A f sp hS
  have look := (pe_var (pos := p) hN hv hdb hcd).run pins s σ H (fun v H1 => v = .ref f ∧ H1 = H) I ⟨.ref f, hs, rfl, rfl⟩
  refine wpAny_Call_Name_kw (thn look fun u s1 hu => ?_)
  obtain ⟨v, H1, I1, r1, ev, eH⟩ := hu
  subst ev
  subst eH
  cases r1
  have given := ha.run pos pins s1 σ _ _ I1 ht
  refine PySem.W.callWith_K (h₀ := X.base) I.ok.mod.kin hk (thn given fun us s2 hv2 => ?_) he hpl
  obtain ⟨vs, H2, I2, r, q⟩ := hv2
  exact ⟨I2.kIn, run_fnS F hr hb (hx σ) I2 r q⟩
end
/-! ### answer -/
abbrev sAnswer : Stmt := topS 61
def spAnswer (C : Cs) : Sp := fun vs H Q _ => ∃ (c : Call) (S g : Addr) (L : Lay) (w : MW), vs = [.ref S, nI (opNo c), .ref g] ∧ Ss C H S L w ∧ WF w ∧ H g = some (.lst ((argsOf c).map nI)) ∧ L.tag g = none ∧ Done C Q H S L w c
theorem scAnswer : FnScope ["session", "number", "given", "deed", "refused"] ["session", "number", "given"] (defScope sAnswer) := ⟨rfl, rfl, rfl, by decide +kernel, rfl, by decide +kernel, by decide +kernel⟩
/-- a def that keeps this promise -/
def HdD (P : Program) (w : World) (K : PySem.W.Frag) (mg : Str → Option Value) (base : Heap) (f : Addr) (sp : Sp) : Prop := ∃ fd ps, FnOk P w K mg base (L2.CX P w) 12 f fd ps sp ∧ PySem.W.keepIn K (.ref f) = true ∧ Binds K fd ps []
section
variable {P : Program} {wo : World} {K : PySem.W.Frag} {mg : Str → Option Value} {base : Heap} {f fX : Addr} {fd : FuncData} {C : Cs}
theorem ok_answer (low : PySem.LowX.LowTxt K mg C.cX fX) {dA : Addr} (gD : mg "DEEDS" = some (.ref dA)) (hD : ∀ n : Nat, 1 ≤ n → n ≤ 12 → ∃ f, IDct K dA (n : Int) (.ref f) ∧ HdD P wo K mg base f (spDeed C n)) (F : Fun K "answer" "answer" sAnswer f fd) :
    FnOk P wo K mg base CX0 14 f fd ["session", "number", "given"] (spAnswer C) := by
  refine F.ok scAnswer (fun vs H Q E h => ?_) (fun cdv A outer s H vs Q E hr h => ?_)
  · obtain ⟨c, S, g, L, w, rfl, _⟩ := h; rfl
  · have hr1 : Room 12 _ := hr.mono (by decide)
    refine ⟨_, pss_one (ps_try_as (i := 4) (tb := fun W => tSeq (tAsg (tOp (rIxDI K) (tC (.ref dA)) (tVar 1)) (gName 3)) (tRet (tCallLS 3 (HdD P wo K mg base) (WE W) (tCons (tVar 0) (tCons (tVar 2) tNil)))))
        (ts := fun a cls d => tRet (tLst (tCons (tByLow C.cX a cls d (tVar 4)) tNil))) (Wout := fun _ _ _ _ => False) rfl rfl scAnswer.nd rfl rfl ⟨rfl, by decide, Or.inl low.gC⟩ takes0
        (fun W pn xe tk _ => pss_cons (ps_set (i := 3) scAnswer.nd rfl (Or.inl rfl) (by exact (pe_ix ix_idict (pe_glob rfl gD rfl (by decide)) (pv 1) (fun _ _ => rfl))))
          (pss_one (ps_ret (by exact (pe_callLS (fun f sp h => h) hr1 rfl (Or.inl rfl) (fun σ => passAt tk σ) (by exact (pa_cons (pv 0) (pa_cons (pv 2) pa_nil))))))))
        (fun a oe cls d pn hz hf => pss_one (ps_ret (by exact (pe_lst (pa_cons (pe_byLow low hz hf (pv 4)) pa_nil)))))), ?_⟩
    obtain ⟨c, S, g, L, w, rfl, hSs, wf, hg, tg, hd⟩ := h
    have hn : 1 ≤ opNo c ∧ opNo c ≤ 12 := by cases c <;> simp only [opNo] <;> decide
    obtain ⟨fD, hI, hF⟩ := hD (opNo c) hn.1 hn.2
    refine ⟨_, rfl, dA, _, _, rfl, rfl, hI, fD, _, rfl, hF, _, rfl, _, rfl, c, S, g, L, w, rfl, rfl, hSs, wf, hg, tg, fun z e d H' s hd' => ?_, hd⟩
    refine ⟨true, low.te, fun _ a0 _ => ?_, fun q => Bool.noConfusion q⟩
    exact ⟨_, rfl, rfl, rfl, d, _, rfl, hd', (by show 1 ≤ sizeLine; decide), fun p hp => hd.at e (After.same hSs s) hp rfl⟩
end
end VD
end
/-! ## part answers -/
section
set_option Elab.async false
set_option linter.all false
set_option maxRecDepth 100000
set_option maxHeartbeats 4000000
namespace VD
open PySem PySem.Spec PyProof.Rows L2
open Sq32 (Call)
/-- what lies in the middle -/
theorem cut_mid (xs ys zs : List V) {i j : Int} (hi : i = (xs.length : Int)) (hj : j = ((xs.length + ys.length : Nat) : Int)) : cutV (xs ++ (ys ++ zs)) (some i) (some j) = ys := by
  subst hi; subst hj
  unfold cutV
  rw [HT.sIx_nat, HT.sIx_nat]
  have e1 : min xs.length (xs ++ (ys ++ zs)).length = xs.length := by rw [List.length_append]; omega
  have e2 : min (xs.length + ys.length) (xs ++ (ys ++ zs)).length = xs.length + ys.length := by rw [List.length_append, List.length_append]; omega
  rw [e1, e2, List.drop_left, Nat.add_sub_cancel_left, List.take_left]
def numbers : List V := [.int 0, .int 1, .int 2, .int 2, .int 4, .int 1, .int 1, .int 1, .int 1, .int 2, .int 1, .int 4, .int 1]
theorem numbers_at (c : Call) : atI numbers (opNo c : Int) = some (nI (argsOf c).length) := by cases c <;> rfl
theorem enc_len (c : Call) : (enc c).length = 1 + (argsOf c).length := by
  rw [enc_eq, List.length_cons, List.length_map]; omega
theorem sz_ten {n : Nat} (h : n ≤ 10000000) : n ≤ sizeLine := by
  rw [sizeLine_eq]; exact Nat.le_trans h (by decide)
/-- a stranger's content changes -/
theorem Ss.foreign {C : Cs} {H H' : Hp} {S fa : Addr} {L : Lay} {w : MW} (h : Ss C H S L w) (t : L.tag fa = some (9, 9)) (k : ∀ b, b ≠ fa → H' b = H b) (n : H' fa ≠ none) : Ss C H' S L w := by
  obtain ⟨tS, ⟨dS, hS⟩, hW⟩ := h
  have ne : ∀ b, L.tag b ≠ some (9, 9) → b ≠ fa := fun b q e => q (by rw [e]; exact t)
  refine ⟨tS, ⟨dS, by rw [k S (ne S (by rw [tS]; simp))]; exact hS⟩, hW.move (T' := L.tag) (fun b o q e => ⟨rfl, by rw [k b (ne b q)]; exact e⟩) fun b q => ?_⟩
  by_cases c : b = fa
  · rw [c]; exact n
  · rw [k b c]; exact hW.tk b q
abbrev sAnswers : Stmt := topS 62
def spAnswers (K : PySem.W.Frag) : Sp := fun vs H Q _ => ∃ (a : Addr) (cs : List Call), vs = [.ref a] ∧ SqL K H a ((cs.flatMap enc).map V.int) ∧ (PyFlat.told (runM (mkW 1) cs)).length ≤ 10000000 ∧
  ∀ (H' : Hp) (p : Addr), H' p = some (.lst ((PyFlat.told (runM (mkW 1) cs)).map V.int)) → Q (.ref p) H'
theorem scAnswers : FnScope ["calls", "session", "found", "at", "end", "what"] ["calls"] (defScope sAnswers) := ⟨rfl, rfl, rfl, by decide +kernel, rfl, by decide +kernel, by decide +kernel⟩
/-- the turns: cs1 are done, rest are to come -/
def Turn (C : Cs) (H0 : Hp) (a S fa : Addr) (cs : List Call) (m : Nat) (σ : L2.St) (H : Hp) : Prop := ∃ (cs1 rest : List Call) (L : Lay) (w : MW) (out : List Int) (v4 v5 : Option V), m = rest.length ∧ cs = cs1 ++ rest ∧
  σ = [some (.ref a), some (.ref S), some (.ref fa), some (nI (cs1.flatMap enc).length), v4, v5] ∧ Ss C H S L w ∧ WF w ∧ L.tag fa = some (9, 9) ∧ H fa = some (.lst (out.map V.int)) ∧
  out ++ PyFlat.told (runM w rest) = PyFlat.told (runM (mkW 1) cs) ∧ (∀ b o, H0 b = some o → b ≠ S ∧ L.tag b = none ∧ H b = some o)
section
variable {P : Program} {wo : World} {K : PySem.W.Frag} {mg : Str → Option Value} {base : Heap} {f fS : Addr} {fd fdS : FuncData} {C : Cs}
theorem ok_answers (B : Blt mg) {nA : Addr} (gN : mg "NUMBERS" = some (.ref nA)) (hN : ∀ H, SqT K H nA numbers) (cA : Cal CX0 P wo K mg base 14 "answer" (spAnswer C)) (M : Mk K C.cS fS) (FS : FnOk P wo K mg base CX0 8 fS fdS ["self"] (spSeI C)) (gS : mg "Session" = some (.ref C.cS)) (bS : Binds K fdS ["self"] [])
    (F : Fun K "answers" "answers" sAnswers f fd) : FnOk P wo K mg base CX0 16 f fd ["calls"] (spAnswers K) := by
  refine F.ok scAnswers (fun vs H Q E h => ?_) (fun cdv A outer s H vs Q E hr h => ?_)
  · obtain ⟨a, cs, rfl, _⟩ := h; rfl
  · have hr9 : Room 9 _ := hr.mono (by decide)
    refine ⟨_, pss_cons (ps_set (i := 1) scAnswers.nd rfl (.inl rfl) (pe_make0 M FS hr9 rfl gS bS .nil pass0))
      (pss_cons (ps_set (i := 2) scAnswers.nd rfl (.inl rfl) (pe_lst pa_nil))
      (pss_cons (ps_set (i := 3) scAnswers.nd rfl (.inl rfl) pe_int)
      (pss_cons (ps_while PassesOwn.never (pt_cmpR op_lt (pv 3) (pe_callB call_len_seq (by rfl) B.len PySem.boot_len (pa_cons (pv 0) pa_nil)) (nomark _))
        (pss_cons (ps_set (i := 4) scAnswers.nd rfl (.inl rfl) (pe_op op_add (pe_op op_add (pv 3) pe_int) (pe_ix ix_tup (pe_glob (v := .ref nA) rfl gN rfl (by decide)) (pe_ix ix_list (pv 0) (pv 3) (fun _ _ => rfl)) (fun _ _ => rfl))))
        (pss_cons (ps_set (i := 5) scAnswers.nd rfl (.inl rfl) (pc cA hr (pa_cons (pv 1) (pa_cons (pe_ix ix_list (pv 0) (pv 3) (fun _ _ => rfl)) (pa_cons (pe_slice sl_list (pv 0) (po_some (pe_op op_add (pv 3) pe_int)) (po_some (pv 4))) pa_nil)))))
        (pss_cons (ps_expr (pe_bm PySem.F.plainAttrs_list PySem.F.slot_list_append PySem.F.type_list_append mt_append (pv 2) (pa_cons (pe_callB call_len_seq (by rfl) B.len PySem.boot_len (pa_cons (pv 5) pa_nil)) pa_nil)))
        (pss_cons (ps_expr (pe_bm PySem.F.plainAttrs_list PySem.F.slot_list_extend PySem.F.type_list_extend mt_extend (pv 2) (pa_cons (pv 5) pa_nil)))
        (pss_one (ps_set (i := 3) scAnswers.nd rfl (.inl rfl) (pv 4))))))))
      (pss_one (ps_ret (pv 2)))))), ?_⟩
    obtain ⟨a, cs, rfl, ha, hsz, q⟩ := h
    -- Session()
    intro x dx2 nx nd ne
    refine ⟨x, dx2, rfl, upd_same, fun H1 L hSs ht hk => ⟨rfl, ?_⟩⟩
    have hold : ∀ b o, H b = some o → b ≠ x ∧ L.tag b = none ∧ H1 b = some o := fun b o e => by
      have e2 : upd (upd H dx2 (.own x)) x (.ins C.cS dx2 []) b = some o := by rw [upd_ne (ne_of_none e nx), upd_ne (ne_of_none e nd)]; exact e
      refine ⟨ne_of_none e nx, ?_, hk b o (ne_of_none e nx) e2⟩
      cases z : L.tag b with
      | none => rfl
      | some y =>
        have := ht b (by rw [z]; simp)
        rw [e2] at this; cases this
    -- found = []
    refine ⟨Nat.zero_le _, fun fa hfa => ?_⟩
    have tfa : L.tag fa = none := by
      cases z : L.tag fa with
      | none => rfl
      | some y => exact absurd hfa (hSs.2.2.tk fa (by rw [z]; simp))
    obtain ⟨tS, ⟨dS, hS⟩, hW⟩ := hSs
    have nS : fa ≠ x := fun e => by rw [e, hS] at hfa; cases hfa
    refine ⟨Turn C H a x fa cs, ⟨cs.length, [], cs, { L with tag := fun b => if b = fa then some (9, 9) else L.tag b }, mkW 1, [], none, none, rfl, rfl, rfl, ⟨?_, ⟨dS, Same.new hfa _ _ hS⟩, hW.move (fun b o _ e => ⟨?_, Same.new hfa _ _ e⟩) fun b tb => ?_⟩,
      mkW_wf 1 (by decide) (by decide), if_pos rfl, upd_same, rfl, fun b o e => ?_⟩, ?_⟩
    · exact (if_neg (Ne.symm nS)).trans tS
    · exact if_neg (ne_of_none e hfa)
    · by_cases c : b = fa
      · rw [c, upd_same]; simp
      · rw [upd_ne c]; exact hW.tk b (fun z => tb ((if_neg c).trans z))
    · obtain ⟨y1, y2, y3⟩ := hold b o e
      exact ⟨y1, (if_neg (ne_of_none y3 hfa)).trans y2, Same.new hfa _ _ y3⟩
    rintro m σ H2 ⟨cs1, rest, L2, w, out, v4, v5, rfl, rfl, rfl, hSs, wf, tf, hf, ho, hk2⟩
    have sm : Same H H2 := fun b o e => (hk2 b o e).2.2
    have hA := sm.seq ha
    refine ⟨_, rfl, _, rfl, a, _, rfl, .inl hA, _, _, rfl, rfl, _, rfl, ?_⟩
    have hlen : ((((cs1 ++ rest).flatMap enc).map V.int).length : Int) = (((cs1.flatMap enc).length + (rest.flatMap enc).length : Nat) : Int) := by rw [List.length_map, List.flatMap_append, List.length_append]
    cases rest with
    | nil =>
      refine if_false_of (decide_eq_false ?_) ⟨_, rfl, ?_⟩
      · rw [hlen]
        show ¬ ((cs1.flatMap enc).length : Int) < (((cs1.flatMap enc).length + 0 : Nat) : Int)
        omega
      · refine q _ _ ?_
        rw [hf, ← ho]
        exact congrArg (fun l => some (HO.lst (List.map V.int l))) (List.append_nil out).symm
    | cons c rest =>
      have el : (cs1 ++ c :: rest).flatMap enc = cs1.flatMap enc ++ (enc c ++ rest.flatMap enc) := by rw [List.flatMap_append, List.flatMap_cons]
      have hel := enc_len c
      refine if_true_of (decide_eq_true ?_) ⟨Turn C H a x fa (cs1 ++ c :: rest) rest.length, fun σ' H' t => ⟨_, by rw [List.length_cons]; omega, t⟩, ?_⟩
      · rw [hlen, List.flatMap_cons, List.length_append]
        show ((cs1.flatMap enc).length : Int) < _
        omega
      have hxs : ((cs1 ++ c :: rest).flatMap enc).map V.int = (cs1.flatMap enc).map V.int ++ (nI (opNo c) :: ((argsOf c).map nI ++ (rest.flatMap enc).map V.int)) := by
        rw [el, List.map_append, List.map_append, enc_eq, List.map_cons, List.map_map]; rfl
      have hat : atI (((cs1 ++ c :: rest).flatMap enc).map V.int) ((cs1.flatMap enc).length : Int) = some (nI (opNo c)) := by
        refine atI_nat ?_
        rw [hxs, List.getElem?_append_right (by rw [List.length_map]; exact Nat.le_refl _), List.length_map, Nat.sub_self]; rfl
      -- end
      refine ⟨_, rfl, _, _, rfl, rfl, _, rfl, _, rfl, a, _, _, _, rfl, rfl, hA, hat, nA, _, _, _, rfl, rfl, hN _, numbers_at c, _, _, rfl, rfl, ?_⟩
      -- what
      refine ⟨_, rfl, _, rfl, _, rfl, a, _, _, _, rfl, rfl, hA, hat, _, rfl, _, rfl, _, _, rfl, rfl, _, rfl, _, rfl, _, rfl, a, _, rfl, hA, fun g hg => ?_⟩
      have s3 := Same.new (o := HO.lst (cutV (((cs1 ++ c :: rest).flatMap enc).map V.int) (some (((cs1.flatMap enc).length : Int) + 1)) (some (((cs1.flatMap enc).length : Int) + 1 + ((argsOf c).length : Int))))) hg
      have hcut : cutV (((cs1 ++ c :: rest).flatMap enc).map V.int) (some (((cs1.flatMap enc).length : Int) + 1)) (some (((cs1.flatMap enc).length : Int) + 1 + ((argsOf c).length : Int))) = (argsOf c).map nI := by
        have e1 : ((cs1 ++ c :: rest).flatMap enc).map V.int = ((cs1.flatMap enc).map V.int ++ [nI (opNo c)]) ++ ((argsOf c).map nI ++ (rest.flatMap enc).map V.int) := by rw [hxs, List.append_assoc]; rfl
        rw [e1]
        refine cut_mid _ _ _ ?_ ?_
        · rw [List.length_append, List.length_map]; rfl
        · rw [List.length_append, List.length_map, List.length_map]
          show ((cs1.flatMap enc).length : Int) + 1 + _ = (((cs1.flatMap enc).length + 1 + (argsOf c).length : Nat) : Int)
          omega
      have tg : L2.tag g = none := hSs.2.2.untagged hg
      refine ⟨c, x, g, L2, w, rfl, hSs.same s3, wf, by rw [upd_same, hcut], tg, fun p H3 L3 aft hp hp3 => ?_⟩
      have hf3 := aft.kf fa _ tf (s3 _ _ hf)
      have pfa : p ≠ fa := fun e => by rw [e, s3 _ _ hf] at hp; cases hp
      have hout : (out ++ (((stepM w c).2.length : Int) :: (stepM w c).2)) ++ PyFlat.told (runM (stepM w c).1 rest) = PyFlat.told (runM (mkW 1) (cs1 ++ c :: rest)) := by
        rw [← ho]
        show _ = out ++ ((((stepM w c).2.length : Int) :: (stepM w c).2) ++ PyFlat.told (runM (stepM w c).1 rest))
        rw [List.append_assoc]
      have hz : out.length + 1 + (stepM w c).2.length ≤ 10000000 := by
        have e := congrArg List.length hout
        rw [List.length_append, List.length_append, List.length_cons] at e
        omega
      -- found.append(len(what))
      refine ⟨_, rfl, .inl ⟨rfl, _, .of hf3.1⟩, _, rfl, p, _, rfl, .inl (.of hp3), fa, _, _, rfl, rfl, hf3.1, (by rw [List.length_map]; exact Nat.lt_of_succ_le (sz_ten (by omega))), ?_⟩
      -- found.extend(what)
      refine ⟨_, rfl, .inl ⟨rfl, _, .of upd_same⟩, _, rfl, fa, p, _, _, rfl, rfl, upd_same, (upd_ne pfa).trans hp3, (by rw [List.length_append, List.length_map, List.length_map]; exact sz_ten hz), ?_⟩
      refine ⟨_, rfl, cs1 ++ [c], rest, L3, (stepM w c).1, out ++ (((stepM w c).2.length : Int) :: (stepM w c).2), some (.int (((cs1.flatMap enc).length : Int) + 1 + ((argsOf c).length : Int))), some (.ref p), rfl, by rw [List.append_assoc]; rfl, ?_, ?_, (step_law wf c).2.2, hf3.2, ?_, hout, fun b o e => ?_⟩
      · have e1 : ((cs1 ++ [c]).flatMap enc).length = (cs1.flatMap enc).length + 1 + (argsOf c).length := by rw [List.flatMap_append, List.length_append, List.flatMap_cons, List.flatMap_nil, List.append_nil, hel]; omega
        rw [e1]
        have e2 : (((cs1.flatMap enc).length : Int) + 1 + ((argsOf c).length : Int)) = (((cs1.flatMap enc).length + 1 + (argsOf c).length : Nat) : Int) := by omega
        unfold nI
        rw [← e2]; rfl
      · refine (aft.ss.foreign hf3.2 (H' := _) (fun b c => ?_) ?_)
        · rw [upd_ne c, upd_ne c]
        · rw [upd_same]; simp
      · rw [upd_same, List.length_map]
        simp only [List.map_append, List.map_cons, List.append_assoc]; rfl
      · obtain ⟨y1, y2, y3⟩ := hk2 b o e
        obtain ⟨z1, z2⟩ := aft.kp b o y1 y2 (s3 _ _ y3)
        have bf : b ≠ fa := fun e => by rw [e, tf] at y2; cases y2
        refine ⟨y1, z2, ?_⟩
        rw [upd_ne bf, upd_ne bf]; exact z1
end
end VD
end
/-! ## part top -/
section
set_option Elab.async false
set_option linter.all false
set_option maxRecDepth 100000
set_option maxHeartbeats 4000000
namespace VD
open PySem PySem.Spec PyProof.Rows L2
/-! ### what the top has written, as the end finds it -/
/-- a def of the top at f -/
def DefAt (K : PySem.W.Frag) (x : Str) (i : Nat) (f : Addr) : Prop := PySem.W.nsIn K mainGlobals x = some (some (.ref f)) ∧ ∃ fd, Fun K x x (topS i) f fd
theorem def_at {K : PySem.W.Frag} {x : Str} {i : Nat} {f : Addr} {oc : Value} {od an : Option Addr} {osl : Array (Option Value)} {kV doc pm cdv ct : Value} (a : PySem.W.nsIn K mainGlobals x = some (some (.ref f)))
    (l : K.lookup f = some ⟨oc, od, .func (PySem.W.fnOf x x (defArgs (topS i)) (defBody (topS i)) (defScope (topS i)) .none kV doc pm an cdv ct), osl⟩) (c : PySem.W.codeIn K cdv x = true) (k : PySem.W.keepIn K (.ref f) = true) : DefAt K x i f := ⟨a, _, fun_mk (st := topS i) l c k⟩
/-- an __init__ of the class at C -/
def InitAt (K : PySem.W.Frag) (C : Addr) (q : Str) (st : Stmt) : Prop := ∃ f fd, PySem.W.findIn K (.ref C) "__init__" = some (some (.ref f)) ∧ PySem.W.isFn K (.ref f) = true ∧ Fun K "__init__" q st f fd
theorem init_at {K : PySem.W.Frag} {C : Addr} {q : Str} {st : Stmt} {f : Addr} {oc : Value} {od an : Option Addr} {osl : Array (Option Value)} {kV doc pm cdv ct : Value} (a : PySem.W.findIn K (.ref C) "__init__" = some (some (.ref f))) (i : PySem.W.isFn K (.ref f) = true)
    (l : K.lookup f = some ⟨oc, od, .func (PySem.W.fnOf "__init__" q (defArgs st) (defBody st) (defScope st) .none kV doc pm an cdv ct), osl⟩) (c : PySem.W.codeIn K cdv q = true) (k : PySem.W.keepIn K (.ref f) = true) : InitAt K C q st := ⟨f, _, a, i, fun_mk (st := st) l c k⟩
/-- a class of the top at C -/
structure ClT (K : PySem.W.Frag) (x : Str) (C : Addr) : Prop where
  ns : PySem.W.nsIn K mainGlobals x = some (some (.ref C))
  cl : Cls K C
  mks : PySem.W.makesIn K C = true
  kp : PySem.W.keepIn K (.ref C) = true
theorem cls_at {K : PySem.W.Frag} {x : Str} {C : Addr} (a : PySem.W.nsIn K mainGlobals x = some (some (.ref C))) (pg : PySem.W.plainGet K C Str.empty = true) (hd : PySem.W.hasDictIn K C = true) (po : PySem.W.plainOver K C = true)
    (sa : PySem.W.findIn K (.ref C) "__setattr__" = some (some (.builtin "object.__setattr__"))) (mk : PySem.W.makesIn K C = true) (kp : PySem.W.keepIn K (.ref C) = true) : ClT K x C := ⟨a, ⟨pg, hd, po, sa⟩, mk, kp⟩
/-- a number of the top -/
theorem int_of {K : PySem.W.Frag} {h : Heap} {mg : Str → Option Value} {x : Str} {z : Int} (X : K.In h) (G : h.Ns mainGlobals mg) (e : ∃ v, PySem.W.nsIn K mainGlobals x = some (some v) ∧ Value.isInt z v = true) : ∃ t, mg x = some (.int z t) := by
  obtain ⟨v, h1, h2⟩ := e
  obtain ⟨t, rfl⟩ := Value.isInt_shape h2
  exact ⟨t, PySem.W.mg_of X G h1⟩
theorem con_at {K : PySem.W.Frag} {x : Str} {z : Int} {v : Value} (h1 : PySem.W.nsIn K mainGlobals x = some (some v)) (h2 : Value.isInt z v = true) : ∃ v, PySem.W.nsIn K mainGlobals x = some (some v) ∧ Value.isInt z v = true := ⟨v, h1, h2⟩
/-- an error of the class at S is what its own clause names -/
theorem exm_own {K : PySem.W.Frag} {S : Addr} (h1 : PySem.W.subIn K (.ref S) (.type "BaseException") = some true) (h2 : PySem.W.isClsIn K S = true) (h3 : PySem.W.typeIn K (.ref S) = some (.type "type")) (h4 : PySem.W.subIn K (.ref S) (.ref S) = some true) :
    PySem.W.exmOne K (.ref S) (.ref S) = some true := by
  have e1 : (PySem.W.subIn K (.ref S) (.type "BaseException") == some true) = true := by rw [h1] <;> rfl
  have e2 : ((PySem.W.clsIn K S).isSome && PySem.W.typeIn K (.ref S) == some (.type "type")) = true := by
    have h2' : (PySem.W.clsIn K S).isSome = true := h2
    rw [h2', h3] <;> rfl
  show (if (PySem.W.subIn K (.ref S) (.type "BaseException") == some true) = true then (if ((PySem.W.clsIn K S).isSome && PySem.W.typeIn K (.ref S) == some (.type "type")) = true then PySem.W.subIn K (.ref S) (.ref S) else none) else none) = some true
  rw [if_pos e1, if_pos e2]
  exact h4
/-- Refused, at C -/
def RefAt (K : PySem.W.Frag) (C : Addr) : Prop := ∃ fX, ∀ mg : Str → Option Value, mg "Refused" = some (.ref C) → PySem.LowX.LowTxt K mg C fX
theorem ref_at {K : PySem.W.Frag} {C f1 : Addr} {nm q : Str} {N : Addr} {bs : List Value} {sn : List Str} {sub : List Value} {ab : Bool} {col : Option Bool} {dd : Option Addr} {m0 m1 m2 m3 m5 : Option Value} {od1 an1 : Option Addr} {sl1 : Array (Option Value)} {oc1 dc1 pm1 cd1 ct1 : Value} {p1 p2 q1 q2 q3 q4 : Pos}
    (xL : K.lookup C = some (excClassObj nm q C N bs [.type "ValueError", .type "Exception", .type "BaseException", .type "object"] true sn sub ab col dd m0 m1 m2 m3 m5 "ValueError.__new__"))
    (sa : PySem.W.findIn K (.ref C) "__setattr__" = some (some (.builtin "object.__setattr__"))) (ga : PySem.W.findIn K (.ref C) "__getattribute__" = some (some (.builtin "BaseException.__getattribute__"))) (gg : PySem.W.findIn K (.ref C) "__getattr__" = some none) (nb : PySem.W.findIn K (.ref C) "code" = some none)
    (a1 : PySem.W.findIn K (.ref C) "__init__" = some (some (.ref f1))) (t1 : PySem.W.typeIn K (.ref f1) = some (.type "function"))
    (l1 : K.lookup f1 = some ⟨oc1, od1, .func (PySem.W.fnOf "__init__" "Refused.__init__" (PySem.LowX.iA p1 p2) (PySem.LowX.iB q1 q2 q3 q4) PySem.LowX.iS .none .none dc1 pm1 an1 cd1 ct1), sl1⟩) (c1 : PySem.W.codeIn K cd1 "Refused.__init__" = true)
    (kC : PySem.W.keepIn K (.ref C) = true) (eC : PySem.W.subIn K (.ref C) (.type "BaseException") = some true) (tC : PySem.W.typeIn K (.ref C) = some (.type "type")) (hC : PySem.W.hasDictIn K C = true) (iC : PySem.W.isClsIn K C = true) (sC : PySem.W.subIn K (.ref C) (.ref C) = some true) : RefAt K C :=
  ⟨f1, fun mg gC => { gC := gC, cls := ⟨nm, q, N, bs, _, sn, sub, ab, col, dd, m0, m1, m2, m3, m5, xL, by decide +kernel⟩, sa := sa, ga := ga, gg := gg, noN := nb, iC := a1, tC := t1, kC := kC, exC := eC, tyC := tC, hdC := hC, te := exm_own eC iC tC sC, fn := ⟨_, _, _, _, _, _, _, _, _, _, _, _, _, _, l1, c1⟩ }⟩
/-- NUMBERS, at a -/
def NumAt (K : PySem.W.Frag) (a : Addr) : Prop := ∀ H, SqT K H a numbers
theorem num_at {K : PySem.W.Frag} {a : Addr} {dd : Option Addr} {n : Nat} {sl : Array (Option Value)} {t0 t1 t2 t3 t4 t5 t6 t7 t8 t9 t10 t11 t12 : Tok}
    (l : K.lookup a = some ⟨.type "tuple", dd, .seq #[.int 0 t0, .int 1 t1, .int 2 t2, .int 2 t3, .int 4 t4, .int 1 t5, .int 1 t6, .int 1 t7, .int 1 t8, .int 2 t9, .int 1 t10, .int 4 t11, .int 1 t12] n, sl⟩) : NumAt K a := fun H =>
  .inr ⟨_, _, n, l, rfl, rfl, (by show 13 ≤ sizeLine; decide), .cons ⟨_, rfl⟩ (.cons ⟨_, rfl⟩ (.cons ⟨_, rfl⟩ (.cons ⟨_, rfl⟩ (.cons ⟨_, rfl⟩ (.cons ⟨_, rfl⟩ (.cons ⟨_, rfl⟩ (.cons ⟨_, rfl⟩ (.cons ⟨_, rfl⟩ (.cons ⟨_, rfl⟩ (.cons ⟨_, rfl⟩ (.cons ⟨_, rfl⟩ (.cons ⟨_, rfl⟩ .nil))))))))))))⟩
/-- DEEDS, at a: twelve defs -/
def DeedsAt (K : PySem.W.Frag) (a : Addr) (fs : List Addr) : Prop := ∀ (n : Nat) f, fs[n]? = some f → IDct K a ((n + 1 : Nat) : Int) (.ref f)
def ent (i : Int) (t : Tok) (f : Addr) : DictEntry := { hash := hashInt i, key := .int i t, val := .ref f }
theorem deeds_at {K : PySem.W.Frag} {a : Addr} {n : Nat} {f1 f2 f3 f4 f5 f6 f7 f8 f9 f10 f11 f12 : Addr} {k1 k2 k3 k4 k5 k6 k7 k8 k9 k10 k11 k12 : Tok}
    (l : K.lookup a = some ⟨.type "dict", none, .dict #[{ hash := 1, key := .int 1 k1, val := .ref f1 }, { hash := 2, key := .int 2 k2, val := .ref f2 }, { hash := 3, key := .int 3 k3, val := .ref f3 }, { hash := 4, key := .int 4 k4, val := .ref f4 }, { hash := 5, key := .int 5 k5, val := .ref f5 }, { hash := 6, key := .int 6 k6, val := .ref f6 }, { hash := 7, key := .int 7 k7, val := .ref f7 }, { hash := 8, key := .int 8 k8, val := .ref f8 }, { hash := 9, key := .int 9 k9, val := .ref f9 }, { hash := 10, key := .int 10 k10, val := .ref f10 }, { hash := 11, key := .int 11 k11, val := .ref f11 }, { hash := 12, key := .int 12 k12, val := .ref f12 }] n, #[]⟩) : DeedsAt K a [f1, f2, f3, f4, f5, f6, f7, f8, f9, f10, f11, f12] := by
  intro j f hj
  refine ⟨_, n, .ref f, l, ?_, ?_, rfl⟩
  · intro e he
    have he' := he
    simp only [List.mem_cons, List.not_mem_nil, or_false] at he'
    rcases he' with rfl | rfl | rfl | rfl | rfl | rfl | rfl | rfl | rfl | rfl | rfl | rfl
    · exact ⟨_, _, rfl, (by decide +kernel : (1 : Int) = hashInt 1)⟩
    · exact ⟨_, _, rfl, (by decide +kernel : (2 : Int) = hashInt 2)⟩
    · exact ⟨_, _, rfl, (by decide +kernel : (3 : Int) = hashInt 3)⟩
    · exact ⟨_, _, rfl, (by decide +kernel : (4 : Int) = hashInt 4)⟩
    · exact ⟨_, _, rfl, (by decide +kernel : (5 : Int) = hashInt 5)⟩
    · exact ⟨_, _, rfl, (by decide +kernel : (6 : Int) = hashInt 6)⟩
    · exact ⟨_, _, rfl, (by decide +kernel : (7 : Int) = hashInt 7)⟩
    · exact ⟨_, _, rfl, (by decide +kernel : (8 : Int) = hashInt 8)⟩
    · exact ⟨_, _, rfl, (by decide +kernel : (9 : Int) = hashInt 9)⟩
    · exact ⟨_, _, rfl, (by decide +kernel : (10 : Int) = hashInt 10)⟩
    · exact ⟨_, _, rfl, (by decide +kernel : (11 : Int) = hashInt 11)⟩
    · exact ⟨_, _, rfl, (by decide +kernel : (12 : Int) = hashInt 12)⟩
  · rcases j with _ | _ | _ | _ | _ | _ | _ | _ | _ | _ | _ | _ | j <;> first | (cases hj; rfl) | (simp at hj)
/-- all of it -/
structure Facts (K : PySem.W.Frag) (cE cR cM cW cS cX dA nA : Addr) (fs : List Addr) : Prop where
  d_noughts : ∃ f, DefAt K "noughts" 1 f
  d_is_in : ∃ f, DefAt K "is_in" 2 f
  d_is_within : ∃ f, DefAt K "is_within" 3 f
  d_greater : ∃ f, DefAt K "greater" 4 f
  d_lesser : ∃ f, DefAt K "lesser" 5 f
  d_with_event : ∃ f, DefAt K "with_event" 6 f
  d_many_events : ∃ f, DefAt K "many_events" 12 f
  d_is_event : ∃ f, DefAt K "is_event" 13 f
  d_event_of : ∃ f, DefAt K "event_of" 14 f
  d_can_apply : ∃ f, DefAt K "can_apply" 15 f
  d_apply_event : ∃ f, DefAt K "apply_event" 16 f
  d_create_event : ∃ f, DefAt K "create_event" 17 f
  d_next_event : ∃ f, DefAt K "next_event" 18 f
  d_drop_applied : ∃ f, DefAt K "drop_applied" 19 f
  d_take_events : ∃ f, DefAt K "take_events" 20 f
  d_known_vector : ∃ f, DefAt K "known_vector" 21 f
  d_lacking : ∃ f, DefAt K "lacking" 22 f
  d_put_message : ∃ f, DefAt K "put_message" 23 f
  d_deliver_message : ∃ f, DefAt K "deliver_message" 24 f
  d_stable_vector : ∃ f, DefAt K "stable_vector" 25 f
  d_refuse_if : ∃ f, DefAt K "refuse_if" 41 f
  d_need_replica : ∃ f, DefAt K "need_replica" 42 f
  d_need_two : ∃ f, DefAt K "need_two" 43 f
  d_need_room : ∃ f, DefAt K "need_room" 44 f
  d_need_message : ∃ f, DefAt K "need_message" 45 f
  d_told_events : ∃ f, DefAt K "told_events" 46 f
  d_depends : ∃ f, DefAt K "depends" 57 f
  d_begin : ∃ f, DefAt K "begin" 47 f ∧ fs[0]? = some f
  d_create : ∃ f, DefAt K "create" 48 f ∧ fs[1]? = some f
  d_send : ∃ f, DefAt K "send" 49 f ∧ fs[2]? = some f
  d_send_one : ∃ f, DefAt K "send_one" 50 f ∧ fs[3]? = some f
  d_deliver : ∃ f, DefAt K "deliver" 51 f ∧ fs[4]? = some f
  d_applied : ∃ f, DefAt K "applied" 52 f ∧ fs[5]? = some f
  d_pending : ∃ f, DefAt K "pending" 53 f ∧ fs[6]? = some f
  d_vector : ∃ f, DefAt K "vector" 54 f ∧ fs[7]? = some f
  d_known : ∃ f, DefAt K "known" 55 f ∧ fs[8]? = some f
  d_stable : ∃ f, DefAt K "stable" 56 f ∧ fs[9]? = some f
  d_compare : ∃ f, DefAt K "compare" 58 f ∧ fs[10]? = some f
  d_message_told : ∃ f, DefAt K "message_told" 59 f ∧ fs[11]? = some f
  d_answer : ∃ f, DefAt K "answer" 61 f
  d_answers : ∃ f, DefAt K "answers" 62 f
  c_Event : ClT K "Event" cE
  i_Event : InitAt K cE "Event.__init__" (inClass (topS 8) 0)
  n_Event_value : NoAttr K cE "value"
  n_Event_needs : NoAttr K cE "needs"
  c_Replica : ClT K "Replica" cR
  i_Replica : InitAt K cR "Replica.__init__" (inClass (topS 9) 0)
  n_Replica_vector : NoAttr K cR "vector"
  n_Replica_applied : NoAttr K cR "applied"
  n_Replica_pending : NoAttr K cR "pending"
  n_Replica_known : NoAttr K cR "known"
  c_Message : ClT K "Message" cM
  i_Message : InitAt K cM "Message.__init__" (inClass (topS 10) 0)
  n_Message_sender : NoAttr K cM "sender"
  n_Message_receiver : NoAttr K cM "receiver"
  n_Message_vector : NoAttr K cM "vector"
  n_Message_events : NoAttr K cM "events"
  c_World : ClT K "World" cW
  i_World : InitAt K cW "World.__init__" (inClass (topS 11) 0)
  n_World_replicas : NoAttr K cW "replicas"
  n_World_events : NoAttr K cW "events"
  n_World_messages : NoAttr K cW "messages"
  c_Session : ClT K "Session" cS
  i_Session : InitAt K cS "Session.__init__" (inClass (topS 40) 0)
  n_Session_world : NoAttr K cS "world"
  c_Refused : PySem.W.nsIn K mainGlobals "Refused" = some (some (.ref cX))
  r_Refused : RefAt K cX
  c_NUMBERS : PySem.W.nsIn K mainGlobals "NUMBERS" = some (some (.ref nA))
  v_NUMBERS : NumAt K nA
  c_DEEDS : PySem.W.nsIn K mainGlobals "DEEDS" = some (some (.ref dA))
  v_DEEDS : DeedsAt K dA fs
  b_len : PySem.W.nsIn K mainGlobals "len" = some none
  b_zip : PySem.W.nsIn K mainGlobals "zip" = some none
  b_range : PySem.W.nsIn K mainGlobals "range" = some none
  b_max : PySem.W.nsIn K mainGlobals "max" = some none
  b_min : PySem.W.nsIn K mainGlobals "min" = some none
  b_sum : PySem.W.nsIn K mainGlobals "sum" = some none
  b_sorted : PySem.W.nsIn K mainGlobals "sorted" = some none
  b_set : PySem.W.nsIn K mainGlobals "set" = some none
  b_list : PySem.W.nsIn K mainGlobals "list" = some none
  k_oor : ∃ v, PySem.W.nsIn K mainGlobals "OUT_OF_RANGE" = some (some v) ∧ Value.isInt (-1) v = true
  k_nth : ∃ v, PySem.W.nsIn K mainGlobals "NOT_THERE" = some (some v) ∧ Value.isInt (-2) v = true
  k_nap : ∃ v, PySem.W.nsIn K mainGlobals "NOT_APPLIED" = some (some v) ∧ Value.isInt (-3) v = true
  k_tmy : ∃ v, PySem.W.nsIn K mainGlobals "TOO_MANY" = some (some v) ∧ Value.isInt (-5) v = true
  k_mrp : ∃ v, PySem.W.nsIn K mainGlobals "MOST_REPLICAS" = some (some v) ∧ Value.isInt (6) v = true
  k_mvl : ∃ v, PySem.W.nsIn K mainGlobals "MOST_VALUE" = some (some v) ∧ Value.isInt (1000000000) v = true
  k_mev : ∃ v, PySem.W.nsIn K mainGlobals "MOST_EVENTS" = some (some v) ∧ Value.isInt (60) v = true
  k_mms : ∃ v, PySem.W.nsIn K mainGlobals "MOST_MESSAGES" = some (some v) ∧ Value.isInt (200) v = true
  k_nei : ∃ v, PySem.W.nsIn K mainGlobals "NEITHER" = some (some v) ∧ Value.isInt (0) v = true
  k_fst : ∃ v, PySem.W.nsIn K mainGlobals "FIRST_AHEAD" = some (some v) ∧ Value.isInt (1) v = true
  k_snd : ∃ v, PySem.W.nsIn K mainGlobals "SECOND_AHEAD" = some (some v) ∧ Value.isInt (2) v = true
theorem all_ok {P : Program} {wo : World} {K : PySem.W.Frag} {h : Heap} {mg : Str → Option Value} {fa cE cR cM cW cS cX dA nA : Addr} {fs : List Addr} (X : K.In h) (G : h.Ns mainGlobals mg) (hfa : mg "answers" = some (.ref fa)) (W : Facts K cE cR cM cW cS cX dA nA fs) :
    ∃ fd : FuncData, (∀ (s : Shared) (us : List Value), us.length = (["calls"] : List Str).length → BindsTo s fd ⟨us, []⟩ ((["calls"] : List Str).zip us)) ∧ ∀ base : Heap, K.In base → base.Ns mainGlobals mg → FnOk P wo K mg base CX0 16 fa fd ["calls"] (spAnswers K) := by
  let C : Cs := ⟨cE, cR, cM, cW, cS, cX⟩
  have B : Blt mg := ⟨PySem.W.mg_none_of X G W.b_len, PySem.W.mg_none_of X G W.b_zip, PySem.W.mg_none_of X G W.b_range, PySem.W.mg_none_of X G W.b_max, PySem.W.mg_none_of X G W.b_min, PySem.W.mg_none_of X G W.b_sum, PySem.W.mg_none_of X G W.b_sorted, PySem.W.mg_none_of X G W.b_set, PySem.W.mg_none_of X G W.b_list⟩
  have N : Cst mg := ⟨int_of X G W.k_oor, int_of X G W.k_nth, int_of X G W.k_nap, int_of X G W.k_tmy, int_of X G W.k_mrp, int_of X G W.k_mvl, int_of X G W.k_mev, int_of X G W.k_mms, int_of X G W.k_nei, int_of X G W.k_fst, int_of X G W.k_snd⟩
  have T : Txt K C := ⟨W.c_Event.cl, W.c_Replica.cl, W.c_Message.cl, W.c_World.cl, W.c_Session.cl, W.n_Event_value, W.n_Event_needs, W.n_Replica_vector, W.n_Replica_applied, W.n_Replica_pending, W.n_Replica_known, W.n_Message_sender, W.n_Message_receiver, W.n_Message_vector, W.n_Message_events, W.n_World_replicas, W.n_World_events, W.n_World_messages, W.n_Session_world⟩
  obtain ⟨fX, hX⟩ := W.r_Refused
  have low := hX mg (PySem.W.mg_of X G W.c_Refused)
  obtain ⟨f_noughts, a_noughts, fd_noughts, F_noughts⟩ := W.d_noughts
  have B_noughts := F_noughts.binds (ps := ["many"]) fun _ _ _ _ _ _ us hl => match us, hl with | [_], _ => rfl
  obtain ⟨f_is_in, a_is_in, fd_is_in, F_is_in⟩ := W.d_is_in
  have B_is_in := F_is_in.binds (ps := ["event", "vector"]) fun _ _ _ _ _ _ us hl => match us, hl with | [_, _], _ => rfl
  obtain ⟨f_is_within, a_is_within, fd_is_within, F_is_within⟩ := W.d_is_within
  have B_is_within := F_is_within.binds (ps := ["one", "other"]) fun _ _ _ _ _ _ us hl => match us, hl with | [_, _], _ => rfl
  obtain ⟨f_greater, a_greater, fd_greater, F_greater⟩ := W.d_greater
  have B_greater := F_greater.binds (ps := ["one", "other"]) fun _ _ _ _ _ _ us hl => match us, hl with | [_, _], _ => rfl
  obtain ⟨f_lesser, a_lesser, fd_lesser, F_lesser⟩ := W.d_lesser
  have B_lesser := F_lesser.binds (ps := ["one", "other"]) fun _ _ _ _ _ _ us hl => match us, hl with | [_, _], _ => rfl
  obtain ⟨f_with_event, a_with_event, fd_with_event, F_with_event⟩ := W.d_with_event
  have B_with_event := F_with_event.binds (ps := ["vector", "event"]) fun _ _ _ _ _ _ us hl => match us, hl with | [_, _], _ => rfl
  obtain ⟨f_many_events, a_many_events, fd_many_events, F_many_events⟩ := W.d_many_events
  have B_many_events := F_many_events.binds (ps := ["world"]) fun _ _ _ _ _ _ us hl => match us, hl with | [_], _ => rfl
  obtain ⟨f_is_event, a_is_event, fd_is_event, F_is_event⟩ := W.d_is_event
  have B_is_event := F_is_event.binds (ps := ["world", "replica", "number"]) fun _ _ _ _ _ _ us hl => match us, hl with | [_, _, _], _ => rfl
  obtain ⟨f_event_of, a_event_of, fd_event_of, F_event_of⟩ := W.d_event_of
  have B_event_of := F_event_of.binds (ps := ["world", "event"]) fun _ _ _ _ _ _ us hl => match us, hl with | [_, _], _ => rfl
  obtain ⟨f_can_apply, a_can_apply, fd_can_apply, F_can_apply⟩ := W.d_can_apply
  have B_can_apply := F_can_apply.binds (ps := ["world", "replica", "event"]) fun _ _ _ _ _ _ us hl => match us, hl with | [_, _, _], _ => rfl
  obtain ⟨f_apply_event, a_apply_event, fd_apply_event, F_apply_event⟩ := W.d_apply_event
  have B_apply_event := F_apply_event.binds (ps := ["replica", "event"]) fun _ _ _ _ _ _ us hl => match us, hl with | [_, _], _ => rfl
  obtain ⟨f_create_event, a_create_event, fd_create_event, F_create_event⟩ := W.d_create_event
  have B_create_event := F_create_event.binds (ps := ["world", "number", "value"]) fun _ _ _ _ _ _ us hl => match us, hl with | [_, _, _], _ => rfl
  obtain ⟨f_next_event, a_next_event, fd_next_event, F_next_event⟩ := W.d_next_event
  have B_next_event := F_next_event.binds (ps := ["world", "replica"]) fun _ _ _ _ _ _ us hl => match us, hl with | [_, _], _ => rfl
  obtain ⟨f_drop_applied, a_drop_applied, fd_drop_applied, F_drop_applied⟩ := W.d_drop_applied
  have B_drop_applied := F_drop_applied.binds (ps := ["replica"]) fun _ _ _ _ _ _ us hl => match us, hl with | [_], _ => rfl
  obtain ⟨f_take_events, a_take_events, fd_take_events, F_take_events⟩ := W.d_take_events
  have B_take_events := F_take_events.binds (ps := ["world", "replica", "events"]) fun _ _ _ _ _ _ us hl => match us, hl with | [_, _, _], _ => rfl
  obtain ⟨f_known_vector, a_known_vector, fd_known_vector, F_known_vector⟩ := W.d_known_vector
  have B_known_vector := F_known_vector.binds (ps := ["world", "number", "other"]) fun _ _ _ _ _ _ us hl => match us, hl with | [_, _, _], _ => rfl
  obtain ⟨f_lacking, a_lacking, fd_lacking, F_lacking⟩ := W.d_lacking
  have B_lacking := F_lacking.binds (ps := ["world", "sender", "receiver"]) fun _ _ _ _ _ _ us hl => match us, hl with | [_, _, _], _ => rfl
  obtain ⟨f_put_message, a_put_message, fd_put_message, F_put_message⟩ := W.d_put_message
  have B_put_message := F_put_message.binds (ps := ["world", "sender", "receiver", "events"]) fun _ _ _ _ _ _ us hl => match us, hl with | [_, _, _, _], _ => rfl
  obtain ⟨f_deliver_message, a_deliver_message, fd_deliver_message, F_deliver_message⟩ := W.d_deliver_message
  have B_deliver_message := F_deliver_message.binds (ps := ["world", "message"]) fun _ _ _ _ _ _ us hl => match us, hl with | [_, _], _ => rfl
  obtain ⟨f_stable_vector, a_stable_vector, fd_stable_vector, F_stable_vector⟩ := W.d_stable_vector
  have B_stable_vector := F_stable_vector.binds (ps := ["world", "number"]) fun _ _ _ _ _ _ us hl => match us, hl with | [_, _], _ => rfl
  obtain ⟨f_refuse_if, a_refuse_if, fd_refuse_if, F_refuse_if⟩ := W.d_refuse_if
  have B_refuse_if := F_refuse_if.binds (ps := ["asked", "code"]) fun _ _ _ _ _ _ us hl => match us, hl with | [_, _], _ => rfl
  obtain ⟨f_need_replica, a_need_replica, fd_need_replica, F_need_replica⟩ := W.d_need_replica
  have B_need_replica := F_need_replica.binds (ps := ["session", "number"]) fun _ _ _ _ _ _ us hl => match us, hl with | [_, _], _ => rfl
  obtain ⟨f_need_two, a_need_two, fd_need_two, F_need_two⟩ := W.d_need_two
  have B_need_two := F_need_two.binds (ps := ["session", "one", "other"]) fun _ _ _ _ _ _ us hl => match us, hl with | [_, _, _], _ => rfl
  obtain ⟨f_need_room, a_need_room, fd_need_room, F_need_room⟩ := W.d_need_room
  have B_need_room := F_need_room.binds (ps := ["session"]) fun _ _ _ _ _ _ us hl => match us, hl with | [_], _ => rfl
  obtain ⟨f_need_message, a_need_message, fd_need_message, F_need_message⟩ := W.d_need_message
  have B_need_message := F_need_message.binds (ps := ["session", "number"]) fun _ _ _ _ _ _ us hl => match us, hl with | [_, _], _ => rfl
  obtain ⟨f_told_events, a_told_events, fd_told_events, F_told_events⟩ := W.d_told_events
  have B_told_events := F_told_events.binds (ps := ["session", "events"]) fun _ _ _ _ _ _ us hl => match us, hl with | [_, _], _ => rfl
  obtain ⟨f_depends, a_depends, fd_depends, F_depends⟩ := W.d_depends
  have B_depends := F_depends.binds (ps := ["session", "one", "other"]) fun _ _ _ _ _ _ us hl => match us, hl with | [_, _, _], _ => rfl
  obtain ⟨f_begin, ⟨a_begin, fd_begin, F_begin⟩, e_begin⟩ := W.d_begin
  have B_begin := F_begin.binds (ps := ["session", "given"]) fun _ _ _ _ _ _ us hl => match us, hl with | [_, _], _ => rfl
  obtain ⟨f_create, ⟨a_create, fd_create, F_create⟩, e_create⟩ := W.d_create
  have B_create := F_create.binds (ps := ["session", "given"]) fun _ _ _ _ _ _ us hl => match us, hl with | [_, _], _ => rfl
  obtain ⟨f_send, ⟨a_send, fd_send, F_send⟩, e_send⟩ := W.d_send
  have B_send := F_send.binds (ps := ["session", "given"]) fun _ _ _ _ _ _ us hl => match us, hl with | [_, _], _ => rfl
  obtain ⟨f_send_one, ⟨a_send_one, fd_send_one, F_send_one⟩, e_send_one⟩ := W.d_send_one
  have B_send_one := F_send_one.binds (ps := ["session", "given"]) fun _ _ _ _ _ _ us hl => match us, hl with | [_, _], _ => rfl
  obtain ⟨f_deliver, ⟨a_deliver, fd_deliver, F_deliver⟩, e_deliver⟩ := W.d_deliver
  have B_deliver := F_deliver.binds (ps := ["session", "given"]) fun _ _ _ _ _ _ us hl => match us, hl with | [_, _], _ => rfl
  obtain ⟨f_applied, ⟨a_applied, fd_applied, F_applied⟩, e_applied⟩ := W.d_applied
  have B_applied := F_applied.binds (ps := ["session", "given"]) fun _ _ _ _ _ _ us hl => match us, hl with | [_, _], _ => rfl
  obtain ⟨f_pending, ⟨a_pending, fd_pending, F_pending⟩, e_pending⟩ := W.d_pending
  have B_pending := F_pending.binds (ps := ["session", "given"]) fun _ _ _ _ _ _ us hl => match us, hl with | [_, _], _ => rfl
  obtain ⟨f_vector, ⟨a_vector, fd_vector, F_vector⟩, e_vector⟩ := W.d_vector
  have B_vector := F_vector.binds (ps := ["session", "given"]) fun _ _ _ _ _ _ us hl => match us, hl with | [_, _], _ => rfl
  obtain ⟨f_known, ⟨a_known, fd_known, F_known⟩, e_known⟩ := W.d_known
  have B_known := F_known.binds (ps := ["session", "given"]) fun _ _ _ _ _ _ us hl => match us, hl with | [_, _], _ => rfl
  obtain ⟨f_stable, ⟨a_stable, fd_stable, F_stable⟩, e_stable⟩ := W.d_stable
  have B_stable := F_stable.binds (ps := ["session", "given"]) fun _ _ _ _ _ _ us hl => match us, hl with | [_, _], _ => rfl
  obtain ⟨f_compare, ⟨a_compare, fd_compare, F_compare⟩, e_compare⟩ := W.d_compare
  have B_compare := F_compare.binds (ps := ["session", "given"]) fun _ _ _ _ _ _ us hl => match us, hl with | [_, _], _ => rfl
  obtain ⟨f_message_told, ⟨a_message_told, fd_message_told, F_message_told⟩, e_message_told⟩ := W.d_message_told
  have B_message_told := F_message_told.binds (ps := ["session", "given"]) fun _ _ _ _ _ _ us hl => match us, hl with | [_, _], _ => rfl
  obtain ⟨f_answer, a_answer, fd_answer, F_answer⟩ := W.d_answer
  have B_answer := F_answer.binds (ps := ["session", "number", "given"]) fun _ _ _ _ _ _ us hl => match us, hl with | [_, _, _], _ => rfl
  obtain ⟨f_answers, a_answers, fd_answers, F_answers⟩ := W.d_answers
  obtain ⟨f_Event, fd_Event, a_Event, j_Event, F_Event⟩ := W.i_Event
  have B_Event := F_Event.binds (ps := ["self", "value", "needs"]) fun _ _ _ _ _ _ us hl => match us, hl with | [_, _, _], _ => rfl
  have M_Event : Mk K C.cE f_Event := ⟨W.c_Event.mks, a_Event, j_Event, W.c_Event.kp⟩
  obtain ⟨f_Replica, fd_Replica, a_Replica, j_Replica, F_Replica⟩ := W.i_Replica
  have B_Replica := F_Replica.binds (ps := ["self", "many"]) fun _ _ _ _ _ _ us hl => match us, hl with | [_, _], _ => rfl
  have M_Replica : Mk K C.cR f_Replica := ⟨W.c_Replica.mks, a_Replica, j_Replica, W.c_Replica.kp⟩
  obtain ⟨f_Message, fd_Message, a_Message, j_Message, F_Message⟩ := W.i_Message
  have B_Message := F_Message.binds (ps := ["self", "sender", "receiver", "vector", "events"]) fun _ _ _ _ _ _ us hl => match us, hl with | [_, _, _, _, _], _ => rfl
  have M_Message : Mk K C.cM f_Message := ⟨W.c_Message.mks, a_Message, j_Message, W.c_Message.kp⟩
  obtain ⟨f_World, fd_World, a_World, j_World, F_World⟩ := W.i_World
  have B_World := F_World.binds (ps := ["self", "many"]) fun _ _ _ _ _ _ us hl => match us, hl with | [_, _], _ => rfl
  have M_World : Mk K C.cW f_World := ⟨W.c_World.mks, a_World, j_World, W.c_World.kp⟩
  obtain ⟨f_Session, fd_Session, a_Session, j_Session, F_Session⟩ := W.i_Session
  have B_Session := F_Session.binds (ps := ["self"]) fun _ _ _ _ _ _ us hl => match us, hl with | [_], _ => rfl
  have M_Session : Mk K C.cS f_Session := ⟨W.c_Session.mks, a_Session, j_Session, W.c_Session.kp⟩
  have e := hfa.symm.trans (PySem.W.mg_of X G a_answers)
  cases e
  refine ⟨fd_answers, fun s us hu => ?_, fun base _ _ => ?_⟩
  · obtain ⟨oc, od, kV, doc, pm, an, cdv, ct, osl, rfl, _, _⟩ := F_answers.ex
    exact match us, hu with | [_], _ => .of_eq rfl
  · skip
    have K_noughts : Cal CX0 P wo K mg base 1 "noughts" spNoughts := ⟨f_noughts, fd_noughts, ["many"], ok_noughts  F_noughts, PySem.W.mg_of X G a_noughts, F_noughts.kp, B_noughts⟩
    have K_is_in : Cal CX0 P wo K mg base 1 "is_in" spIsIn := ⟨f_is_in, fd_is_in, ["event", "vector"], ok_is_in  F_is_in, PySem.W.mg_of X G a_is_in, F_is_in.kp, B_is_in⟩
    have K_is_within : Cal CX0 P wo K mg base 1 "is_within" spWithin := ⟨f_is_within, fd_is_within, ["one", "other"], ok_is_within B F_is_within, PySem.W.mg_of X G a_is_within, F_is_within.kp, B_is_within⟩
    have K_greater : Cal CX0 P wo K mg base 1 "greater" (spVV max) := ⟨f_greater, fd_greater, ["one", "other"], ok_greater B F_greater, PySem.W.mg_of X G a_greater, F_greater.kp, B_greater⟩
    have K_lesser : Cal CX0 P wo K mg base 1 "lesser" (spVV min) := ⟨f_lesser, fd_lesser, ["one", "other"], ok_lesser B F_lesser, PySem.W.mg_of X G a_lesser, F_lesser.kp, B_lesser⟩
    have K_with_event : Cal CX0 P wo K mg base 1 "with_event" spWithE := ⟨f_with_event, fd_with_event, ["vector", "event"], ok_with_event  F_with_event, PySem.W.mg_of X G a_with_event, F_with_event.kp, B_with_event⟩
    have K_many_events : Cal CX0 P wo K mg base 1 "many_events" (spMany C) := ⟨f_many_events, fd_many_events, ["world"], ok_many_events T B F_many_events, PySem.W.mg_of X G a_many_events, F_many_events.kp, B_many_events⟩
    have K_is_event : Cal CX0 P wo K mg base 1 "is_event" (spIsEvent C) := ⟨f_is_event, fd_is_event, ["world", "replica", "number"], ok_is_event T B F_is_event, PySem.W.mg_of X G a_is_event, F_is_event.kp, B_is_event⟩
    have K_event_of : Cal CX0 P wo K mg base 1 "event_of" (spEventOf C) := ⟨f_event_of, fd_event_of, ["world", "event"], ok_event_of T F_event_of, PySem.W.mg_of X G a_event_of, F_event_of.kp, B_event_of⟩
    have K_can_apply : Cal CX0 P wo K mg base 3 "can_apply" (spCan C) := ⟨f_can_apply, fd_can_apply, ["world", "replica", "event"], ok_can_apply T K_event_of K_is_within F_can_apply, PySem.W.mg_of X G a_can_apply, F_can_apply.kp, B_can_apply⟩
    have K_apply_event : Cal CX0 P wo K mg base 3 "apply_event" (spApply C) := ⟨f_apply_event, fd_apply_event, ["replica", "event"], ok_apply_event T K_with_event F_apply_event, PySem.W.mg_of X G a_apply_event, F_apply_event.kp, B_apply_event⟩
    have K_Event : Mak P wo K mg base 1 "Event" C.cE (spEvI C) := ⟨f_Event, fd_Event, ["self", "value", "needs"], M_Event, ok_event_init T F_Event, PySem.W.mg_of X G W.c_Event.ns, B_Event⟩
    have K_create_event : Cal CX0 P wo K mg base 5 "create_event" (spCreateE C) := ⟨f_create_event, fd_create_event, ["world", "number", "value"], ok_create_event T B K_Event K_apply_event F_create_event, PySem.W.mg_of X G a_create_event, F_create_event.kp, B_create_event⟩
    have K_next_event : Cal CX0 P wo K mg base 5 "next_event" (spNext C) := ⟨f_next_event, fd_next_event, ["world", "replica"], ok_next_event T K_can_apply F_next_event, PySem.W.mg_of X G a_next_event, F_next_event.kp, B_next_event⟩
    have K_drop_applied : Cal CX0 P wo K mg base 3 "drop_applied" (spDrop C) := ⟨f_drop_applied, fd_drop_applied, ["replica"], ok_drop_applied T K_is_in F_drop_applied, PySem.W.mg_of X G a_drop_applied, F_drop_applied.kp, B_drop_applied⟩
    have K_take_events : Cal CX0 P wo K mg base 8 "take_events" (spTake C) := ⟨f_take_events, fd_take_events, ["world", "replica", "events"], ok_take_events T B K_next_event K_drop_applied K_apply_event F_take_events, PySem.W.mg_of X G a_take_events, F_take_events.kp, B_take_events⟩
    have K_known_vector : Cal CX0 P wo K mg base 1 "known_vector" (spKnown C) := ⟨f_known_vector, fd_known_vector, ["world", "number", "other"], ok_known_vector T F_known_vector, PySem.W.mg_of X G a_known_vector, F_known_vector.kp, B_known_vector⟩
    have K_lacking : Cal CX0 P wo K mg base 3 "lacking" (spLack C) := ⟨f_lacking, fd_lacking, ["world", "sender", "receiver"], ok_lacking T K_known_vector K_is_in F_lacking, PySem.W.mg_of X G a_lacking, F_lacking.kp, B_lacking⟩
    have K_Message : Mak P wo K mg base 1 "Message" C.cM (spMeI C) := ⟨f_Message, fd_Message, ["self", "sender", "receiver", "vector", "events"], M_Message, ok_message_init T F_Message, PySem.W.mg_of X G W.c_Message.ns, B_Message⟩
    have K_put_message : Cal CX0 P wo K mg base 3 "put_message" (spPut C) := ⟨f_put_message, fd_put_message, ["world", "sender", "receiver", "events"], ok_put_message T B K_Message F_put_message, PySem.W.mg_of X G a_put_message, F_put_message.kp, B_put_message⟩
    have K_deliver_message : Cal CX0 P wo K mg base 10 "deliver_message" (spDeliver C) := ⟨f_deliver_message, fd_deliver_message, ["world", "message"], ok_deliver_message T B K_take_events K_greater F_deliver_message, PySem.W.mg_of X G a_deliver_message, F_deliver_message.kp, B_deliver_message⟩
    have K_stable_vector : Cal CX0 P wo K mg base 3 "stable_vector" (spStable C) := ⟨f_stable_vector, fd_stable_vector, ["world", "number"], ok_stable_vector T B K_known_vector K_lesser F_stable_vector, PySem.W.mg_of X G a_stable_vector, F_stable_vector.kp, B_stable_vector⟩
    have K_refuse_if : Cal (L2.CX P wo) P wo K mg base 3 "refuse_if" (spRefuse C) := ⟨f_refuse_if, fd_refuse_if, ["asked", "code"], ok_refuse_if low F_refuse_if, PySem.W.mg_of X G a_refuse_if, F_refuse_if.kp, B_refuse_if⟩
    have K_need_replica : Cal (L2.CX P wo) P wo K mg base 5 "need_replica" (spNeed C) := ⟨f_need_replica, fd_need_replica, ["session", "number"], ok_need_replica T B N K_refuse_if F_need_replica, PySem.W.mg_of X G a_need_replica, F_need_replica.kp, B_need_replica⟩
    have K_need_two : Cal (L2.CX P wo) P wo K mg base 7 "need_two" (spNeed2 C) := ⟨f_need_two, fd_need_two, ["session", "one", "other"], ok_need_two N K_refuse_if K_need_replica F_need_two, PySem.W.mg_of X G a_need_two, F_need_two.kp, B_need_two⟩
    have K_need_room : Cal (L2.CX P wo) P wo K mg base 5 "need_room" (spRoom C) := ⟨f_need_room, fd_need_room, ["session"], ok_need_room T B N K_refuse_if F_need_room, PySem.W.mg_of X G a_need_room, F_need_room.kp, B_need_room⟩
    have K_need_message : Cal (L2.CX P wo) P wo K mg base 5 "need_message" (spNeedM C) := ⟨f_need_message, fd_need_message, ["session", "number"], ok_need_message T B N K_refuse_if F_need_message, PySem.W.mg_of X G a_need_message, F_need_message.kp, B_need_message⟩
    have K_told_events : Cal CX0 P wo K mg base 3 "told_events" (spTold C) := ⟨f_told_events, fd_told_events, ["session", "events"], ok_told_events T B K_event_of F_told_events, PySem.W.mg_of X G a_told_events, F_told_events.kp, B_told_events⟩
    have K_depends : Cal CX0 P wo K mg base 3 "depends" (spDepends C) := ⟨f_depends, fd_depends, ["session", "one", "other"], ok_depends T K_event_of K_is_in F_depends, PySem.W.mg_of X G a_depends, F_depends.kp, B_depends⟩
    have K_Replica : Mak P wo K mg base 3 "Replica" C.cR (spReI C) := ⟨f_Replica, fd_Replica, ["self", "many"], M_Replica, ok_replica_init T B K_noughts F_Replica, PySem.W.mg_of X G W.c_Replica.ns, B_Replica⟩
    have K_World : Mak P wo K mg base 6 "World" C.cW (spWoI C) := ⟨f_World, fd_World, ["self", "many"], M_World, ok_world_init T B K_Replica F_World, PySem.W.mg_of X G W.c_World.ns, B_World⟩
    have H_begin : HdD P wo K mg base f_begin (spDeed C 1) := ⟨fd_begin, ["session", "given"], ok_begin T B N K_refuse_if K_World F_begin, F_begin.kp, B_begin⟩
    have H_create : HdD P wo K mg base f_create (spDeed C 2) := ⟨fd_create, ["session", "given"], ok_create T B N K_refuse_if K_need_replica K_many_events K_create_event F_create, F_create.kp, B_create⟩
    have H_send : HdD P wo K mg base f_send (spDeed C 3) := ⟨fd_send, ["session", "given"], ok_send T B N K_need_two K_need_room K_lacking K_put_message F_send, F_send.kp, B_send⟩
    have H_send_one : HdD P wo K mg base f_send_one (spDeed C 4) := ⟨fd_send_one, ["session", "given"], ok_send_one T B N K_need_two K_refuse_if K_is_event K_is_in K_need_room K_put_message F_send_one, F_send_one.kp, B_send_one⟩
    have H_deliver : HdD P wo K mg base f_deliver (spDeed C 5) := ⟨fd_deliver, ["session", "given"], ok_deliver T B N K_need_message K_deliver_message F_deliver, F_deliver.kp, B_deliver⟩
    have H_applied : HdD P wo K mg base f_applied (spDeed C 6) := ⟨fd_applied, ["session", "given"], ok_applied T B N K_need_replica K_told_events F_applied, F_applied.kp, B_applied⟩
    have H_pending : HdD P wo K mg base f_pending (spDeed C 7) := ⟨fd_pending, ["session", "given"], ok_pending T B N K_need_replica K_told_events F_pending, F_pending.kp, B_pending⟩
    have H_vector : HdD P wo K mg base f_vector (spDeed C 8) := ⟨fd_vector, ["session", "given"], ok_vector T B N K_need_replica F_vector, F_vector.kp, B_vector⟩
    have H_known : HdD P wo K mg base f_known (spDeed C 9) := ⟨fd_known, ["session", "given"], ok_known T B N K_need_replica K_known_vector F_known, F_known.kp, B_known⟩
    have H_stable : HdD P wo K mg base f_stable (spDeed C 10) := ⟨fd_stable, ["session", "given"], ok_stable T B N K_need_replica K_stable_vector F_stable, F_stable.kp, B_stable⟩
    have H_compare : HdD P wo K mg base f_compare (spDeed C 11) := ⟨fd_compare, ["session", "given"], ok_compare T B N K_refuse_if K_is_event K_depends F_compare, F_compare.kp, B_compare⟩
    have H_message_told : HdD P wo K mg base f_message_told (spDeed C 12) := ⟨fd_message_told, ["session", "given"], ok_message_told T B N K_need_message F_message_told, F_message_told.kp, B_message_told⟩
    have hD : ∀ n : Nat, 1 ≤ n → n ≤ 12 → ∃ f, IDct K dA (n : Int) (.ref f) ∧ HdD P wo K mg base f (spDeed C n) := by
      intro n h1 h2
      rcases n with _ | _ | _ | _ | _ | _ | _ | _ | _ | _ | _ | _ | _ | n
      · omega
      · exact ⟨f_begin, W.v_DEEDS 0 _ e_begin, H_begin⟩
      · exact ⟨f_create, W.v_DEEDS 1 _ e_create, H_create⟩
      · exact ⟨f_send, W.v_DEEDS 2 _ e_send, H_send⟩
      · exact ⟨f_send_one, W.v_DEEDS 3 _ e_send_one, H_send_one⟩
      · exact ⟨f_deliver, W.v_DEEDS 4 _ e_deliver, H_deliver⟩
      · exact ⟨f_applied, W.v_DEEDS 5 _ e_applied, H_applied⟩
      · exact ⟨f_pending, W.v_DEEDS 6 _ e_pending, H_pending⟩
      · exact ⟨f_vector, W.v_DEEDS 7 _ e_vector, H_vector⟩
      · exact ⟨f_known, W.v_DEEDS 8 _ e_known, H_known⟩
      · exact ⟨f_stable, W.v_DEEDS 9 _ e_stable, H_stable⟩
      · exact ⟨f_compare, W.v_DEEDS 10 _ e_compare, H_compare⟩
      · exact ⟨f_message_told, W.v_DEEDS 11 _ e_message_told, H_message_told⟩
      · omega
    have K_answer : Cal CX0 P wo K mg base 14 "answer" (spAnswer C) := ⟨f_answer, fd_answer, ["session", "number", "given"], ok_answer low (PySem.W.mg_of X G W.c_DEEDS) hD F_answer, PySem.W.mg_of X G a_answer, F_answer.kp, B_answer⟩
    exact ok_answers B (PySem.W.mg_of X G W.c_NUMBERS) W.v_NUMBERS K_answer M_Session (ok_session_init T K_World F_Session) (PySem.W.mg_of X G W.c_Session.ns) B_Session F_answers
end VD
end
set_option Elab.async false
open PySem PySem.W PyProof.Rows
set_option maxRecDepth 100000 in
set_option maxHeartbeats 8000000 in
theorem PySem.Challenge.cw_vectordelivery_s01_answers_holds : PySem.Challenge.rw_vectordelivery_s01_answers.Holds := by
  w_on; k_headS; (case hw => exact ⟨[.list [.int 5, .int 0]], by decide +kernel, by decide +kernel⟩)
  k_fillS
  refine L2.walk_specK (r := PySem.Challenge.rw_vectordelivery_s01_answers) (k := 16) (CX := L2.CX0) (ps := ["calls"]) (sp := VD.spAnswers) (by decide +kernel) rfl rfl ⟨rfl, by decide, by decide⟩ (fun w h Y => PySem.W.kIn_of Y) ?F ?S (fun _ _ _ _ z => z)
  case F =>
    intro w mg fa h Y KX G hmg
    refine' VD.all_ok KX G hmg ?W
    case W =>
      refine' VD.Facts.mk ?d_noughts ?d_is_in ?d_is_within ?d_greater ?d_lesser ?d_with_event ?d_many_events ?d_is_event ?d_event_of ?d_can_apply ?d_apply_event ?d_create_event ?d_next_event ?d_drop_applied ?d_take_events ?d_known_vector ?d_lacking ?d_put_message ?d_deliver_message ?d_stable_vector ?d_refuse_if ?d_need_replica ?d_need_two ?d_need_room ?d_need_message ?d_told_events ?d_depends ?d_begin ?d_create ?d_send ?d_send_one ?d_deliver ?d_applied ?d_pending ?d_vector ?d_known ?d_stable ?d_compare ?d_message_told ?d_answer ?d_answers ?c_Event ?i_Event ?n_Event_value ?n_Event_needs ?c_Replica ?i_Replica ?n_Replica_vector ?n_Replica_applied ?n_Replica_pending ?n_Replica_known ?c_Message ?i_Message ?n_Message_sender ?n_Message_receiver ?n_Message_vector ?n_Message_events ?c_World ?i_World ?n_World_replicas ?n_World_events ?n_World_messages ?c_Session ?i_Session ?n_Session_world ?c_Refused ?r_Refused ?c_NUMBERS ?v_NUMBERS ?c_DEEDS ?v_DEEDS ?b_len ?b_zip ?b_range ?b_max ?b_min ?b_sum ?b_sorted ?b_set ?b_list ?k_oor ?k_nth ?k_nap ?k_tmy ?k_mrp ?k_mvl ?k_mev ?k_mms ?k_nei ?k_fst ?k_snd
      (case c_Event => refine' VD.cls_at ?a ?pg ?hd ?po ?sa ?mk ?kp; (case a => k_is); (case pg => k_is); (case hd => k_is); (case po => k_is); (case sa => k_is); (case mk => k_is); (case kp => k_is))
      (case i_Event => refine' VD.init_at ?a ?i ?l ?c ?k; (case a => k_is); (case i => k_is); (case l => k_is); (case c => k_is); (case k => k_is))
      (case n_Event_value => show PySem.W.findIn _ _ _ = _; k_is)
      (case n_Event_needs => show PySem.W.findIn _ _ _ = _; k_is)
      (case c_Replica => refine' VD.cls_at ?a ?pg ?hd ?po ?sa ?mk ?kp; (case a => k_is); (case pg => k_is); (case hd => k_is); (case po => k_is); (case sa => k_is); (case mk => k_is); (case kp => k_is))
      (case i_Replica => refine' VD.init_at ?a ?i ?l ?c ?k; (case a => k_is); (case i => k_is); (case l => k_is); (case c => k_is); (case k => k_is))
      (case n_Replica_vector => show PySem.W.findIn _ _ _ = _; k_is)
      (case n_Replica_applied => show PySem.W.findIn _ _ _ = _; k_is)
      (case n_Replica_pending => show PySem.W.findIn _ _ _ = _; k_is)
      (case n_Replica_known => show PySem.W.findIn _ _ _ = _; k_is)
      (case c_Message => refine' VD.cls_at ?a ?pg ?hd ?po ?sa ?mk ?kp; (case a => k_is); (case pg => k_is); (case hd => k_is); (case po => k_is); (case sa => k_is); (case mk => k_is); (case kp => k_is))
      (case i_Message => refine' VD.init_at ?a ?i ?l ?c ?k; (case a => k_is); (case i => k_is); (case l => k_is); (case c => k_is); (case k => k_is))
      (case n_Message_sender => show PySem.W.findIn _ _ _ = _; k_is)
      (case n_Message_receiver => show PySem.W.findIn _ _ _ = _; k_is)
      (case n_Message_vector => show PySem.W.findIn _ _ _ = _; k_is)
      (case n_Message_events => show PySem.W.findIn _ _ _ = _; k_is)
      (case c_World => refine' VD.cls_at ?a ?pg ?hd ?po ?sa ?mk ?kp; (case a => k_is); (case pg => k_is); (case hd => k_is); (case po => k_is); (case sa => k_is); (case mk => k_is); (case kp => k_is))
      (case i_World => refine' VD.init_at ?a ?i ?l ?c ?k; (case a => k_is); (case i => k_is); (case l => k_is); (case c => k_is); (case k => k_is))
      (case n_World_replicas => show PySem.W.findIn _ _ _ = _; k_is)
      (case n_World_events => show PySem.W.findIn _ _ _ = _; k_is)
      (case n_World_messages => show PySem.W.findIn _ _ _ = _; k_is)
      (case c_Session => refine' VD.cls_at ?a ?pg ?hd ?po ?sa ?mk ?kp; (case a => k_is); (case pg => k_is); (case hd => k_is); (case po => k_is); (case sa => k_is); (case mk => k_is); (case kp => k_is))
      (case i_Session => refine' VD.init_at ?a ?i ?l ?c ?k; (case a => k_is); (case i => k_is); (case l => k_is); (case c => k_is); (case k => k_is))
      (case n_Session_world => show PySem.W.findIn _ _ _ = _; k_is)
      (case c_Refused => k_is)
      (case r_Refused => refine' VD.ref_at ?xL ?sa ?ga ?gg ?nb ?a1 ?t1 ?l1 ?c1 ?kC ?eC ?tC ?hC ?iC ?sC; (case xL => k_is); (case sa => k_is); (case ga => k_is); (case gg => k_is); (case nb => k_is); (case a1 => k_is); (case t1 => k_is); (case l1 => k_is); (case c1 => k_is); (case kC => k_is); (case eC => k_is); (case tC => k_is); (case hC => k_is); (case iC => k_is); (case sC => first | rfl | k_is))
      (case c_NUMBERS => k_is)
      (case v_NUMBERS => refine' VD.num_at ?l; (case l => k_is))
      (case c_DEEDS => k_is)
      (case v_DEEDS => refine' VD.deeds_at ?l; (case l => k_is))
      (case d_noughts => refine' Exists.intro _ ?d; (case d => refine' VD.def_at ?a ?l ?c ?k; (case a => k_is); (case l => k_is); (case c => k_is); (case k => k_is)))
      (case d_is_in => refine' Exists.intro _ ?d; (case d => refine' VD.def_at ?a ?l ?c ?k; (case a => k_is); (case l => k_is); (case c => k_is); (case k => k_is)))
      (case d_is_within => refine' Exists.intro _ ?d; (case d => refine' VD.def_at ?a ?l ?c ?k; (case a => k_is); (case l => k_is); (case c => k_is); (case k => k_is)))
      (case d_greater => refine' Exists.intro _ ?d; (case d => refine' VD.def_at ?a ?l ?c ?k; (case a => k_is); (case l => k_is); (case c => k_is); (case k => k_is)))
      (case d_lesser => refine' Exists.intro _ ?d; (case d => refine' VD.def_at ?a ?l ?c ?k; (case a => k_is); (case l => k_is); (case c => k_is); (case k => k_is)))
      (case d_with_event => refine' Exists.intro _ ?d; (case d => refine' VD.def_at ?a ?l ?c ?k; (case a => k_is); (case l => k_is); (case c => k_is); (case k => k_is)))
      (case d_many_events => refine' Exists.intro _ ?d; (case d => refine' VD.def_at ?a ?l ?c ?k; (case a => k_is); (case l => k_is); (case c => k_is); (case k => k_is)))
      (case d_is_event => refine' Exists.intro _ ?d; (case d => refine' VD.def_at ?a ?l ?c ?k; (case a => k_is); (case l => k_is); (case c => k_is); (case k => k_is)))
      (case d_event_of => refine' Exists.intro _ ?d; (case d => refine' VD.def_at ?a ?l ?c ?k; (case a => k_is); (case l => k_is); (case c => k_is); (case k => k_is)))
      (case d_can_apply => refine' Exists.intro _ ?d; (case d => refine' VD.def_at ?a ?l ?c ?k; (case a => k_is); (case l => k_is); (case c => k_is); (case k => k_is)))
      (case d_apply_event => refine' Exists.intro _ ?d; (case d => refine' VD.def_at ?a ?l ?c ?k; (case a => k_is); (case l => k_is); (case c => k_is); (case k => k_is)))
      (case d_create_event => refine' Exists.intro _ ?d; (case d => refine' VD.def_at ?a ?l ?c ?k; (case a => k_is); (case l => k_is); (case c => k_is); (case k => k_is)))
      (case d_next_event => refine' Exists.intro _ ?d; (case d => refine' VD.def_at ?a ?l ?c ?k; (case a => k_is); (case l => k_is); (case c => k_is); (case k => k_is)))
      (case d_drop_applied => refine' Exists.intro _ ?d; (case d => refine' VD.def_at ?a ?l ?c ?k; (case a => k_is); (case l => k_is); (case c => k_is); (case k => k_is)))
      (case d_take_events => refine' Exists.intro _ ?d; (case d => refine' VD.def_at ?a ?l ?c ?k; (case a => k_is); (case l => k_is); (case c => k_is); (case k => k_is)))
      (case d_known_vector => refine' Exists.intro _ ?d; (case d => refine' VD.def_at ?a ?l ?c ?k; (case a => k_is); (case l => k_is); (case c => k_is); (case k => k_is)))
      (case d_lacking => refine' Exists.intro _ ?d; (case d => refine' VD.def_at ?a ?l ?c ?k; (case a => k_is); (case l => k_is); (case c => k_is); (case k => k_is)))
      (case d_put_message => refine' Exists.intro _ ?d; (case d => refine' VD.def_at ?a ?l ?c ?k; (case a => k_is); (case l => k_is); (case c => k_is); (case k => k_is)))
      (case d_deliver_message => refine' Exists.intro _ ?d; (case d => refine' VD.def_at ?a ?l ?c ?k; (case a => k_is); (case l => k_is); (case c => k_is); (case k => k_is)))
      (case d_stable_vector => refine' Exists.intro _ ?d; (case d => refine' VD.def_at ?a ?l ?c ?k; (case a => k_is); (case l => k_is); (case c => k_is); (case k => k_is)))
      (case d_refuse_if => refine' Exists.intro _ ?d; (case d => refine' VD.def_at ?a ?l ?c ?k; (case a => k_is); (case l => k_is); (case c => k_is); (case k => k_is)))
      (case d_need_replica => refine' Exists.intro _ ?d; (case d => refine' VD.def_at ?a ?l ?c ?k; (case a => k_is); (case l => k_is); (case c => k_is); (case k => k_is)))
      (case d_need_two => refine' Exists.intro _ ?d; (case d => refine' VD.def_at ?a ?l ?c ?k; (case a => k_is); (case l => k_is); (case c => k_is); (case k => k_is)))
      (case d_need_room => refine' Exists.intro _ ?d; (case d => refine' VD.def_at ?a ?l ?c ?k; (case a => k_is); (case l => k_is); (case c => k_is); (case k => k_is)))
      (case d_need_message => refine' Exists.intro _ ?d; (case d => refine' VD.def_at ?a ?l ?c ?k; (case a => k_is); (case l => k_is); (case c => k_is); (case k => k_is)))
      (case d_told_events => refine' Exists.intro _ ?d; (case d => refine' VD.def_at ?a ?l ?c ?k; (case a => k_is); (case l => k_is); (case c => k_is); (case k => k_is)))
      (case d_depends => refine' Exists.intro _ ?d; (case d => refine' VD.def_at ?a ?l ?c ?k; (case a => k_is); (case l => k_is); (case c => k_is); (case k => k_is)))
      (case d_begin => refine' Exists.intro _ (And.intro ?d ?e); (case d => refine' VD.def_at ?a ?l ?c ?k; (case a => k_is); (case l => k_is); (case c => k_is); (case k => k_is)); (case e => rfl))
      (case d_create => refine' Exists.intro _ (And.intro ?d ?e); (case d => refine' VD.def_at ?a ?l ?c ?k; (case a => k_is); (case l => k_is); (case c => k_is); (case k => k_is)); (case e => rfl))
      (case d_send => refine' Exists.intro _ (And.intro ?d ?e); (case d => refine' VD.def_at ?a ?l ?c ?k; (case a => k_is); (case l => k_is); (case c => k_is); (case k => k_is)); (case e => rfl))
      (case d_send_one => refine' Exists.intro _ (And.intro ?d ?e); (case d => refine' VD.def_at ?a ?l ?c ?k; (case a => k_is); (case l => k_is); (case c => k_is); (case k => k_is)); (case e => rfl))
      (case d_deliver => refine' Exists.intro _ (And.intro ?d ?e); (case d => refine' VD.def_at ?a ?l ?c ?k; (case a => k_is); (case l => k_is); (case c => k_is); (case k => k_is)); (case e => rfl))
      (case d_applied => refine' Exists.intro _ (And.intro ?d ?e); (case d => refine' VD.def_at ?a ?l ?c ?k; (case a => k_is); (case l => k_is); (case c => k_is); (case k => k_is)); (case e => rfl))
      (case d_pending => refine' Exists.intro _ (And.intro ?d ?e); (case d => refine' VD.def_at ?a ?l ?c ?k; (case a => k_is); (case l => k_is); (case c => k_is); (case k => k_is)); (case e => rfl))
      (case d_vector => refine' Exists.intro _ (And.intro ?d ?e); (case d => refine' VD.def_at ?a ?l ?c ?k; (case a => k_is); (case l => k_is); (case c => k_is); (case k => k_is)); (case e => rfl))
      (case d_known => refine' Exists.intro _ (And.intro ?d ?e); (case d => refine' VD.def_at ?a ?l ?c ?k; (case a => k_is); (case l => k_is); (case c => k_is); (case k => k_is)); (case e => rfl))
      (case d_stable => refine' Exists.intro _ (And.intro ?d ?e); (case d => refine' VD.def_at ?a ?l ?c ?k; (case a => k_is); (case l => k_is); (case c => k_is); (case k => k_is)); (case e => rfl))
      (case d_compare => refine' Exists.intro _ (And.intro ?d ?e); (case d => refine' VD.def_at ?a ?l ?c ?k; (case a => k_is); (case l => k_is); (case c => k_is); (case k => k_is)); (case e => rfl))
      (case d_message_told => refine' Exists.intro _ (And.intro ?d ?e); (case d => refine' VD.def_at ?a ?l ?c ?k; (case a => k_is); (case l => k_is); (case c => k_is); (case k => k_is)); (case e => rfl))
      (case d_answer => refine' Exists.intro _ ?d; (case d => refine' VD.def_at ?a ?l ?c ?k; (case a => k_is); (case l => k_is); (case c => k_is); (case k => k_is)))
      (case d_answers => refine' Exists.intro _ ?d; (case d => refine' VD.def_at ?a ?l ?c ?k; (case a => k_is); (case l => k_is); (case c => k_is); (case k => k_is)))
      (case b_len => k_is)
      (case b_zip => k_is)
      (case b_range => k_is)
      (case b_max => k_is)
      (case b_min => k_is)
      (case b_sum => k_is)
      (case b_sorted => k_is)
      (case b_set => k_is)
      (case b_list => k_is)
      (case k_oor => refine' VD.con_at ?d ?e; (case d => k_is); (case e => first | rfl | decide +kernel))
      (case k_nth => refine' VD.con_at ?d ?e; (case d => k_is); (case e => first | rfl | decide +kernel))
      (case k_nap => refine' VD.con_at ?d ?e; (case d => k_is); (case e => first | rfl | decide +kernel))
      (case k_tmy => refine' VD.con_at ?d ?e; (case d => k_is); (case e => first | rfl | decide +kernel))
      (case k_mrp => refine' VD.con_at ?d ?e; (case d => k_is); (case e => first | rfl | decide +kernel))
      (case k_mvl => refine' VD.con_at ?d ?e; (case d => k_is); (case e => first | rfl | decide +kernel))
      (case k_mev => refine' VD.con_at ?d ?e; (case d => k_is); (case e => first | rfl | decide +kernel))
      (case k_mms => refine' VD.con_at ?d ?e; (case d => k_is); (case e => first | rfl | decide +kernel))
      (case k_nei => refine' VD.con_at ?d ?e; (case d => k_is); (case e => first | rfl | decide +kernel))
      (case k_fst => refine' VD.con_at ?d ?e; (case d => k_is); (case e => first | rfl | decide +kernel))
      (case k_snd => refine' VD.con_at ?d ?e; (case d => k_is); (case e => first | rfl | decide +kernel))
  case S =>
    intro K H xs a hO hwi hask hx
    cases hx with
    | cons h1 h2 =>
      cases h2
      cases h1 with
      | lst hs ha =>
        have e := L2.ints_dw a.1 _ ha
        subst e
        obtain ⟨cs, e1, e2, e3⟩ := VD.answers_law (l := a.1) hask
        refine ⟨_, cs, rfl, by rw [← e1]; exact hs, e3, fun H' p hp => ?_⟩
        rw [← e2] at hp
        exact .lst (L2.SqL.of hp) (L2.dw_ints _)
