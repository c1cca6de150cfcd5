import PyProof.Rows.All
import Wide.All
import OpenK.AllK
import Wide.FinOn
import HandS.ForMost
import HandS.ForExc
import HandS.ExcIs
import HandS.IsInst
import HandS.Style
import HandS.ExcValue
import PySem.Challenge.RW_braidcomb_k82_refused_changes_nothing
set_option Elab.async false
set_option linter.all false
set_option maxRecDepth 100000
set_option maxHeartbeats 4200000
/-! Braidcomb, law k82 (what is refused changes nothing): by hand over the layer HandS: the mathematics, a promise a def, the head by k_head. -/
/-! K82, part 1: what the program and the law reckon, in plain Lean. -/
namespace K82
open PySem L2
/-- the size of a crossing, as abs tells it -/
def ab (k : Int) : Int := if k < 0 then -k else k
theorem ab_nn (k : Int) : 0 ≤ ab k := by
  unfold ab
  split <;> omega
/-- a crossing that n strings do not have -/
def badC (n k : Int) : Bool := decide (k = 0) || decide (n ≤ ab k)
def okW (n : Int) (w : List Int) : Bool := w.all fun k => !badC n k
theorem badC_false {n k : Int} : badC n k = false ↔ k ≠ 0 ∧ ab k < n := by
  unfold badC
  rw [Bool.or_eq_false_iff, decide_eq_false_iff_not, decide_eq_false_iff_not]
  constructor
  · intro ⟨h1, h2⟩
    exact ⟨h1, by omega⟩
  · intro ⟨h1, h2⟩
    exact ⟨h1, by omega⟩
theorem okW_iff {n : Int} {w : List Int} : okW n w = true ↔ ∀ k ∈ w, k ≠ 0 ∧ ab k < n := by
  unfold okW
  rw [List.all_eq_true]
  constructor
  · intro h k hk
    have e := h k hk
    rw [Bool.not_eq_true'] at e
    exact badC_false.mp e
  · intro h k hk
    rw [Bool.not_eq_true']
    exact badC_false.mpr (h k hk)
/-- the kinds of an exchange that takes or turns what is there -/
inductive Kd where
  | out | far | near
  deriving DecidableEq
def Kd.str : Kd → Str
  | .out => "out"
  | .far => "far"
  | .near => "near"
theorem Kd.str_inj {a b : Kd} (h : a.str = b.str) : a = b := by
  cases a <;> cases b <;> first | rfl | exact absurd h (by decide +kernel)
/-- three crossings from the place p on -/
def hereOf (w : List Int) (p : Int) : List Int := (w.drop p.toNat).take 3
/-- near, of three -/
def nearOk (a b c : Int) : Bool := decide (a = c) && (decide (0 < a * b) && decide (ab (a - b) = 1))
/-- the exchange that can be done at a place -/
def moveH (h : List Int) : Option Kd := match h with
  | a :: b :: r => if a = -b then some .out else if 1 < ab (ab a - ab b) then some .far else match r with
    | c :: _ => if nearOk a b c = true then some .near else none
    | [] => none
  | _ => none
def moveAt (w : List Int) (p : Int) : Option Kd := moveH (hereOf w p)
inductive Mv where
  | inn (p k : Int)
  | at (kd : Kd) (p : Int)
def Mv.p : Mv → Int
  | .inn p _ => p
  | .at _ p => p
def inside (w : List Int) (p : Int) : Bool := decide (0 ≤ p) && decide (p ≤ (w.length : Int))
theorem inside_iff {w : List Int} {p : Int} : inside w p = true ↔ 0 ≤ p ∧ p ≤ (w.length : Int) := by
  unfold inside
  rw [Bool.and_eq_true, decide_eq_true_iff, decide_eq_true_iff]
/-- the program's word on whether an exchange can be done -/
def canMv (n : Int) (w : List Int) : Mv → Bool
  | .inn p k => inside w p && (decide (0 < ab k) && decide (ab k < n))
  | .at kd p => inside w p && decide (moveAt w p = some kd)
/-- the law's word on it, by its kind -/
def lawKd (h : List Int) : Kd → Bool
  | .out => match h with
    | a :: b :: _ => decide (a = -b)
    | _ => false
  | .far => match h with
    | a :: b :: _ => decide (1 < ab (ab a - ab b))
    | _ => false
  | .near => match h with
    | a :: b :: c :: _ => nearOk a b c
    | _ => false
theorem mul_neg_nonpos (b : Int) : ¬ 0 < -b * b := by
  intro h
  rw [Int.neg_mul] at h
  have q : 0 ≤ b * b := by
    rcases Int.le_total 0 b with z | z
    · exact Int.mul_nonneg z z
    · have z2 := Int.mul_nonneg (a := -b) (b := -b) (by omega) (by omega)
      rwa [Int.neg_mul_neg] at z2
  omega
theorem same_sign {a b : Int} (h : 0 < a * b) : (0 < a ∧ 0 < b) ∨ (a < 0 ∧ b < 0) := by
  rcases Int.lt_trichotomy a 0 with ha | ha | ha
  · rcases Int.lt_trichotomy b 0 with hb | hb | hb
    · exact .inr ⟨ha, hb⟩
    · rw [hb, Int.mul_zero] at h
      omega
    · have z := Int.mul_neg_of_neg_of_pos ha hb
      omega
  · rw [ha, Int.zero_mul] at h
    omega
  · rcases Int.lt_trichotomy b 0 with hb | hb | hb
    · have z := Int.mul_neg_of_pos_of_neg ha hb
      omega
    · rw [hb, Int.mul_zero] at h
      omega
    · exact .inl ⟨ha, hb⟩
theorem near_not {a b c : Int} (h : nearOk a b c = true) : ¬ a = -b ∧ ¬ 1 < ab (ab a - ab b) := by
  unfold nearOk at h
  rw [Bool.and_eq_true, Bool.and_eq_true, decide_eq_true_iff, decide_eq_true_iff, decide_eq_true_iff] at h
  obtain ⟨_, h1, h2⟩ := h
  have s := same_sign h1
  unfold ab at *
  constructor
  · intro e
    rcases s with ⟨x, y⟩ | ⟨x, y⟩ <;> omega
  · intro e
    rcases s with ⟨x, y⟩ | ⟨x, y⟩ <;> (split at h2 <;> (repeat' (split at e)) <;> omega)
theorem out_not_far {a b : Int} (h : a = -b) : ¬ 1 < ab (ab a - ab b) := by
  subst h
  unfold ab
  split <;> split <;> split <;> omega
/-- the two words are one -/
theorem lawKd_eq (w : List Int) (p : Int) (kd : Kd) : lawKd (hereOf w p) kd = decide (moveAt w p = some kd) := by
  unfold moveAt
  generalize hereOf w p = h
  unfold moveH
  match h with
  | [] => cases kd <;> simp [lawKd]
  | [a] => cases kd <;> simp [lawKd]
  | [a, b] =>
    dsimp only
    by_cases h1 : a = -b
    · have h2 := out_not_far h1
      cases kd <;> simp [lawKd, h1] <;> (subst h1; simpa using h2)
    · by_cases h2 : 1 < ab (ab a - ab b)
      · cases kd <;> simp [lawKd, h1, h2]
      · cases kd <;> simp [lawKd, h1, h2]
  | a :: b :: c :: r =>
    dsimp only
    by_cases h3 : nearOk a b c = true
    · obtain ⟨h1, h2⟩ := near_not h3
      cases kd <;> simp [lawKd, h1, h2, h3]
    · by_cases h1 : a = -b
      · have h2 := out_not_far h1
        cases kd
        · simp [lawKd, h1]
        · simp only [lawKd, h1, if_true]
          rw [h1] at h2
          rw [decide_eq_false h2]
          simp
        · rw [Bool.not_eq_true] at h3
          simp only [lawKd, h1, if_true]
          rw [h1] at h3
          rw [h3]
          simp
      · by_cases h2 : 1 < ab (ab a - ab b)
        · cases kd <;> simp [lawKd, h1, h2, h3]
        · cases kd <;> simp [lawKd, h1, h2, h3]
/-- a word behind an exchange -/
def doneMv (w : List Int) : Mv → List Int
  | .inn p k => w.take p.toNat ++ [k, -k] ++ w.drop p.toNat
  | .at .out p => w.take p.toNat ++ w.drop (p.toNat + 2)
  | .at .far p => w.take p.toNat ++ [w.getD (p.toNat + 1) 0, w.getD p.toNat 0] ++ w.drop (p.toNat + 2)
  | .at .near p => w.take p.toNat ++ [w.getD (p.toNat + 1) 0, w.getD p.toNat 0, w.getD (p.toNat + 1) 0] ++ w.drop (p.toNat + 3)
/-- a deed -/
inductive Dd where
  | hang (v : List Int)
  | drop (m : Int)
  | go (mv : Mv)
def okD (n : Int) (w : List Int) : Dd → Bool
  | .hang v => okW n v
  | .drop m => decide (0 ≤ m) && decide (m ≤ (w.length : Int))
  | .go mv => canMv n w mv
def behind (w : List Int) : Dd → List Int
  | .hang v => w ++ v
  | .drop m => w.take (w.length - m.toNat)
  | .go mv => doneMv w mv
def badS : Dd → Str
  | .hang _ => "word"
  | _ => "move"
def dueS (n : Int) (w : List Int) (d : Dd) : Str := if okD n w d = true then "" else badS d
theorem hereOf_len {w : List Int} {p : Int} {kd : Kd} (h : moveAt w p = some kd) : p.toNat + 2 ≤ w.length ∧ (kd = .near → p.toNat + 3 ≤ w.length) := by
  unfold moveAt moveH at h
  have hl : (hereOf w p).length = min 3 (w.length - p.toNat) := by
    unfold hereOf
    simp only [List.length_take, List.length_drop]
  match e : hereOf w p with
  | [] =>
    rw [e] at h
    cases h
  | [a] =>
    rw [e] at h
    cases h
  | [a, b] =>
    rw [e] at h hl
    simp only [List.length_cons, List.length_nil] at hl
    refine ⟨by omega, fun q => ?_⟩
    subst q
    dsimp only at h
    split at h
    · cases h
    · split at h
      · cases h
      · cases h
  | a :: b :: c :: r =>
    rw [e] at hl
    simp only [List.length_cons] at hl
    exact ⟨by omega, fun _near => by omega⟩
theorem getD_mem {w : List Int} {i : Nat} (h : i < w.length) : w.getD i 0 ∈ w := by
  rw [List.getD_eq_getElem?_getD, List.getElem?_eq_getElem h]
  exact List.getElem_mem h
/-- what is sound stays so -/
theorem ok_behind {n : Int} {w : List Int} {d : Dd} (hw : okW n w = true) (h : okD n w d = true) : okW n (behind w d) = true := by
  rw [okW_iff] at hw
  rw [okW_iff]
  have tk : ∀ i k, k ∈ w.take i → k ≠ 0 ∧ ab k < n := fun i k hk => hw k (List.mem_of_mem_take hk)
  have dp : ∀ i k, k ∈ w.drop i → k ≠ 0 ∧ ab k < n := fun i k hk => hw k (List.mem_of_mem_drop hk)
  intro k hk
  match d, h, hk with
  | .hang v, h, hk =>
    rcases List.mem_append.mp hk with z | z
    · exact hw k z
    · exact okW_iff.mp h k z
  | .drop m, h, hk => exact tk _ k hk
  | .go (.inn p j), h, hk =>
    have h1 : inside w p = true ∧ (decide (0 < ab j) && decide (ab j < n)) = true := Bool.and_eq_true_iff.mp h
    have h2 := Bool.and_eq_true_iff.mp h1.2
    have h3 := of_decide_eq_true h2.1
    have h4 := of_decide_eq_true h2.2
    rcases List.mem_append.mp hk with z | z
    · rcases List.mem_append.mp z with z | z
      · exact tk _ k z
      · rcases (List.mem_cons.mp z) with z | z
        · subst z
          unfold ab at *
          constructor
          · intro q
            subst q
            simp at h3
          · exact h4
        · rcases (List.mem_cons.mp z) with z | z
          · subst z
            unfold ab at *
            constructor
            · intro q
              split at h3 <;> omega
            · split at h4 <;> split <;> omega
          · cases z
    · exact dp _ k z
  | .go (.at kd p), h, hk =>
    have h1 : inside w p = true ∧ decide (moveAt w p = some kd) = true := Bool.and_eq_true_iff.mp h
    obtain ⟨l2, l3⟩ := hereOf_len (of_decide_eq_true h1.2)
    have m0 := hw _ (getD_mem (w := w) (i := p.toNat) (by omega))
    have m1 := hw _ (getD_mem (w := w) (i := p.toNat + 1) (by omega))
    cases kd with
    | out =>
      rcases List.mem_append.mp hk with z | z
      · exact tk _ k z
      · exact dp _ k z
    | far =>
      rcases List.mem_append.mp hk with z | z
      · rcases List.mem_append.mp z with z | z
        · exact tk _ k z
        · rcases (List.mem_cons.mp z) with z | z
          · rw [z]
            exact m1
          · rcases (List.mem_cons.mp z) with z | z
            · rw [z]
              exact m0
            · cases z
      · exact dp _ k z
    | near =>
      rcases List.mem_append.mp hk with z | z
      · rcases List.mem_append.mp z with z | z
        · exact tk _ k z
        · rcases (List.mem_cons.mp z) with z | z
          · rw [z]
            exact m1
          · rcases (List.mem_cons.mp z) with z | z
            · rw [z]
              exact m0
            · rcases (List.mem_cons.mp z) with z | z
              · rw [z]
                exact m1
              · cases z
      · exact dp _ k z
/-- how much a deed hangs on at most -/
def small : Dd → Prop
  | .hang v => v.length ≤ 4
  | _ => True
def isDrop : Dd → Bool
  | .drop _ => true
  | _ => false
theorem len_behind {n : Int} {w : List Int} {d : Dd} (hs : small d) (h : okD n w d = true) : (behind w d).length ≤ w.length + 4 := by
  match d, h, hs with
  | .hang v, h, hs =>
    have hs' : v.length ≤ 4 := hs
    show (w ++ v).length ≤ _
    rw [List.length_append]
    omega
  | .drop m, h, hs =>
    show (w.take _).length ≤ _
    rw [List.length_take]
    omega
  | .go (.inn p j), h, hs =>
    show (w.take p.toNat ++ [j, -j] ++ w.drop p.toNat).length ≤ _
    simp only [List.length_append, List.length_take, List.length_drop, List.length_cons, List.length_nil]
    omega
  | .go (.at kd p), h, hs =>
    have h1 : inside w p = true ∧ decide (moveAt w p = some kd) = true := Bool.and_eq_true_iff.mp h
    obtain ⟨l2, l3⟩ := hereOf_len (of_decide_eq_true h1.2)
    cases kd with
    | out =>
      show (w.take p.toNat ++ w.drop (p.toNat + 2)).length ≤ _
      simp only [List.length_append, List.length_take, List.length_drop]
      omega
    | far =>
      show (w.take p.toNat ++ [_, _] ++ w.drop (p.toNat + 2)).length ≤ _
      simp only [List.length_append, List.length_take, List.length_drop, List.length_cons, List.length_nil]
      omega
    | near =>
      show (w.take p.toNat ++ [_, _, _] ++ w.drop (p.toNat + 3)).length ≤ _
      simp only [List.length_append, List.length_take, List.length_drop, List.length_cons, List.length_nil]
      omega
theorem len_drop {n : Int} {w : List Int} {d : Dd} (hd : isDrop d = true) : (behind w d).length ≤ w.length := by
  match d, hd with
  | .drop m, _ =>
    show (w.take _).length ≤ _
    rw [List.length_take]
    omega
/-! ### slices of a word -/
def cutI (w : List Int) (lo hi : Option Int) : List Int := (w.drop (HT.sIx w.length 0 lo)).take (HT.sIx w.length w.length hi - HT.sIx w.length 0 lo)
theorem cutV_int (w : List Int) (lo hi : Option Int) : cutV (w.map V.int) lo hi = (cutI w lo hi).map V.int := by
  unfold cutV cutI
  rw [List.length_map, List.map_take, List.map_drop]
theorem sIx_pos {n d : Nat} {p : Int} (h : 0 ≤ p) : HT.sIx n d (some p) = min p.toNat n := by
  have e : p = ((p.toNat : Nat) : Int) := by omega
  have q := HT.sIx_nat n d p.toNat
  rw [← e] at q
  exact q
theorem cut_to {w : List Int} {p : Int} (h : 0 ≤ p) : cutI w none (some p) = w.take p.toNat := by
  unfold cutI
  rw [sIx_pos h, HT.sIx_none, Nat.sub_zero, List.drop_zero]
  apply List.ext_getElem?
  intro i
  rw [List.getElem?_take, List.getElem?_take]
  by_cases h1 : i < p.toNat
  · by_cases h2 : i < w.length
    · rw [if_pos (by omega), if_pos h1]
    · rw [if_neg (by omega), if_pos h1, List.getElem?_eq_none (by omega)]
  · rw [if_neg (by omega), if_neg h1]
theorem cut_from {w : List Int} {p : Int} (h : 0 ≤ p) : cutI w (some p) none = w.drop p.toNat := by
  unfold cutI
  rw [sIx_pos h, HT.sIx_none]
  by_cases h1 : p.toNat ≤ w.length
  · rw [Nat.min_eq_left h1, List.take_of_length_le (by rw [List.length_drop]; omega)]
  · have e1 : w.drop p.toNat = [] := List.drop_eq_nil_of_le (by omega)
    have e2 : w.drop (min p.toNat w.length) = [] := List.drop_eq_nil_of_le (by omega)
    rw [e1, e2]
    simp
theorem cut_here {w : List Int} {p : Int} (h : 0 ≤ p) : cutI w (some p) (some (p + 3)) = hereOf w p := by
  unfold cutI hereOf
  rw [sIx_pos h, sIx_pos (by omega)]
  have e : (p + 3).toNat = p.toNat + 3 := by omega
  rw [e]
  by_cases h1 : p.toNat ≤ w.length
  · rw [Nat.min_eq_left h1]
    apply List.ext_getElem?
    intro i
    rw [List.getElem?_take, List.getElem?_take, List.getElem?_drop]
    by_cases h2 : i < 3
    · by_cases h3 : p.toNat + i < w.length
      · rw [if_pos (by omega), if_pos h2]
      · rw [if_neg (by omega), if_pos h2, List.getElem?_eq_none (by omega)]
    · rw [if_neg (by omega), if_neg h2]
  · have e1 : w.drop p.toNat = [] := List.drop_eq_nil_of_le (by omega)
    have e2 : w.drop (min p.toNat w.length) = [] := List.drop_eq_nil_of_le (by omega)
    rw [e1, e2]
    simp
theorem cut_all {w : List Int} : cutI w none (some (w.length : Int)) = w := by
  rw [cut_to (by omega)]
  simp
theorem take_sub {w : List Int} {m : Int} (h0 : 0 ≤ m) (h1 : m ≤ (w.length : Int)) : cutI w none (some ((w.length : Int) - m)) = w.take (w.length - m.toNat) := by
  rw [cut_to (by omega)]
  congr 1
  omega
theorem cutI_length (w : List Int) (lo hi : Option Int) : (cutI w lo hi).length ≤ w.length := by
  unfold cutI
  simp only [List.length_take, List.length_drop]
  omega
theorem cutI_sub {w : List Int} {lo hi : Option Int} : ∀ k ∈ cutI w lo hi, k ∈ w := fun k hk => List.mem_of_mem_drop (List.mem_of_mem_take hk)
end K82
/-! K82, part 2: rules that the layer lacks: an error that is kept behind its except suite, isinstance of it, calls and new instances within a try. -/
namespace K82
open PySem PySem.Spec PyProof.Rows L2

/-! ### an error kept behind the suite -/
/-- at a lies an error of the class cls, caught some time ago -/
def ErrO (cls : Value) (d : Option Addr) (a : Addr) : HO := .ext fun g => ∃ (ob : Obj) (fv : Array Value), g.get? a = some ob ∧ Zc cls d ob ∧ ob.data = .fields fv
theorem errO_ok {P : Program} {w : World} {H : Hp} {g : Heap} {a : Addr} {cls : Value} {d : Option Addr} {ob : Obj} {fv : Array Value} (h1 : g.get? a = some ob) (h2 : Zc cls d ob) (h3 : ob.data = .fields fv) : ObjOk P w H g a (ErrO cls d a) :=
  ⟨⟨ob, fv, h1, h2, h3⟩, ⟨ob, h1⟩, fun _ _ z stay => let ⟨o, f, e1, e2, e3⟩ := z; ⟨o, f, stay o e1, e2, e3⟩⟩
/-- from now on the error is tracked -/
theorem track {X : Cx} {pins : List (Addr × Obj)} {σ : L2.St} {H : Hp} {s : Shared} {a : Addr} {cls : Value} {d : Option Addr} {ob : Obj} {fv : Array Value} (I : Inv X pins σ H s) (h1 : s.heap.get? a = some ob) (h2 : Zc cls d ob) (h3 : ob.data = .fields fv)
    (na : H a = none) (nL : a ≠ X.env.locals) (n0 : X.s_0.heap.get? a = none) (np : ∀ p ∈ X.pn ++ pins, p.1 ≠ a) : Inv X pins σ (upd H a (ErrO cls d a)) s where
  ok := I.ok
  os := I.os
  bare := I.bare
  base := {
    keep := I.base.keep
    slot := I.base.slot
    free := fun b o e n hb => by
      rw [upd_ne (fun z => by rw [z, n0] at e; cases e)]
      exact I.base.free b o e n hb
    there := I.base.there
    tups := fun b xs e => by
      have q := I.base.tups b xs e
      rw [upd_ne (ne_of_none q na)]
      exact q
    frzs := fun b o u e => by
      have q := I.base.frzs b o u e
      rw [upd_ne (ne_of_none q na)]
      exact q
    tbls := fun b ps e => by
      obtain ⟨m, q⟩ := I.base.tbls b ps e
      exact ⟨m, by rw [upd_ne (ne_of_none q na)]; exact q⟩ }
  loc := I.loc
  cell := I.cell
  free := by
    rw [upd_ne nL.symm]
    exact I.free
  freeC := fun x c e => by
    have nc : c ≠ a := fun z => by
      obtain ⟨v, o, e1, e2⟩ := I.cell x c e
      rw [z, h1] at e1
      cases e1
      rw [h3] at e2
      cases e2
    rw [upd_ne nc]
    exact I.freeC x c e
  pin := fun p hp => by
    obtain ⟨e1, e2, e3⟩ := I.pin p hp
    exact ⟨e1, by rw [upd_ne (np p hp)]; exact e2, e3⟩
  hok := I.hok.laidN (fun _ _ q => q) na (errO_ok h1 h2 h3)
  len := I.len

/-- what the clause «except x as n» wishes of the body's errors: each is x's; behind the suite the error stays known -/
def wKeep (K : PySem.W.Frag) (c : Value) (i : Nat) (ts : Addr → Value → Option Addr → TS) (D : Ends) : WX := fun cls d σ H =>
  PySem.W.exmOne K cls c = some true ∧ ∀ a, H a = none → ts a cls d ⟨fun σ' H' => D.nx (σ'.set i none) (upd H' a (ErrO cls d a)), fun _ _ => False, fun _ _ => False, fun _ _ => False⟩ (σ.set i (some (.ref a))) H
theorem ps_try_keep {X : Cx} {x n : Str} {c : Value} {i : Nat} {body suite : List Stmt} {st : Stmt} {np pos pos' : Pos} {tb : WX → TS} {ts : Addr → Value → Option Addr → TS}
    (hs : X.stack = X.env :: X.outer) (hf : X.env.frame = some X.env.locals) (hex : X.ex = []) (hN : X.N.Nodup) (hi : X.N[i]? = some n) (hln : X.env.kindOf n = some .local) (hc : Names X x c)
    (hb : ∀ (W : WX) (pn : List (Addr × Obj)) (xe : Value → Shared → Prop), Takes (X.tr pn xe) W → PassesOwn (model X.prog X.w) X.A X.env xe → PSs (X.tr pn xe) body (tb W))
    (hsu : ∀ (a : Addr) (oe : Obj) (cls : Value) (d : Option Addr) (pn : List (Addr × Obj)), Zc cls d oe → (∃ vs, oe.data = .fields vs) → PSs (X.suite a ((a, oe) :: pn)) (st :: suite) (ts a cls d)) :
    PS X (.Try body [.ExceptHandler (some (.Name x np)) (some n) (st :: suite) pos'] [] [] pos) (fun D σ H => tb (wKeep X.K c i ts D) D σ H) := by
  refine ⟨fun pins s σ H D I h => ?_⟩
  have ok := I.ok
  have fr : X.A.frames = some (X.env :: X.outer) := ok.frames.trans (congrArg some hs)
  refine wpAny_Try_except ?_
  refine wpAny_mono ((hb (wKeep X.K c i ts D) (X.pn ++ pins) (fun e s1 => wpAny (model X.prog X.w) X.A (noteFrame e X.env) (fun _ s2 => wpAny (model X.prog X.w) X.A (setFlight e none) (fun _ s3 =>
    wpAny (model X.prog X.w) X.A (handleBy e X.env [.ExceptHandler (some (.Name x np)) (some n) (st :: suite) pos']) (SP X pins D) X.xe s3) X.xe s2) X.xe s1) (fun u s' xx => ?_) PassesOwn.looking).run [] s σ H D (I.toTry _) h) (fun f s1 q => ?_) (fun _ _ z => z)
  · obtain ⟨a, B, sI, pI, σ', H', cls, d, rfl, JI, nb, up, sky, na, os, ag, hit, go⟩ := xx
    have J : Inv X pins σ' H' sI := JI.ofTry ok
    rw [show (X.tr (X.pn ++ pins) _).stack = X.env :: X.outer from hs] at sky
    show wpAny _ X.A (noteFrame (.ref a) X.env) _ _ _
    refine Sky.land Zc.steady fr hf sky fun h3 f3 u3 => ?_
    have J3 : Inv X pins σ' H' { s' with heap := h3 } := J.landed nb f3.1 (up.trans u3) os ag
    obtain ⟨o3, v3, g3, z3, d3⟩ := f3.there
    have out : a ∉ frs (X.env :: X.outer) := fun hm => by
      obtain ⟨_, o, e, no⟩ := f3.2.2.1.mem hm
      rw [g3] at e
      cases e
      exact no _ d3
    have nL : a ≠ X.env.locals := fun z => out (List.mem_filterMap.mpr ⟨X.env, List.mem_cons_self, by rw [hf, z]⟩)
    have nF : a ∉ frs X.outer := fun among => by
      obtain ⟨en, at_, q⟩ := List.mem_filterMap.mp among
      exact out (List.mem_filterMap.mpr ⟨en, List.mem_cons_of_mem _ at_, q⟩)
    -- nothing stood at a ahead of the error
    have aI : sI.heap.get? a = none := by
      cases e : sI.heap.get? a with
      | none => rfl
      | some o =>
        have z := nb a o e (by rw [show X.stack = X.env :: X.outer from hs]; exact out)
        have zB : B.get? a = none := f3.2.1
        rw [zB] at z
        cases z
    have a0 : X.s_0.heap.get? a = none := by
      cases at0 : X.s_0.heap.get? a with
      | none => rfl
      | some o =>
        obtain ⟨o', z⟩ := J.base.there a o at0 (by rw [hex]; exact fun z => nomatch z)
        rw [aI] at z
        cases z
    have aP : ∀ p ∈ X.pn ++ pins, p.1 ≠ a := fun p hp z => by
      have q := (J.pin p hp).1
      rw [z, aI] at q
      cases q
    have S3 := J3.suite g3 d3 na nL nF
    have look : PySem.W.Looks (model X.prog X.w) h3 (typeOf (.ref a)) cls := fun A Q E s k q => wpAny_typeOf_ref (k _ _ g3) (by rw [z3.1]; exact q)
    have hits := PySem.W.exm_one (M := model X.prog X.w) J3.kIn look hit
    have test : ∀ {Q E : Value → Shared → Prop}, Q c { s' with heap := h3 } → wpAny (model X.prog X.w) (X.A.mark (some (.ref a))) (eval (.Name x np) X.env) Q E { s' with heap := h3 } := fun {Q E} q => by
      obtain ⟨hg, hdb, hm | ⟨hm, hv, hnn⟩⟩ := hc
      · exact ld_glob (X := X.suite a ((a, o3) :: (X.pn ++ pins))) S3 hg hm q hdb
      · exact ld_blt (X := X.suite a ((a, o3) :: (X.pn ++ pins))) S3 hg hm hv q hnn hdb
    refine wpAny_handleBy_cons (codeAny_handlers_test (test (hits.here (codeAny_handlers_suite_as ?_)))) (fun z => by cases z)
    refine HandSPX.lands_againZ f3 fun h4 f4 u4 => ?_
    have J4 : Inv X pins σ' H' { s' with heap := h4 } := J.landed nb f4.1 ((up.trans u3).trans u4) os ag
    obtain ⟨o4, v4, g4, z4, d4⟩ := f4.there
    refine store_ok (X := X.suite a ((a, o4) :: (X.pn ++ pins))) (v := .ref a) (J4.suite g4 d4 na nL nF) hN hi (.inl hln) rfl (fun s5 S5 => ?_) (.inr hln)
    refine wpAny_mono ((hsu a o4 cls d (X.pn ++ pins) z4 ⟨_, d4⟩).run [] s5 _ H' _ S5 (go a na)) (fun f s6 q => ?_) (fun _ _ z => False.elim z)
    cases f with
    | next =>
      obtain ⟨σ6, H6, S6, q6⟩ := q
      obtain ⟨e6, n6, _⟩ := S6.pin (a, o4) (List.mem_append_left _ List.mem_cons_self)
      exact gone_ok (track (S6.unsuite ok) e6 z4 d4 n6 nL a0 aP) hN hi hln fun s7 J7 => ⟨_, _, J7, q6⟩
    | brk =>
      obtain ⟨_, _, _, z⟩ := q
      exact False.elim z
    | cont =>
      obtain ⟨_, _, _, z⟩ := q
      exact False.elim z
    | ret u =>
      obtain ⟨_, _, _, _, _, z⟩ := q
      exact False.elim z
  · cases f with
    | next =>
      obtain ⟨σ1, H1, J1, z⟩ := q
      exact wpAny_execs_nil ⟨σ1, H1, J1.ofTry ok, z⟩
    | brk =>
      obtain ⟨σ1, H1, J1, z⟩ := q
      exact ⟨σ1, H1, J1.ofTry ok, z⟩
    | cont =>
      obtain ⟨σ1, H1, J1, z⟩ := q
      exact ⟨σ1, H1, J1.ofTry ok, z⟩
    | ret u =>
      obtain ⟨v, σ1, H1, J1, r, z⟩ := q
      exact ⟨v, σ1, H1, J1.ofTry ok, r, z⟩

/-! ### isinstance of such an error -/
theorem err_inst {X : Cx} {pins : List (Addr × Obj)} {σ : L2.St} {H : Hp} {s : Shared} {a D : Addr} (I : Inv X pins σ H s) (h : H a = some (ErrO (.ref D) none a)) : ∃ ob : Obj, PySem.W.InstAt s.heap a ob D none := by
  obtain ⟨⟨ob, fv, e, hz, hd⟩, _, _⟩ := I.hok a _ h
  refine ⟨ob, ?_⟩
  obtain ⟨oc, od, dt, sl⟩ := ob
  obtain ⟨z1, z2⟩ := hz
  dsimp only at z1 z2 hd
  subst z1 z2 hd
  exact ⟨e, rfl, rfl, trivial⟩
def rIsErr (K : PySem.W.Frag) : List V → Hp → VK → Prop := fun xs H Q => ∃ (a D : Addr) (c : V) (cv : Value) (b : Bool), xs = [.ref a, c] ∧ H a = some (ErrO (.ref D) none a) ∧ ExcC K D ∧ ClsV c cv ∧ PySem.W.kitOne K (.ref D) cv = some b ∧ Q (.bl b) H
theorem call_isErr {X : Cx} : CallR X (.builtin "isinstance") (rIsErr X.K) := by
  intro pins s σ H xs us Q I rel ⟨a, D, c, cv, b, exs, ha, C, hcv, e, q⟩
  subst exs
  obtain ⟨v1, v2, rfl, r1, r2⟩ := vals2 rel
  cases (show v1 = Value.ref a from r1)
  cases (hcv.eq r2)
  obtain ⟨ob, J⟩ := err_inst I ha
  exact PySem.W.kia_one (PySem.W.handS_kitx_exc C.hg C.hk C.hs C.hd C.ha C.hn C.ht C.hm) I.kIn J e (fun z => nomatch z) fun tk => ⟨.bl b, H, I.tok tk, rfl, q⟩
def rIsErrT (K : PySem.W.Frag) : List V → Hp → VK → Prop := fun xs H Q => ∃ (a D tp : Addr) (cs : List V) (us : List Value) (b : Bool), xs = [.ref a, .ref tp] ∧ H a = some (ErrO (.ref D) none a) ∧ ExcC K D ∧ H tp = some (.tup cs) ∧ Paired ClsV cs us ∧
  PySem.W.kitAny K (.ref D) us = some b ∧ Q (.bl b) H
theorem call_isErrT {X : Cx} : CallR X (.builtin "isinstance") (rIsErrT X.K) := by
  intro pins s σ H xs us Q I rel ⟨a, D, tp, cs, ws, b, exs, ha, C, hT, k, e, q⟩
  subst exs
  obtain ⟨v1, v2, rfl, r1, r2⟩ := vals2 rel
  cases (show v1 = Value.ref a from r1)
  cases (show v2 = Value.ref tp from r2)
  obtain ⟨ob, J⟩ := err_inst I ha
  obtain ⟨_, its, rv, o, g1, g2, m, g3⟩ := (show ObjOk X.prog X.w H s.heap tp (.tup cs) from I.hok tp _ hT)
  have e3 := ClsV.all k rv
  subst e3
  obtain ⟨oc, od, dt, sl⟩ := o
  dsimp only at g2 g3
  subst g2 g3
  exact PySem.W.kia_tup (PySem.W.handS_kitx_exc C.hg C.hk C.hs C.hd C.ha C.hn C.ht C.hm) I.kIn J g1 e (fun z => nomatch z) fun tk => ⟨.bl b, H, I.tok tk, rfl, q⟩

/-! ### within a try: o.m(e, ..) and C(e, ..), the error wished for at the slots as they stand -/
def tMethS (C : Addr) (m : Str) (sp : Sp) (E : L2.St → XK) (ta : TE) (t : TA) : TE := fun σ H Q => ta σ H fun x H1 => ∃ a dx fs, x = .ref a ∧ H1 a = some (.ins C dx fs) ∧ fs.lookup m = none ∧ t σ H1 fun vs H2 => sp (x :: vs) H2 Q (E σ)
theorem pe_methS {X : Cx} {CX : CXT} {k : Nat} {f C : Addr} {fd : FuncData} {ps : List Str} {sp : Sp} {E : L2.St → XK} {m : Str} {pos apos : Pos} {e o : Expr} {es : List Expr} {ta : TE} {t : TA} {pl : Sem Bool} (he : PE X o ta) (c : Cls X.K C) (hm : Meth X.K C m f)
    (F : FnOk X.prog X.w X.K X.mg X.base CX k f fd ps sp) (hr : Room k X.A) (hb : Binds X.K fd ps []) (hx : ∀ σ, PassesAt CX X σ (E σ)) (ha : PA X (e :: es) t)
    (hst : starEach (e :: es) X.env = (false, eval e X.env) :: starEach es X.env := by rfl) (hpl : (backTo pos (starEach es X.env)).any (·.1) = false := by rfl)
    (ht : eval (.Call (.Attribute o m apos) (e :: es) [] pos) X.env = (do
      let ov ← eval o X.env
      standAt apos.atName
      let (f, first) ← holding [ov] (getMethod ov m pl)
      callWith pos f first (backTo pos (starEach (e :: es) X.env)) (backToKw pos (keywordEach [] X.env))) := by rfl) :
    PE X (.Call (.Attribute o m apos) (e :: es) [] pos) (tMethS C m sp E ta t) := by
  refine ⟨fun pins s σ H Q I h => ?_⟩
  refine PySem.W.methodCall_KW (pl := pl) (thn (he.run pins s σ H _ I h) fun u s1 ⟨x, H1, I1, rx, a, dx, fs, ex, ea, l, q⟩ => ?_) ht
  subst ex
  obtain rfl : u = Value.ref a := rx
  refine getmeth_ok I1 ea c hm l ?_
  refine PySem.W.callWith_K (first := [.ref a]) (h₀ := X.base) I.ok.mod.kin hm.kp (thn (ha.run pos pins s1 σ H1 _ I1 q) fun us s2 ⟨vs, H2, I2, r, q2⟩ => ⟨I2.kIn, ?_⟩) hst hpl
  exact run_fnS (us := .ref a :: us) (vs := .ref a :: vs) F hr hb (hx σ) I2 (.cons rfl r) q2
def tMakeS (C : Addr) (sp : Sp) (E : L2.St → XK) (t : TA) : TE := fun σ H Q => t σ H fun vs H1 => ∀ y dy, H1 y = none → H1 dy = none → dy ≠ y → sp (.ref y :: vs) (upd (upd H1 dy (.own y)) y (.ins C dy [])) (fun v H2 => v = .non ∧ Q (.ref y) H2) (E σ)
theorem pe_makeS {X : Cx} {CX : CXT} {k : Nat} {f C : Addr} {fd : FuncData} {ps : List Str} {sp : Sp} {E : L2.St → XK} {x : Str} {p pos : Pos} {e : Expr} {es : List Expr} {t : TA} (M : Mk X.K C f) (F : FnOk X.prog X.w X.K X.mg X.base CX k f fd ps sp)
    (hr : Room (k + 1) X.A) (hg : Gl X x) (hm : X.mg x = some (.ref C)) (hb : Binds X.K fd ps []) (hx : ∀ σ, PassesAt CX X σ (E σ)) (ha : PA X (e :: es) t) (hdb : (x == ("__debug__" : Str)) = false := by decide)
    (he : starEach (e :: es) X.env = (false, eval e X.env) :: starEach es X.env := by rfl) (hpl : (backTo pos (starEach es X.env)).any (·.1) = false := by rfl) : PE X (.Call (.Name x p) (e :: es) [] pos) (tMakeS C sp E t) := by
  refine ⟨fun pins s σ H Q I h => ?_⟩
  refine wpAny_Call_Name_kw (ld_glob I hg hm (PySem.W.callWith_K (h₀ := X.base) I.ok.mod.kin M.kp (thn (ha.run pos pins s σ H _ I h) fun us s1 ⟨vs, H1, I1, r, q⟩ => ⟨I1.kIn, ?_⟩) he hpl) hdb)
  have want := q (s1.heap.objs.size + 1) s1.heap.objs.size (I1.hok.fresh (Nat.le_succ _)) (I1.hok.fresh (Nat.le_refl _)) (Nat.ne_of_lt (Nat.lt_succ_self _))
  have I2 := Inv.made (C := C) I1
  have r2 : Vals (V.ref (s1.heap.objs.size + 1) :: vs) (Value.ref (s1.heap.objs.size + 1) :: us) := .cons rfl r
  have hl : (Value.ref (s1.heap.objs.size + 1) :: us ++ []).length = ps.length := by
    rw [List.append_nil, ← r2.length]
    exact F.len _ _ _ _ want
  have bd := hb _ (Value.ref (s1.heap.objs.size + 1) :: us) I2.kIn hl
  rw [List.append_nil] at bd
  refine wpAny_call (make_map (f := f) I1.kIn M.makes M.init (beq_iff_eq.mp M.fn) (codeAny_mono (F.run _ X.stack _ _ _ _ _ _ (E σ) (hr.make C us []) (I2.env0.make C us []) bd r2 want) fun res s' hq => ?_))
  cases res with
  | error err => exact hx σ pins _ _ err s' I2 hq
  | ok fl =>
    cases fl with
    | ret u =>
      obtain ⟨v, H', I3, rv, ev, q3⟩ := I2.after hq
      subst ev
      exact ⟨rv, ⟨V.ref (s1.heap.objs.size + 1), H', I3, rfl, q3⟩⟩
    | next => exact False.elim hq
    | brk => exact False.elim hq
    | cont => exact False.elim hq

/-! ### for i, x in enumerate(list): the pair is a new tuple -/
theorem for_enum {K : PySem.W.Frag} {a : Addr} {xs : List V} {g : TG} {tb : TS} {D : Ends} {σ : L2.St} {H : Hp} (Pv : Nat → L2.St → Hp → Prop) (h0 : Pv 0 σ H) (hl : ∀ i σ H, i ≤ xs.length → Pv i σ H → SqL K H a xs)
    (hs : ∀ i x T σ H, xs[i]? = some x → Pv i σ H → H T = none → g (.ref T) σ (upd H T (.tup [.int (i : Nat), x])) fun σ2 H2 => tb { D with nx := Pv (i + 1), ct := Pv (i + 1), bk := D.nx } σ2 H2) (hd : ∀ σ H, Pv xs.length σ H → D.nx σ H) :
    ∃ W : Nat → Nat → L2.St → Hp → Prop, (∃ m, W 0 m σ H) ∧ ∀ i m σ H, W i m σ H → ((Ite K a).stop i H ∧ D.nx σ H) ∨ ((Ite K a).go i H ∧ ∃ N : L2.St → Hp → Prop, (∀ σ' H', N σ' H' → ∃ m', m' < m ∧ W (i + 1) m' σ' H') ∧ ∀ x H', (Ite K a).yld i H x H' → g x σ H' fun σ2 H2 => tb { D with nx := N, ct := N, bk := D.nx } σ2 H2) := by
  refine ⟨fun i m σ H => m = xs.length - i ∧ i ≤ xs.length ∧ Pv i σ H, ⟨_, rfl, Nat.zero_le _, h0⟩, ?_⟩
  rintro i m σ H ⟨rfl, hi, p⟩
  have q := hl i σ H hi p
  rcases Nat.lt_or_ge i xs.length with lt | ge
  · refine .inr ⟨⟨xs, xs[i], q, List.getElem?_eq_getElem lt⟩, Pv (i + 1), fun σ' H' p' => ⟨_, by omega, rfl, lt, p'⟩, ?_⟩
    rintro x H' ⟨T, y, rfl, hT, rfl, hy⟩
    exact hs i y T σ H (hy xs q) p hT
  · have all : i = xs.length := Nat.le_antisymm hi ge
    rw [all] at p
    exact .inl ⟨⟨xs, q, ge⟩, hd σ H p⟩
end K82
/-! K82, part 3: the text by places, the facts of the written part, the heap's words. -/
namespace K82
open PySem PySem.Spec PyProof.Rows L2
/-! ### the text -/
def top (i : Nat) : Stmt := PySem.Challenge.pw_braidcomb_k82_refused_changes_nothing.main.body.getD i (.Pass ⟨0, 0, 0, 0⟩)
abbrev sChecked : Stmt := top 14
abbrev sMoveAt : Stmt := top 16
abbrev sCanMove : Stmt := top 17
abbrev sMoved : Stmt := top 18
abbrev sInit : Stmt := inClass (top 20) 0
abbrev sHang : Stmt := inClass (top 20) 1
abbrev sDrop : Stmt := inClass (top 20) 2
abbrev sGo : Stmt := inClass (top 20) 3
abbrev sUndo : Stmt := inClass (top 20) 4
abbrev sNow : Stmt := inClass (top 20) 5
abbrev sMix : Stmt := top 22
abbrev sCellAt : Stmt := top 23
abbrev sStrings : Stmt := top 24
abbrev sCrossing : Stmt := top 25
abbrev sPiece : Stmt := top 26
abbrev sDrawn : Stmt := top 27
abbrev sDone : Stmt := top 28
abbrev sCan : Stmt := top 29
abbrev sNumber : Stmt := top 30
abbrev sEqual : Stmt := top 31
abbrev sRefused : Stmt := top 32
abbrev sDeedBy : Stmt := top 33
abbrev sDue : Stmt := top 34
abbrev sBehind : Stmt := top 35
abbrev sMadeGood : Stmt := top 36
abbrev sLaw : Stmt := top 37

/-! ### facts of the written part -/
/-- an error class of the program's own, made with a text -/
structure ErrC (K : PySem.W.Frag) (mg : Str → Option Value) (x : Str) (C : Addr) : Prop where
  g : mg x = some (.ref C)
  xc : PySem.W.excIn K C [.type "ValueError", .type "Exception", .type "BaseException", .type "object"] "ValueError.__new__" = true
  keep : PySem.W.keepIn K (.ref C) = true
  sb : PySem.W.subIn K (.ref C) (.type "BaseException") = some true
  ty : PySem.W.typeIn K (.ref C) = some (.type "type")
/-- names that the program leaves as they are -/
structure Blt (mg : Str → Option Value) : Prop where
  len : mg "len" = none
  abs : mg "abs" = none
  max : mg "max" = none
  isi : mg "isinstance" = none
  enum : mg "enumerate" = none
  range : mg "range" = none
  tuple : mg "tuple" = none
  str : mg "str" = none
  int : mg "int" = none
  bool : mg "bool" = none
  list : mg "list" = none
  verr : mg "ValueError" = none
/-- the class of the loom -/
structure LoomC (K : PySem.W.Frag) (mg : Str → Option Value) (C : Addr) : Prop where
  cl : Cls K C
  nS : NoAttr K C "strings"
  nH : NoAttr K C "hung"
  nP : NoAttr K C "past"
  g : mg "Loom" = some (.ref C)
/-- a def of the module as callers see it -/
def Cal (P : Program) (w : World) (K : PySem.W.Frag) (mg : Str → Option Value) (base : Heap) (CX : CXT) (k : Nat) (x : Str) (ps : List Str) (sp : Sp) : Prop :=
  ∃ (f : Addr) (fd : FuncData), FnOk P w K mg base CX k f fd ps sp ∧ mg x = some (.ref f) ∧ PySem.W.keepIn K (.ref f) = true ∧ Binds K fd ps []
/-- where a def of the module stands -/
def At (K : PySem.W.Frag) (mg : Str → Option Value) (x : Str) (st : Stmt) : Prop := ∃ (f : Addr) (fd : FuncData), Fun K x x st f fd ∧ mg x = some (.ref f)
/-- a method of the loom as callers see it -/
def CalM (P : Program) (w : World) (K : PySem.W.Frag) (mg : Str → Option Value) (base : Heap) (CX : CXT) (k : Nat) (C : Addr) (m : Str) (ps : List Str) (sp : Sp) : Prop :=
  ∃ (f : Addr) (fd : FuncData), FnOk P w K mg base CX k f fd ps sp ∧ Meth K C m f ∧ Binds K fd ps []
/-- where a method stands -/
def AtM (K : PySem.W.Frag) (C : Addr) (m q : Str) (st : Stmt) : Prop := ∃ (f : Addr) (fd : FuncData), Fun K m q st f fd ∧ Meth K C m f

/-! ### the heap -/
/-- a word of crossings lies at a -/
def Wd (H : Hp) (a : Addr) (w : List Int) : Prop := H a = some (.lst (w.map V.int))
/-- all but the objects at x and l is as it was -/
def Kp (x l : Addr) (H H' : Hp) : Prop := ∀ b o, H b = some o → b ≠ x → b ≠ l → H' b = some o
theorem Kp.refl (x l : Addr) (H : Hp) : Kp x l H H := fun _ _ h _ _ => h
theorem Kp.trans {x l : Addr} {H H1 H2 : Hp} (a : Kp x l H H1) (b : Kp x l H1 H2) : Kp x l H H2 := fun c o h n m => b c o (a c o h n m) n m
theorem Kp.of {x l : Addr} {H H' : Hp} (s : Same H H') : Kp x l H H' := fun b o h _ _ => s b o h
theorem Same.new {H : Hp} {p : Addr} {o : HO} (h : H p = none) : Same H (upd H p o) := fun b u e => by
  rw [upd_ne (ne_of_none e h)]
  exact e
theorem Same.wd {H H' : Hp} {a : Addr} {w : List Int} (s : Same H H') (h : Wd H a w) : Wd H' a w := s _ _ h
theorem wd_new {H : Hp} {p : Addr} {w : List Int} : Wd (upd H p (.lst (w.map V.int))) p w := upd_same
theorem Wd.up {H : Hp} {a p : Addr} {w : List Int} {o : HO} (h : Wd H a w) (n : H p = none) : Wd (upd H p o) a w := (upd_ne (ne_of_none h n)).trans h
theorem up_same {H : Hp} {a p : Addr} {u o : HO} (h : H a = some u) (n : H p = none) : upd H p o a = some u := (upd_ne (ne_of_none h n)).trans h
/-- items of a word by their places -/
theorem at_int {w : List Int} {i : Nat} {k : Int} (h : w[i]? = some k) : atI (w.map V.int) (i : Int) = some (.int k) := by
  refine atI_nat ?_
  rw [List.getElem?_map, h]
  rfl
theorem at_lit {w : List Int} {z : Int} {i : Nat} {k : Int} (e : z = (i : Int)) (h : w[i]? = some k) : atI (w.map V.int) z = some (.int k) := by
  rw [e]
  exact at_int h
theorem line4 {n : Nat} (h : n ≤ 1000) : n ≤ sizeLine := by
  rw [sizeLine_eq]
  omega
/-- an item of a word that a loop takes -/
theorem item_of {w : List Int} {i : Nat} {y : V} (h : (w.map V.int)[i]? = some y) : ∃ k, w[i]? = some k ∧ y = V.int k := by
  rw [List.getElem?_map] at h
  cases e : w[i]? with
  | none =>
    rw [e] at h
    cases h
  | some k =>
    rw [e] at h
    exact ⟨k, rfl, (Option.some.inj h).symm⟩
theorem dec_of {p q : Prop} [Decidable p] [Decidable q] (h : p ↔ q) : decide p = decide q := by
  by_cases e : p
  · rw [decide_eq_true e, decide_eq_true (h.mp e)]
  · rw [decide_eq_false e, decide_eq_false (fun z => e (h.mpr z))]
theorem ite_same {c A : Prop} [Decidable c] (h : A) : if c then A else A := by
  split <;> exact h
/-- a test's answer that is known -/
theorem iteB {b : Bool} {A B : Prop} (h1 : b = true → A) (h2 : b = false → B) : if b = true then A else B := by
  cases b with
  | true => exact iteT (h1 rfl)
  | false => exact iteF (h2 rfl)
theorem if_t {b : Bool} {A B : Prop} (e : b = true) (h : A) : if b = true then A else B := by
  rw [e]
  exact iteT h
theorem if_f {b : Bool} {A B : Prop} (e : b = false) (h : B) : if b = true then A else B := by
  rw [e]
  exact iteF h
end K82
namespace K82
open PySem PySem.Spec PyProof.Rows L2
/-! ### checked(n, word) -/
def good (n : Int) (w : List Int) : Bool := (decide (1 ≤ n) && decide (n ≤ 7)) && okW n w
def spChecked (CW : Addr) : Sp := fun vs H Q E => ∃ (n : Int) (a : Addr) (w : List Int), vs = [.int n, .ref a] ∧ Wd H a w ∧
  (good n w = true → Q (.bl true) H) ∧ (good n w = false → E (.ref CW) none H)
section
variable {P : Program} {w : World} {K : PySem.W.Frag} {mg : Str → Option Value} {base : Heap} {CW : Addr}
theorem scChecked : FnScope ["n", "word", "k"] ["n", "word"] (defScope sChecked) := ⟨rfl, rfl, rfl, by decide +kernel, rfl, by decide +kernel, by decide +kernel⟩
theorem cal_checked (D : At K mg "checked" sChecked) (EW : ErrC K mg "NoWord" CW) (B : Blt mg) (hM : ∃ t, mg "MOST_STRINGS" = some (.int 7 t)) : Cal P w K mg base (L2.CX P w) 1 "checked" ["n", "word"] (spChecked CW) := by
  obtain ⟨f, fd, F, g⟩ := D
  obtain ⟨tM, gM⟩ := hM
  refine ⟨f, fd, F.okX scChecked (fun vs H Q E h => ?_) (fun cdv A outer s H vs Q E hr h => ?_), g, F.kp, F.binds (ps := ["n", "word"]) fun _ _ _ _ _ _ us hl => match us, hl with | [_, _], _ => rfl⟩
  · obtain ⟨_, _, _, rfl, _⟩ := h
    rfl
  · obtain ⟨n, a, wd, rfl, hw, kY, kN⟩ := h
    refine ⟨_, pss_cons (ps_if (pt_not (pt_chain op_le op_le pe_int (pv 0) (pe_glob (v := .int 7) rfl gM ⟨_, rfl⟩))) (pss_one (ps_raise rfl (takes_of rfl rfl rfl rfl) (pmk_own PySem.F.excBase_ValueError EW.xc EW.g EW.keep (raises_own EW.sb EW.ty) rfl))) pss_nil)
      (pss_cons (ps_for (passes_of rfl) rfl (pi_list (pv 1)) (pg_name (i := 2) scChecked.nd rfl (Or.inl rfl))
        (pss_one (ps_if (PW.pt (pw_or (pt_cmpR op_eq (pv 2) pe_int (nomark _)) (pw_or1 (pt_cmpR op_ge (pe_callB call_abs (by rfl) B.abs boot_abs (pa_cons (pv 2) pa_nil)) (pv 0) (nomark _)))))
          (pss_one (ps_raise rfl (takes_of rfl rfl rfl rfl) (pmk_own PySem.F.excBase_ValueError EW.xc EW.g EW.keep (raises_own EW.sb EW.ty) rfl))) pss_nil)))
      (pss_one (ps_ret pe_bl))), ?_⟩
    refine ⟨_, rfl, 1, n, rfl, rfl, _, rfl, ?_⟩
    by_cases h1 : 1 ≤ n
    · refine if_t (decide_eq_true h1) ⟨n, 7, rfl, rfl, _, rfl, ?_⟩
      by_cases h7 : n ≤ 7
      · refine if_f (by rw [decide_eq_true h7]; rfl) ?_
        refine ⟨_, rfl, a, rfl, ⟨_, SqL.of hw⟩, for_list (K := K) (a := a) (xs := wd.map V.int) (fun i σ H' => H' = H ∧ (∃ v, σ = [some (.int n), some (.ref a), v]) ∧ ∀ k ∈ wd.take i, badC n k = false) ⟨rfl, ⟨_, rfl⟩, fun k hk => by simp at hk⟩ (fun i σ H' _ ⟨e, _⟩ => by rw [e]; exact SqL.of hw) ?_ ?_⟩
        · rintro i y σ H' hi ⟨rfl, ⟨v, rfl⟩, hp⟩
          obtain ⟨k, hk, rfl⟩ := item_of hi
          have bad : badC n k = true → E (.ref CW) none H' := fun hb => kN (by
            cases e : good n wd with
            | false => rfl
            | true =>
              have z := (Bool.and_eq_true_iff.mp e).2
              have q := List.all_eq_true.mp z k (List.mem_of_getElem? hk)
              rw [hb] at q
              cases q)
          refine ⟨_, rfl, rfl, _, rfl, ?_⟩
          by_cases h0 : k = 0
          · refine if_t (decide_eq_true (by rw [h0])) (iteT (bad (by unfold badC; rw [decide_eq_true h0]; rfl)))
          · refine if_f (decide_eq_false (fun z => h0 (V.int.inj z))) ?_
            refine ⟨_, rfl, k, rfl, _, rfl, _, n, rfl, rfl, _, rfl, ?_⟩
            have e : (decide (n ≤ if k < 0 then -k else k)) = badC n k := by
              unfold badC ab
              rw [decide_eq_false h0]
              rfl
            rw [e]
            refine iteB bad (fun hb => ⟨rfl, ⟨_, rfl⟩, fun z hz => ?_⟩)
            rw [List.take_add_one, hk] at hz
            rcases List.mem_append.mp hz with q | q
            · exact hp z q
            · have e2 : z = k := by simpa using q
              rw [e2]
              exact hb
        · rintro σ H' ⟨rfl, _, hp⟩
          refine kY ?_
          unfold good
          rw [decide_eq_true h1, decide_eq_true h7]
          rw [List.length_map, List.take_length] at hp
          show okW n wd = true
          unfold okW
          rw [List.all_eq_true]
          intro k hk
          rw [hp k hk]
          rfl
      · refine if_t (by rw [decide_eq_false h7]; rfl) (kN ?_)
        unfold good
        rw [decide_eq_false h7, Bool.and_false]
        rfl
    · refine if_f (decide_eq_false h1) ⟨false, rfl, iteT (kN ?_)⟩
      unfold good
      rw [decide_eq_false h1]
      rfl
end
end K82
namespace K82
open PySem PySem.Spec PyProof.Rows L2
/-! ### short readings -/
theorem dec_vi {a b : Int} : decide (V.int a = V.int b) = decide (a = b) := dec_of ⟨V.int.inj, fun h => by rw [h]⟩
theorem dec_vs {a b : Str} : decide (V.str a = V.str b) = decide (a = b) := dec_of ⟨V.str.inj, fun h => by rw [h]⟩
/-- an item of a word -/
structure RAt (x y : V) (H : Hp) (Q : VK) : Prop where
  ex : ∃ (l : Addr) (w : List Int) (i k : Int) (j : Nat), x = .ref l ∧ y = .int i ∧ Wd H l w ∧ i = (j : Int) ∧ w[j]? = some k ∧ Q (.int k) H
theorem ix_int {X : Cx} : IxR X RAt := by
  intro e0 e1 pins st σ H x y v u Q I rx ry h hs
  refine ix_list e0 e1 pins st σ H x y v u Q I rx ry ?_ hs
  obtain ⟨l, w, i, k, j, e1, e2, hl, e, h, q⟩ := h.ex
  exact ⟨l, _, i, _, e1, e2, SqL.of hl, at_lit e h, q⟩
theorem rd_at {H : Hp} {l : Addr} {w : List Int} {i k : Int} {j : Nat} {Q : VK} (hl : Wd H l w) (e : i = (j : Int)) (h : w[j]? = some k) (q : Q (.int k) H) : RAt (.ref l) (.int i) H Q :=
  ⟨_, _, _, _, _, rfl, rfl, hl, e, h, q⟩
/-- an item of a tuple -/
structure RTup (x y : V) (H : Hp) (Q : VK) : Prop where
  ex : ∃ (t : Addr) (xs : List V) (i : Int) (v : V) (j : Nat), x = .ref t ∧ y = .int i ∧ H t = some (.tup xs) ∧ i = (j : Int) ∧ xs[j]? = some v ∧ Q v H
theorem ix_tupI {X : Cx} : IxR X RTup := by
  intro e0 e1 pins st σ H x y v u Q I rx ry h hs
  refine ix_tup e0 e1 pins st σ H x y v u Q I rx ry ?_ hs
  obtain ⟨t, xs, i, z, j, e1, e2, ht, e, h, q⟩ := h.ex
  exact ⟨t, xs, i, z, e1, e2, SqT.of ht, by rw [e]; exact atI_nat h, q⟩
theorem rd_tup {H : Hp} {t : Addr} {xs : List V} {i : Int} {v : V} {j : Nat} {Q : VK} (ht : H t = some (.tup xs)) (e : i = (j : Int)) (h : xs[j]? = some v) (q : Q v H) : RTup (.ref t) (.int i) H Q :=
  ⟨_, _, _, _, _, rfl, rfl, ht, e, h, q⟩
/-- the length of a word -/
structure RLen (xs : List V) (H : Hp) (Q : VK) : Prop where
  ex : ∃ (l : Addr) (w : List Int), xs = [.ref l] ∧ Wd H l w ∧ Q (.int (w.length : Int)) H
theorem call_lenI {X : Cx} : CallR X (.builtin "len") RLen := by
  intro pins st σ H xs us Q I rl h
  refine call_len_seq pins st σ H xs us Q I rl ?_
  obtain ⟨l, w, e, hl, q⟩ := h.ex
  refine ⟨l, w.map V.int, e, .inl (SqL.of hl), ?_⟩
  rw [List.length_map]
  exact q
theorem rd_len {H : Hp} {l : Addr} {w : List Int} {Q : VK} (hl : Wd H l w) (q : Q (.int (w.length : Int)) H) : RLen [V.ref l] H Q := ⟨l, w, rfl, hl, q⟩
/-- abs -/
structure RAbs (xs : List V) (H : Hp) (Q : VK) : Prop where
  ex : ∃ i : Int, xs = [.int i] ∧ Q (.int (ab i)) H
theorem call_absI {X : Cx} : CallR X (.builtin "abs") RAbs := by
  intro pins st σ H xs us Q I rl h
  exact call_abs pins st σ H xs us Q I rl h.ex
theorem rd_abs {H : Hp} {i : Int} {Q : VK} (q : Q (.int (ab i)) H) : RAbs [V.int i] H Q := ⟨i, rfl, q⟩
/-- a slice of a word -/
structure RSl (x : V) (lo hi : Option Int) (H : Hp) (Q : VK) : Prop where
  ex : ∃ (a : Addr) (w v : List Int), x = .ref a ∧ Wd H a w ∧ cutI w lo hi = v ∧ ∀ p, H p = none → Q (.ref p) (upd H p (.lst (v.map V.int)))
theorem sl_int {X : Cx} : SlR X RSl := by
  intro pins st σ H x v vl vu lo hi sl Q I rx hs pl pu h
  refine sl_list pins st σ H x v vl vu lo hi sl Q I rx hs pl pu ?_
  obtain ⟨a, w, c, e, hw, ec, q⟩ := h.ex
  refine ⟨a, w.map V.int, e, SqL.of hw, fun p hp => ?_⟩
  rw [cutV_int, ec]
  exact q p hp
theorem rd_sl {H : Hp} {a : Addr} {w v : List Int} {lo hi : Option Int} {Q : VK} (hw : Wd H a w) (e : cutI w lo hi = v) (q : ∀ p, H p = none → Q (.ref p) (upd H p (.lst (v.map V.int)))) : RSl (.ref a) lo hi H Q := ⟨a, w, v, rfl, hw, e, q⟩
/-- words joined -/
structure RCat (x y : V) (H : Hp) (Q : VK) : Prop where
  ex : ∃ (a b : Addr) (v w : List Int), x = .ref a ∧ y = .ref b ∧ Wd H a v ∧ Wd H b w ∧ v.length + w.length ≤ 1000 ∧ ∀ p, H p = none → Q (.ref p) (upd H p (.lst ((v ++ w).map V.int)))
theorem op_catI {X : Cx} : OpR X (binaryOp .Add) RCat := by
  intro pins st σ H x y v u Q I rx ry h
  refine op_cat pins st σ H x y v u Q I rx ry ?_
  obtain ⟨a, b, l, r, e1, e2, h1, h2, hz, q⟩ := h.ex
  refine ⟨a, b, _, _, e1, e2, h1, h2, by rw [List.length_map, List.length_map]; exact line4 hz, fun p hp => ?_⟩
  rw [← List.map_append]
  exact q p hp
theorem rd_cat {H : Hp} {a b : Addr} {v w : List Int} {Q : VK} (h1 : Wd H a v) (h2 : Wd H b w) (hz : v.length + w.length ≤ 1000) (q : ∀ p, H p = none → Q (.ref p) (upd H p (.lst ((v ++ w).map V.int)))) : RCat (.ref a) (.ref b) H Q :=
  ⟨a, b, v, w, rfl, rfl, h1, h2, hz, q⟩
section
variable {P : Program} {w : World} {K : PySem.W.Frag} {mg : Str → Option Value} {base : Heap} {CM : Addr}
/-! ### move_at(word, p) -/
def spMoveAt : Sp := fun vs H Q _ => ∃ (a : Addr) (wd : List Int) (p : Int), vs = [.ref a, .int p] ∧ Wd H a wd ∧ 0 ≤ p ∧ (∀ k ∈ wd, ab k < 8) ∧
  (∀ H', Same H H' → moveAt wd p = none → Q .non H') ∧ (∀ H' t kd, Same H H' → H' t = some (.tup [.str (Kd.str kd), .int p]) → moveAt wd p = some kd → Q (.ref t) H')
theorem scMoveAt : FnScope ["word", "p", "here"] ["word", "p"] (defScope sMoveAt) := ⟨rfl, rfl, rfl, by decide +kernel, rfl, by decide +kernel, by decide +kernel⟩
theorem ab_mul {a : Int} (h : ab a < 8) : -(2 ^ 64) < a ∧ a < 2 ^ 64 := by
  unfold ab at h
  have e : (2 : Int) ^ 64 = 18446744073709551616 := by decide
  rw [e]
  split at h <;> constructor <;> omega
theorem cal_moveAt (D : At K mg "move_at" sMoveAt) (B : Blt mg) : Cal P w K mg base CX0 1 "move_at" ["word", "p"] spMoveAt := by
  obtain ⟨f, fd, F, g⟩ := D
  refine ⟨f, fd, F.ok scMoveAt (fun vs H Q E h => ?_) (fun cdv A outer s H vs Q E hr h => ?_), g, F.kp, F.binds (ps := ["word", "p"]) fun _ _ _ _ _ _ us hl => match us, hl with | [_, _], _ => rfl⟩
  · obtain ⟨_, _, _, rfl, _⟩ := h
    rfl
  · obtain ⟨a, wd, p, rfl, hw, hp, hb, kN, kS⟩ := h
    have nd := scMoveAt.nd
    refine ⟨_, pss_cons (ps_set (i := 2) nd rfl (Or.inl rfl) (pe_slice sl_int (pv 0) (po_some (pv 1)) (po_some (pe_op op_add (pv 1) pe_int))))
      (pss_cons (ps_if (pt_cmpR op_lt (pe_callB call_lenI (by rfl) B.len boot_len (pa_cons (pv 2) pa_nil)) pe_int (nomark _)) (pss_one (ps_ret pe_non)) pss_nil)
      (pss_cons (ps_if (pt_cmpR op_eq (pe_ix ix_int (pv 2) pe_int (fun _ _ => rfl)) (pe_un un_neg (pe_ix ix_int (pv 2) pe_int (fun _ _ => rfl))) (nomark _)) (pss_one (ps_ret (pe_tup (pa_cons pe_str (pa_cons (pv 1) pa_nil))))) pss_nil)
      (pss_cons (ps_if (pt_cmpR op_gt (pe_callB call_absI (by rfl) B.abs boot_abs (pa_cons (pe_op op_sub (pe_callB call_absI (by rfl) B.abs boot_abs (pa_cons (pe_ix ix_int (pv 2) pe_int (fun _ _ => rfl)) pa_nil))
          (pe_callB call_absI (by rfl) B.abs boot_abs (pa_cons (pe_ix ix_int (pv 2) pe_int (fun _ _ => rfl)) pa_nil))) pa_nil)) pe_int (nomark _)) (pss_one (ps_ret (pe_tup (pa_cons pe_str (pa_cons (pv 1) pa_nil))))) pss_nil)
      (pss_cons (ps_if (PW.pt (pw_and (pt_cmpR op_eq (pe_callB call_lenI (by rfl) B.len boot_len (pa_cons (pv 2) pa_nil)) pe_int (nomark _))
          (pw_and (pt_cmpR op_eq (pe_ix ix_int (pv 2) pe_int (fun _ _ => rfl)) (pe_ix ix_int (pv 2) pe_int (fun _ _ => rfl)) (nomark _))
          (pw_and (pt_cmpR op_gt (pe_op op_mul (pe_ix ix_int (pv 2) pe_int (fun _ _ => rfl)) (pe_ix ix_int (pv 2) pe_int (fun _ _ => rfl))) pe_int (nomark _))
          (pw_and1 (pt_cmpR op_eq (pe_callB call_absI (by rfl) B.abs boot_abs (pa_cons (pe_op op_sub (pe_ix ix_int (pv 2) pe_int (fun _ _ => rfl)) (pe_ix ix_int (pv 2) pe_int (fun _ _ => rfl))) pa_nil)) pe_int (nomark _)))))))
          (pss_one (ps_ret (pe_tup (pa_cons pe_str (pa_cons (pv 1) pa_nil))))) pss_nil)
      (pss_one (ps_ret pe_non)))))), ?_⟩
    -- here = word[p:p + 3]
    refine ⟨_, rfl, _, rfl, _, rfl, _, rfl, _, _, rfl, rfl, _, rfl, rd_sl hw (cut_here hp) fun l hl => ?_⟩
    have hm : ∀ k ∈ hereOf wd p, ab k < 8 := fun k hk => hb k (List.mem_of_mem_drop (List.mem_of_mem_take hk))
    have h3 : (hereOf wd p).length ≤ 3 := by
      unfold hereOf
      rw [List.length_take]
      omega
    unfold moveAt at kN kS
    generalize hereOf wd p = h at hm h3 kN kS
    have hl2 : Wd (upd H l (.lst (h.map V.int))) l h := wd_new
    have s1 : Same H (upd H l (.lst (h.map V.int))) := Same.new hl
    refine ⟨_, rfl, rd_len hl2 ⟨_, _, rfl, rfl, _, rfl, ?_⟩⟩
    have ret : ∀ kd : Kd, moveH h = some kd → 2 ≤ sizeLine ∧ ∀ q, upd H l (.lst (h.map V.int)) q = none → Q (.ref q) (upd (upd H l (.lst (h.map V.int))) q (.tup [.str (Kd.str kd), .int p])) :=
      fun kd e => ⟨by decide, fun q hq => kS _ q kd (s1.trans (Same.new hq)) upd_same e⟩
    match h, hm, h3, kN, kS, hl2, s1, ret with
    | [], hm, h3, kN, kS, hl2, s1, ret => exact if_t (by simp) (kN _ s1 rfl)
    | [x], hm, h3, kN, kS, hl2, s1, ret => exact if_t (by simp) (kN _ s1 rfl)
    | x :: y :: r, hm, h3, kN, kS, hl2, s1, ret =>
      have ix0 : (x :: y :: r)[0]? = some x := rfl
      have ix1 : (x :: y :: r)[1]? = some y := rfl
      refine if_f (decide_eq_false (by simp only [List.length_cons]; omega)) ?_
      -- here[0] == -here[1]
      refine ⟨_, rfl, rd_at hl2 rfl ix0 ⟨_, rfl, rd_at hl2 rfl ix1 ⟨_, rfl, rfl, _, rfl, ?_⟩⟩⟩
      rw [dec_vi]
      refine iteB (fun c => ?_) (fun c => ?_)
      · exact ⟨_, rfl, ret .out (if_pos (of_decide_eq_true c))⟩
      have n1 : ¬ x = -y := of_decide_eq_false c
      -- abs(abs(here[0]) - abs(here[1])) > 1
      refine ⟨_, rfl, rd_at hl2 rfl ix0 (rd_abs ⟨_, rfl, rd_at hl2 rfl ix1 (rd_abs ⟨_, _, rfl, rfl, rd_abs ⟨_, _, rfl, rfl, _, rfl, ?_⟩⟩)⟩)⟩
      refine iteB (fun c => ?_) (fun c => ?_)
      · exact ⟨_, rfl, ret .far ((if_neg n1).trans (if_pos (of_decide_eq_true c)))⟩
      have n2 : ¬ 1 < ab (ab x - ab y) := of_decide_eq_false c
      -- len(here) == 3 and ..
      refine ⟨_, rfl, rd_len hl2 ⟨rfl, _, rfl, ?_⟩⟩
      rw [dec_vi]
      match r, hm, h3, kN, kS, hl2, s1, ret, ix0, ix1 with
      | [], hm, h3, kN, kS, hl2, s1, ret, ix0, ix1 =>
        refine if_f (by simp) (iteF ?_)
        exact kN _ s1 ((if_neg n1).trans (if_neg n2))
      | z :: r, hm, h3, kN, kS, hl2, s1, ret, ix0, ix1 =>
        have er : r = [] := List.eq_nil_of_length_eq_zero (by simp only [List.length_cons] at h3; omega)
        subst er
        have ix2 : [x, y, z][2]? = some z := rfl
        have fin : nearOk x y z = false → Q .non (upd H l (.lst ([x, y, z].map V.int))) := fun e => kN _ s1 ((if_neg n1).trans ((if_neg n2).trans (if_neg (by rw [e]; exact Bool.false_ne_true))))
        refine if_t (by simp) ⟨_, rfl, rd_at hl2 rfl ix0 ⟨_, rfl, rd_at hl2 rfl ix2 ⟨rfl, _, rfl, ?_⟩⟩⟩
        rw [dec_vi]
        refine iteB (fun c1 => ?_) (fun c1 => iteF (fin (by unfold nearOk; rw [c1]; rfl)))
        refine ⟨_, rfl, rd_at hl2 rfl ix0 ⟨_, rfl, rd_at hl2 rfl ix1 ⟨_, _, rfl, rfl, .inl (ab_mul (hm x List.mem_cons_self)), _, _, rfl, rfl, _, rfl, ?_⟩⟩⟩
        refine iteB (fun c2 => ?_) (fun c2 => iteF (fin (by unfold nearOk; rw [c1, c2]; rfl)))
        refine ⟨_, rfl, rd_at hl2 rfl ix0 ⟨_, rfl, rd_at hl2 rfl ix1 ⟨_, _, rfl, rfl, rd_abs ⟨rfl, _, rfl, ?_⟩⟩⟩⟩
        rw [dec_vi]
        refine iteB (fun c3 => ?_) (fun c3 => fin (by unfold nearOk; rw [c1, c2, c3]; rfl))
        exact ⟨_, rfl, ret .near ((if_neg n1).trans ((if_neg n2).trans (if_pos (by unfold nearOk; rw [c1, c2, c3]; rfl))))⟩
/-! ### == of words, of exchanges -/
theorem dp_word {H : Hp} {a : Addr} {w : List Int} (h : Wd H a w) : Dp K H (.ref a) (.list (w.map PyData.int)) := by
  refine .lst (SqL.of h) ?_
  clear h
  induction w with
  | nil => exact .nil
  | cons k r ih => exact .cons (.int k) ih
theorem eqv_words (v w : List Int) : PyData.eqv (.list (v.map PyData.int)) (.list (w.map PyData.int)) = decide (v = w) := by
  rw [← PySem.W.ked_eqvAll]
  simp [PyData.eqv]
end
structure REqW (x y : V) (H : Hp) (Q : VK) : Prop where
  ex : ∃ (a b : Addr) (v w : List Int), x = .ref a ∧ y = .ref b ∧ Wd H a v ∧ Wd H b w ∧ Q (.bl (decide (v = w))) H
structure RNeW (x y : V) (H : Hp) (Q : VK) : Prop where
  ex : ∃ (a b : Addr) (v w : List Int), x = .ref a ∧ y = .ref b ∧ Wd H a v ∧ Wd H b w ∧ Q (.bl (!decide (v = w))) H
theorem op_eqW {X : Cx} (hu : X.A.units + 64 < cLine) : OpR X (compareOp .Eq) REqW := by
  intro pins st σ H x y v u Q I rx ry h
  obtain ⟨a, b, p, q, e1, e2, h1, h2, k⟩ := h.ex
  subst e1 e2
  refine op_eqD hu pins st σ H _ _ v u Q I rx ry ⟨_, _, dp_word h1, dp_word h2, PySem.W.ke_shaped_ints _, PySem.W.ke_shaped_ints _, ?_⟩
  rw [eqv_words]
  exact k
theorem op_neW {X : Cx} (hu : X.A.units + 64 < cLine) : OpR X (compareOp .NotEq) RNeW := by
  intro pins st σ H x y v u Q I rx ry h
  obtain ⟨a, b, p, q, e1, e2, h1, h2, k⟩ := h.ex
  subst e1 e2
  refine op_neD hu pins st σ H _ _ v u Q I rx ry ⟨_, _, dp_word h1, dp_word h2, PySem.W.ke_shaped_ints _, PySem.W.ke_shaped_ints _, ?_⟩
  rw [eqv_words]
  exact k
theorem rd_eqW {H : Hp} {a b : Addr} {v w : List Int} {Q : VK} (h1 : Wd H a v) (h2 : Wd H b w) (q : Q (.bl (decide (v = w))) H) : REqW (.ref a) (.ref b) H Q := ⟨a, b, v, w, rfl, rfl, h1, h2, q⟩
theorem rd_neW {H : Hp} {a b : Addr} {v w : List Int} {Q : VK} (h1 : Wd H a v) (h2 : Wd H b w) (q : Q (.bl (!decide (v = w))) H) : RNeW (.ref a) (.ref b) H Q := ⟨a, b, v, w, rfl, rfl, h1, h2, q⟩
/-- an exchange as it is handed on -/
def mvV : Mv → List V
  | .inn p k => [.str "in", .int p, .int k]
  | .at kd p => [.str (Kd.str kd), .int p]
/-- what move_at hands back, against an exchange -/
structure REqM (x y : V) (H : Hp) (Q : VK) : Prop where
  ex : ∃ (m : Addr) (s : Str) (p : Int), y = .ref m ∧ H m = some (.tup [.str s, .int p]) ∧ PyData.strOk s = true ∧ ((x = .non ∧ Q (.bl false) H) ∨ ∃ (t : Addr) (r : Str) (q : Int), x = .ref t ∧ H t = some (.tup [.str r, .int q]) ∧ PyData.strOk r = true ∧ Q (.bl (decide (r = s) && decide (q = p))) H)
theorem op_eqM {X : Cx} (hu : X.A.units + 64 < cLine) : OpR X (compareOp .Eq) REqM := by
  intro pins st σ H x y v u Q I rx ry h
  obtain ⟨m, s, p, e, hm, os, ⟨e1, k⟩ | ⟨t, r, q, e1, ht, or, k⟩⟩ := h.ex
  · subst e e1
    refine op_eqD hu pins st σ H _ _ v u Q I rx ry ⟨_, _, .non, .tup (SqT.of hm) (.cons (.str s) (.cons (.int p) .nil)), by rfl, by simp [SeqAt.shaped, PyData.canLay0, PyData.canLayAll0, PyData.depth, PyData.depthAll, os], ?_⟩
    have e2 : PyData.eqv .none (.tuple [.str s, .int p]) = false := by simp [PyData.eqv]
    rw [e2]
    exact k
  · subst e e1
    refine op_eqD hu pins st σ H _ _ v u Q I rx ry ⟨_, _, .tup (SqT.of ht) (.cons (.str r) (.cons (.int q) .nil)), .tup (SqT.of hm) (.cons (.str s) (.cons (.int p) .nil)), by simp [SeqAt.shaped, PyData.canLay0, PyData.canLayAll0, PyData.depth, PyData.depthAll, or],
      by simp [SeqAt.shaped, PyData.canLay0, PyData.canLayAll0, PyData.depth, PyData.depthAll, os], ?_⟩
    have e2 : PyData.eqv (.tuple [.str r, .int q]) (.tuple [.str s, .int p]) = (decide (r = s) && decide (q = p)) := by simp [PyData.eqv, PyData.eqvAll, Bool.beq_eq_decide_eq]
    rw [e2]
    exact k
theorem kd_ok (kd : Kd) : PyData.strOk (Kd.str kd) = true := by cases kd <;> decide +kernel
theorem kd_in (kd : Kd) : ¬ Kd.str kd = "in" := by cases kd <;> decide +kernel
theorem mv_p (mv : Mv) : (mvV mv)[1]? = some (.int mv.p) := by cases mv <;> rfl
theorem canMv_out {n : Int} {w : List Int} {mv : Mv} (h : inside w mv.p = false) : canMv n w mv = false := by
  cases mv with
  | inn p k =>
    show (inside w p && _) = false
    rw [show inside w p = false from h]
    rfl
  | «at» kd p =>
    show (inside w p && _) = false
    rw [show inside w p = false from h]
    rfl
section
variable {P : Program} {w : World} {K : PySem.W.Frag} {mg : Str → Option Value} {base : Heap} {CM : Addr}
/-! ### can_move(n, word, move) -/
def spCanMove : Sp := fun vs H Q _ => ∃ (n : Int) (a m : Addr) (wd : List Int) (mv : Mv), vs = [.int n, .ref a, .ref m] ∧ Wd H a wd ∧ H m = some (.tup (mvV mv)) ∧ (∀ k ∈ wd, ab k < 8) ∧
  ∀ H', Same H H' → Q (.bl (canMv n wd mv)) H'
theorem scCanMove : FnScope ["n", "word", "move", "p"] ["n", "word", "move"] (defScope sCanMove) := ⟨rfl, rfl, rfl, by decide +kernel, rfl, by decide +kernel, by decide +kernel⟩
theorem cal_canMove (D : At K mg "can_move" sCanMove) (B : Blt mg) (DM : At K mg "move_at" sMoveAt) : Cal P w K mg base CX0 2 "can_move" ["n", "word", "move"] spCanMove := by
  obtain ⟨f, fd, F, g⟩ := D
  obtain ⟨fM, fdM, GM, gM, kpM, bM⟩ := cal_moveAt (P := P) (w := w) (base := base) DM B
  refine ⟨f, fd, F.ok scCanMove (fun vs H Q E h => ?_) (fun cdv A outer s H vs Q E hr h => ?_), g, F.kp, F.binds (ps := ["n", "word", "move"]) fun _ _ _ _ _ _ us hl => match us, hl with | [_, _, _], _ => rfl⟩
  · obtain ⟨_, _, _, _, _, rfl, _⟩ := h
    rfl
  · obtain ⟨n, a, m, wd, mv, rfl, hw, hm, hb, kQ⟩ := h
    have nd := scCanMove.nd
    refine ⟨_, pss_cons (ps_set (i := 3) nd rfl (Or.inl rfl) (pe_ix ix_tupI (pv 2) pe_int (fun _ _ => rfl)))
      (pss_cons (ps_if (PW.pt (pw_or (pt_cmpR op_lt (pv 3) pe_int (nomark _)) (pw_or1 (pt_cmpR op_gt (pv 3) (pe_callB call_lenI (by rfl) B.len boot_len (pa_cons (pv 1) pa_nil)) (nomark _))))) (pss_one (ps_ret pe_bl)) pss_nil)
      (pss_cons (ps_if (pt_cmpR op_eq (pe_ix ix_tupI (pv 2) pe_int (fun _ _ => rfl)) pe_str (nomark _))
        (pss_one (ps_ret (pe_chain op_lt op_lt pe_int (pe_callB call_absI (by rfl) B.abs boot_abs (pa_cons (pe_ix ix_tupI (pv 2) pe_int (fun _ _ => rfl)) pa_nil)) (pv 0)))) pss_nil)
      (pss_one (ps_ret (pe_cmpR (op_eqM hr.units) (pe_call GM hr rfl gM kpM bM .nil pass0 (pa_cons (pv 1) (pa_cons (pv 3) pa_nil))) (pv 2) (nomark _)))))), ?_⟩
    refine ⟨_, rfl, rd_tup (j := 1) hm rfl (mv_p mv) ?_⟩
    refine ⟨_, rfl, _, _, rfl, rfl, _, rfl, ?_⟩
    have no : inside wd mv.p = false → Q (.bl false) H := fun e => by
      have q := kQ H (Same.refl H)
      rw [canMv_out e] at q
      exact q
    refine iteB (fun c => iteT (no ?_)) (fun c => ?_)
    · have c' := of_decide_eq_true c
      unfold inside
      rw [decide_eq_false (p := 0 ≤ mv.p) (by omega)]
      rfl
    have p0 : 0 ≤ mv.p := by
      have c' := of_decide_eq_false c
      omega
    refine ⟨_, rfl, _, rfl, rd_len hw ⟨_, _, rfl, rfl, _, rfl, ?_⟩⟩
    refine iteB (fun c => no ?_) (fun c => ?_)
    · have c' := of_decide_eq_true c
      unfold inside
      rw [decide_eq_false (p := mv.p ≤ (wd.length : Int)) (by omega), Bool.and_false]
    have p1 : mv.p ≤ (wd.length : Int) := by
      have c' := of_decide_eq_false c
      omega
    have ins : inside wd mv.p = true := inside_iff.mpr ⟨p0, p1⟩
    cases mv with
    | inn p k =>
      refine ⟨_, rfl, rd_tup (j := 0) (v := .str "in") hm rfl rfl ⟨rfl, _, rfl, if_t (decide_eq_true rfl) ?_⟩⟩
      have fin : ∀ b, (decide (0 < ab k) && decide (ab k < n)) = b → Q (.bl b) H := fun b e => by
        have q := kQ H (Same.refl H)
        rw [show canMv n wd (.inn p k) = (inside wd p && (decide (0 < ab k) && decide (ab k < n))) from rfl, show inside wd p = true from ins, e] at q
        exact q
      refine ⟨_, rfl, rd_tup (j := 2) (v := .int k) hm rfl rfl (rd_abs ⟨_, _, rfl, rfl, _, rfl, ?_⟩)⟩
      refine iteB (fun c => ⟨_, rfl, _, _, rfl, rfl, fin _ ?_⟩) (fun c => fin _ ?_)
      · rw [c]
        rfl
      · rw [c]
        rfl
    | «at» kd p =>
      refine ⟨_, rfl, rd_tup (j := 0) (v := .str (Kd.str kd)) hm rfl rfl ⟨rfl, _, rfl, if_f (decide_eq_false fun z => kd_in kd (V.str.inj z)) ?_⟩⟩
      refine ⟨_, rfl, _, rfl, a, wd, p, rfl, hw, p0, hb, fun H' s' e => ?_, fun H' t kd' s' ht e => ?_⟩
      · refine ⟨_, rfl, m, _, p, rfl, s' _ _ hm, kd_ok kd, .inl ⟨rfl, ?_⟩⟩
        have q := kQ H' s'
        rw [show canMv n wd (.at kd p) = (inside wd p && decide (moveAt wd p = some kd)) from rfl, show inside wd p = true from ins, e] at q
        exact q
      · refine ⟨_, rfl, m, _, p, rfl, s' _ _ hm, kd_ok kd, .inr ⟨t, _, p, rfl, ht, kd_ok kd', ?_⟩⟩
        have q := kQ H' s'
        rw [show canMv n wd (.at kd p) = (inside wd p && decide (moveAt wd p = some kd)) from rfl, show inside wd p = true from ins, e] at q
        have e2 : (decide (Kd.str kd' = Kd.str kd) && decide (p = p)) = (true && decide (some kd' = some kd)) := by
          rw [decide_eq_true (rfl : p = p), Bool.and_true, Bool.true_and]
          exact dec_of ⟨fun z => by rw [Kd.str_inj z], fun z => by rw [Option.some.inj z]⟩
        rw [e2]
        exact q
end
end K82
namespace K82
open PySem PySem.Spec PyProof.Rows L2
/-! ### the words behind an exchange: three joins as they are read -/
theorem sl0 {p : Int} {k : Nat} (h : 0 ≤ p) : (p + (k : Int)).toNat = p.toNat + k := by omega
theorem getD_at {w : List Int} {i : Nat} (h : i < w.length) : w[i]? = some (w.getD i 0) := by
  rw [List.getD_eq_getElem?_getD, List.getElem?_eq_getElem h]
  rfl
/-- the end of a join: a + b + c -/
theorem rd_three {H H3 : Hp} {a b : Addr} {v u : List Int} {Q : VK} (h1 : Wd H3 a v) (h2 : Wd H3 b u) (hz : v.length + u.length ≤ 1000) (s : Same H H3)
    (q : ∀ H' r, Same H H' → H r = none → Wd H' r (v ++ u) → Q (.ref r) H') : RCat (.ref a) (.ref b) H3 Q :=
  rd_cat h1 h2 hz fun r hr => q _ r (s.trans (Same.new hr)) (s.free hr) wd_new
section
variable {P : Program} {w : World} {K : PySem.W.Frag} {mg : Str → Option Value} {base : Heap} {CM : Addr}
/-! ### moved(n, word, move) -/
def spMoved (CM : Addr) : Sp := fun vs H Q E => ∃ (n : Int) (a m : Addr) (wd : List Int) (mv : Mv), vs = [.int n, .ref a, .ref m] ∧ Wd H a wd ∧ H m = some (.tup (mvV mv)) ∧ (∀ k ∈ wd, ab k < 8) ∧ wd.length ≤ 100 ∧
  (canMv n wd mv = true → ∀ H' r, Same H H' → H r = none → Wd H' r (doneMv wd mv) → Q (.ref r) H') ∧ (canMv n wd mv = false → ∀ H', Same H H' → E (.ref CM) none H')
theorem scMoved : FnScope ["n", "word", "move", "p"] ["n", "word", "move"] (defScope sMoved) := ⟨rfl, rfl, rfl, by decide +kernel, rfl, by decide +kernel, by decide +kernel⟩
theorem cal_moved (D : At K mg "moved" sMoved) (EM : ErrC K mg "NoMove" CM) (B : Blt mg) (DC : At K mg "can_move" sCanMove) (DM : At K mg "move_at" sMoveAt) : Cal P w K mg base (L2.CX P w) 3 "moved" ["n", "word", "move"] (spMoved CM) := by
  obtain ⟨f, fd, F, g⟩ := D
  obtain ⟨fC, fdC, GC, gC, kpC, bC⟩ := cal_canMove (P := P) (w := w) (base := base) DC B DM
  refine ⟨f, fd, F.okX scMoved (fun vs H Q E h => ?_) (fun cdv A outer s H vs Q E hr h => ?_), g, F.kp, F.binds (ps := ["n", "word", "move"]) fun _ _ _ _ _ _ us hl => match us, hl with | [_, _, _], _ => rfl⟩
  · obtain ⟨_, _, _, _, _, rfl, _⟩ := h
    rfl
  · obtain ⟨n, a, m, wd, mv, rfl, hw, hm, hb, hz, kY, kN⟩ := h
    have nd := scMoved.nd
    refine ⟨_, pss_cons (ps_if (pt_not (pt_val (pe_call GC hr rfl gC kpC bC .nil pass0 (pa_cons (pv 0) (pa_cons (pv 1) (pa_cons (pv 2) pa_nil)))))) (pss_one (ps_raise rfl (takes_of rfl rfl rfl rfl) (pmk_own PySem.F.excBase_ValueError EM.xc EM.g EM.keep (raises_own EM.sb EM.ty) rfl))) pss_nil)
      (pss_cons (ps_set (i := 3) nd rfl (Or.inl rfl) (pe_ix ix_tupI (pv 2) pe_int (fun _ _ => rfl)))
      (pss_cons (ps_if (pt_cmpR op_eq (pe_ix ix_tupI (pv 2) pe_int (fun _ _ => rfl)) pe_str (nomark _)) (pss_one (ps_ret (pe_op op_catI (pe_op op_catI (pe_slice sl_int (pv 1) po_none (po_some (pv 3))) (pe_lst (pa_cons (pe_ix ix_tupI (pv 2) pe_int (fun _ _ => rfl)) (pa_cons (pe_un un_neg (pe_ix ix_tupI (pv 2) pe_int (fun _ _ => rfl))) pa_nil)))) (pe_slice sl_int (pv 1) (po_some (pv 3)) po_none)))) pss_nil)
      (pss_cons (ps_if (pt_cmpR op_eq (pe_ix ix_tupI (pv 2) pe_int (fun _ _ => rfl)) pe_str (nomark _)) (pss_one (ps_ret (pe_op op_catI (pe_slice sl_int (pv 1) po_none (po_some (pv 3))) (pe_slice sl_int (pv 1) (po_some (pe_op op_add (pv 3) pe_int)) po_none)))) pss_nil)
      (pss_cons (ps_if (pt_cmpR op_eq (pe_ix ix_tupI (pv 2) pe_int (fun _ _ => rfl)) pe_str (nomark _)) (pss_one (ps_ret (pe_op op_catI (pe_op op_catI (pe_slice sl_int (pv 1) po_none (po_some (pv 3))) (pe_lst (pa_cons (pe_ix ix_int (pv 1) (pe_op op_add (pv 3) pe_int) (fun _ _ => rfl)) (pa_cons (pe_ix ix_int (pv 1) (pv 3) (fun _ _ => rfl)) pa_nil)))) (pe_slice sl_int (pv 1) (po_some (pe_op op_add (pv 3) pe_int)) po_none)))) pss_nil)
      (pss_one (ps_ret (pe_op op_catI (pe_op op_catI (pe_slice sl_int (pv 1) po_none (po_some (pv 3))) (pe_lst (pa_cons (pe_ix ix_int (pv 1) (pe_op op_add (pv 3) pe_int) (fun _ _ => rfl)) (pa_cons (pe_ix ix_int (pv 1) (pv 3) (fun _ _ => rfl)) (pa_cons (pe_ix ix_int (pv 1) (pe_op op_add (pv 3) pe_int) (fun _ _ => rfl)) pa_nil))))) (pe_slice sl_int (pv 1) (po_some (pe_op op_add (pv 3) pe_int)) po_none)))))))), ?_⟩
    refine ⟨_, rfl, _, rfl, _, rfl, n, a, m, wd, mv, rfl, hw, hm, hb, fun H1 s1 => ⟨_, rfl, ?_⟩⟩
    replace hw := Same.wd s1 hw
    replace hm := s1 _ _ hm
    refine iteB (fun c => kN (by rw [← Bool.not_eq_true']; exact c) _ s1) (fun c => ?_)
    have can : canMv n wd mv = true := by
      rw [Bool.not_eq_false'] at c
      exact c
    replace kY := kY can
    refine ⟨_, rfl, rd_tup (j := 1) hm rfl (mv_p mv) ?_⟩
    have p0 : 0 ≤ mv.p ∧ mv.p ≤ (wd.length : Int) := by
      cases mv with
      | inn p k => exact inside_iff.mp (Bool.and_eq_true_iff.mp can).1
      | «at» kd p => exact inside_iff.mp (Bool.and_eq_true_iff.mp can).1
    cases mv with
    | inn p k =>
      have h0 : 0 ≤ p := p0.1
      refine ⟨_, rfl, rd_tup (j := 0) (v := .str "in") hm rfl rfl ⟨rfl, _, rfl, if_t (decide_eq_true rfl) ?_⟩⟩
      refine ⟨_, rfl, _, rfl, _, rfl, rd_sl hw (cut_to h0) fun l1 n1 => ?_⟩
      have s2 := s1.trans (Same.new n1 (o := .lst ((wd.take p.toNat).map V.int)))
      have hm2 := up_same hm n1 (o := .lst ((wd.take p.toNat).map V.int))
      refine ⟨_, rfl, rd_tup (j := 2) (v := .int k) hm2 rfl rfl ⟨_, rfl, rd_tup (j := 2) (v := .int k) hm2 rfl rfl ⟨_, rfl, by show 2 ≤ sizeLine; decide, fun l2 n2 => ?_⟩⟩⟩
      have s3 := s2.trans (Same.new n2 (o := .lst [.int k, .int (-k)]))
      have w2 : Wd _ l2 [k, -k] := upd_same (H := upd H1 l1 (.lst ((wd.take p.toNat).map V.int))) (a := l2) (o := .lst [.int k, .int (-k)])
      have w1 : Wd (upd (upd H1 l1 (.lst ((wd.take p.toNat).map V.int))) l2 (.lst [.int k, .int (-k)])) l1 (wd.take p.toNat) := Wd.up wd_new n2
      refine rd_cat w1 w2 (by simp only [List.length_take, List.length_cons, List.length_nil]; omega) fun l3 n3 => ?_
      have hw3 := ((hw.up n1).up n2).up n3 (o := .lst ((wd.take p.toNat ++ [k, -k]).map V.int))
      refine ⟨_, rfl, _, rfl, _, rfl, rd_sl hw3 (cut_from h0) fun l4 n4 => ?_⟩
      exact rd_three (H := H) (Wd.up wd_new n4) wd_new (by simp only [List.length_append, List.length_take, List.length_drop, List.length_cons, List.length_nil]; omega) ((s3.trans (Same.new n3)).trans (Same.new n4)) kY
    | «at» kd p =>
      have h0 : 0 ≤ p := p0.1
      obtain ⟨z2, z3⟩ := hereOf_len (of_decide_eq_true (Bool.and_eq_true_iff.mp can).2)
      have i0 := getD_at (w := wd) (i := p.toNat) (by omega)
      have i1 := getD_at (w := wd) (i := p.toNat + 1) (by omega)
      have e0 : p = ((p.toNat : Nat) : Int) := by omega
      have e1 : p + 1 = ((p.toNat + 1 : Nat) : Int) := by omega
      have c2 : cutI wd (some (p + 2)) none = wd.drop (p.toNat + 2) := by
        rw [cut_from (by omega)]
        congr 1
        omega
      have c3 : cutI wd (some (p + 3)) none = wd.drop (p.toNat + 3) := by
        rw [cut_from (by omega)]
        congr 1
        omega
      refine ⟨_, rfl, rd_tup (j := 0) (v := .str (Kd.str kd)) hm rfl rfl ⟨rfl, _, rfl, if_f (decide_eq_false fun z => kd_in kd (V.str.inj z)) ?_⟩⟩
      refine ⟨_, rfl, rd_tup (j := 0) (v := .str (Kd.str kd)) hm rfl rfl ⟨rfl, _, rfl, ?_⟩⟩
      cases kd with
      | out =>
        refine if_t (decide_eq_true rfl) ?_
        refine ⟨_, rfl, _, rfl, _, rfl, rd_sl hw (cut_to h0) fun l1 n1 => ?_⟩
        refine ⟨_, rfl, _, rfl, _, _, rfl, rfl, _, rfl, rd_sl (hw.up n1) c2 fun l4 n4 => ?_⟩
        exact rd_three (H := H) (Wd.up wd_new n4) wd_new (by simp only [List.length_take, List.length_drop]; omega) ((s1.trans (Same.new n1)).trans (Same.new n4)) kY
      | far =>
        refine if_f (decide_eq_false (by decide +kernel)) ?_
        refine ⟨_, rfl, rd_tup (j := 0) (v := .str (Kd.str .far)) hm rfl rfl ⟨rfl, _, rfl, if_t (decide_eq_true rfl) ?_⟩⟩
        refine ⟨_, rfl, _, rfl, _, rfl, rd_sl hw (cut_to h0) fun l1 n1 => ?_⟩
        have hw1 := hw.up n1 (o := .lst ((wd.take p.toNat).map V.int))
        refine ⟨_, rfl, _, rfl, _, _, rfl, rfl, rd_at hw1 e1 i1 ⟨_, rfl, _, rfl, rd_at hw1 e0 i0 ⟨by show 2 ≤ sizeLine; decide, fun l2 n2 => ?_⟩⟩⟩
        have w2 : Wd _ l2 [wd.getD (p.toNat + 1) 0, wd.getD p.toNat 0] := upd_same (H := upd H1 l1 (.lst ((wd.take p.toNat).map V.int))) (a := l2) (o := .lst [.int (wd.getD (p.toNat + 1) 0), .int (wd.getD p.toNat 0)])
        refine rd_cat (Wd.up wd_new n2) w2 (by simp only [List.length_take, List.length_cons, List.length_nil]; omega) fun l3 n3 => ?_
        refine ⟨_, rfl, _, rfl, _, _, rfl, rfl, _, rfl, rd_sl ((hw1.up n2).up n3) c2 fun l4 n4 => ?_⟩
        exact rd_three (H := H) (Wd.up wd_new n4) wd_new (by simp only [List.length_append, List.length_take, List.length_drop, List.length_cons, List.length_nil]; omega) ((((s1.trans (Same.new n1)).trans (Same.new n2)).trans (Same.new n3)).trans (Same.new n4)) kY
      | near =>
        refine if_f (decide_eq_false (by decide +kernel)) ?_
        refine ⟨_, rfl, rd_tup (j := 0) (v := .str (Kd.str .near)) hm rfl rfl ⟨rfl, _, rfl, if_f (decide_eq_false (by decide +kernel)) ?_⟩⟩
        refine ⟨_, rfl, _, rfl, _, rfl, rd_sl hw (cut_to h0) fun l1 n1 => ?_⟩
        have hw1 := hw.up n1 (o := .lst ((wd.take p.toNat).map V.int))
        refine ⟨_, rfl, _, rfl, _, _, rfl, rfl, rd_at hw1 e1 i1 ⟨_, rfl, _, rfl, rd_at hw1 e0 i0 ⟨_, rfl, _, rfl, _, _, rfl, rfl, rd_at hw1 e1 i1 ⟨by show 3 ≤ sizeLine; decide, fun l2 n2 => ?_⟩⟩⟩⟩
        have w2 : Wd _ l2 [wd.getD (p.toNat + 1) 0, wd.getD p.toNat 0, wd.getD (p.toNat + 1) 0] := upd_same (H := upd H1 l1 (.lst ((wd.take p.toNat).map V.int))) (a := l2) (o := .lst [.int (wd.getD (p.toNat + 1) 0), .int (wd.getD p.toNat 0), .int (wd.getD (p.toNat + 1) 0)])
        refine rd_cat (Wd.up wd_new n2) w2 (by simp only [List.length_take, List.length_cons, List.length_nil]; omega) fun l3 n3 => ?_
        refine ⟨_, rfl, _, rfl, _, _, rfl, rfl, _, rfl, rd_sl ((hw1.up n2).up n3) c3 fun l4 n4 => ?_⟩
        have z4 := z3 rfl
        exact rd_three (H := H) (Wd.up wd_new n4) wd_new (by simp only [List.length_append, List.length_take, List.length_drop, List.length_cons, List.length_nil]; omega) ((((s1.trans (Same.new n1)).trans (Same.new n2)).trans (Same.new n3)).trans (Same.new n4)) kY
end
end K82
namespace K82
open PySem PySem.Spec PyProof.Rows L2
/-! ### the loom in the heap -/
def lf (n : Int) (h l : Addr) : List (Str × V) := [("strings", .int n), ("hung", .ref h), ("past", .ref l)]
theorem lk_here {k : Str} {v : V} {r : List (Str × V)} : List.lookup k ((k, v) :: r) = some v := by
  have e : (k == k) = true := beq_self_eq_true k
  simp only [List.lookup, e]
theorem lk_past {k g : Str} {v : V} {r : List (Str × V)} (h : (k == g) = false) : List.lookup k ((g, v) :: r) = List.lookup k r := by
  simp only [List.lookup, h]
theorem put_here {f : Str} {v x : V} {r : List (Str × V)} : putF f v ((f, x) :: r) = (f, v) :: r := if_pos rfl
theorem put_past {f g : Str} {v x : V} {r : List (Str × V)} (h : ¬ g = f) : putF f v ((g, x) :: r) = (g, x) :: putF f v r := if_neg h
theorem lf_strings (n : Int) (h l : Addr) : (lf n h l).lookup ("strings" : Str) = some (.int n) := lk_here
theorem lf_hung (n : Int) (h l : Addr) : (lf n h l).lookup ("hung" : Str) = some (.ref h) := (lk_past (by decide +kernel)).trans lk_here
theorem lf_past (n : Int) (h l : Addr) : (lf n h l).lookup ("past" : Str) = some (.ref l) := (lk_past (by decide +kernel)).trans ((lk_past (by decide +kernel)).trans lk_here)
theorem lf_no (n : Int) (h l : Addr) {m : Str} (h1 : (m == ("strings" : Str)) = false) (h2 : (m == ("hung" : Str)) = false) (h3 : (m == ("past" : Str)) = false) : (lf n h l).lookup m = none :=
  (lk_past h1).trans ((lk_past h2).trans ((lk_past h3).trans rfl))
theorem put_hung (n : Int) (h g l : Addr) : putF "hung" (.ref g) (lf n h l) = lf n g l := (put_past (by decide +kernel)).trans (congrArg _ put_here)
theorem put_new (n : Int) (h l : Addr) : putF "past" (.ref l) (putF "hung" (.ref h) (putF "strings" (.int n) [])) = lf n h l := by
  have e1 : putF "strings" (.int n) [] = [(("strings" : Str), V.int n)] := rfl
  have e2 : putF "hung" (.ref h) [(("strings" : Str), V.int n)] = [(("strings" : Str), V.int n), (("hung" : Str), V.ref h)] := (put_past (by decide +kernel)).trans rfl
  rw [e1, e2]
  exact (put_past (by decide +kernel)).trans (congrArg _ ((put_past (by decide +kernel)).trans rfl))
theorem Wd.off {H : Hp} {a p : Addr} {w : List Int} {o : HO} (h : Wd H a w) (n : a ≠ p) : Wd (upd H p o) a w := (upd_ne n).trans h
/-- words lie at places -/
abbrev Wds (H : Hp) (rs : List Addr) (ws : List (List Int)) : Prop := Paired (fun r w => Wd H r w) rs ws
theorem Wds.mono {H H' : Hp} : ∀ {rs : List Addr} {ws : List (List Int)}, Wds H rs ws → (∀ r ∈ rs, ∀ o, H r = some o → H' r = some o) → Wds H' rs ws
  | _, _, .nil, _ => .nil
  | _, _, .cons h t, k => .cons (k _ List.mem_cons_self _ h) (Wds.mono t fun r hr => k r (List.mem_cons_of_mem _ hr))
theorem Wds.snoc {H : Hp} {r : Addr} {w : List Int} : ∀ {rs : List Addr} {ws : List (List Int)}, Wds H rs ws → Wd H r w → Wds H (rs ++ [r]) (ws ++ [w])
  | _, _, .nil, hr => .cons hr .nil
  | _, _, .cons g t, h => .cons g (Wds.snoc t h)
theorem Wds.last {H : Hp} {w : List Int} : ∀ {rs : List Addr} {ws : List (List Int)}, Wds H rs (ws ++ [w]) → ∃ rs0 r, rs = rs0 ++ [r] ∧ Wds H rs0 ws ∧ Wd H r w
  | _, [], h => by
    cases h with
    | cons g t =>
      cases t
      exact ⟨[], _, rfl, .nil, g⟩
  | _, v :: ws, h => by
    cases h with
    | cons g t =>
      obtain ⟨rs0, r, e, h1, h2⟩ := Wds.last (ws := ws) t
      subst e
      exact ⟨_ :: rs0, r, rfl, .cons g h1, h2⟩
/-- the loom at x: n strings, w hangs there, ws was there ahead of each deed; its list of what was lies at l -/
structure LoomAt (C x dx l : Addr) (n : Int) (ws : List (List Int)) (w : List Int) (H : Hp) : Prop where
  ex : ∃ (h : Addr) (rs : List Addr), H x = some (.ins C dx (lf n h l)) ∧ H l = some (.lst (rs.map V.ref)) ∧ Wd H h w ∧ Wds H rs ws ∧ h ≠ l ∧ ∀ r ∈ rs, r ≠ l
theorem LoomAt.same {C x dx l : Addr} {n : Int} {ws : List (List Int)} {w : List Int} {H H' : Hp} (L : LoomAt C x dx l n ws w H) (s : Same H H') : LoomAt C x dx l n ws w H' := by
  obtain ⟨h, rs, h1, h2, h3, h4, h5, h6⟩ := L.ex
  exact ⟨h, rs, s _ _ h1, s _ _ h2, s _ _ h3, h4.mono fun r _ o e => s r o e, h5, h6⟩
theorem LoomAt.ne {C x dx l : Addr} {n : Int} {ws : List (List Int)} {w : List Int} {H : Hp} (L : LoomAt C x dx l n ws w H) : x ≠ l := by
  obtain ⟨h, rs, h1, h2, _⟩ := L.ex
  exact ne_of h1 h2 (by intro q; cases q)
theorem wd_ne {H : Hp} {a x C dx : Addr} {w : List Int} {fs : List (Str × V)} (h : Wd H a w) (g : H x = some (.ins C dx fs)) : a ≠ x := ne_of h g (by intro q; cases q)
/-! ### self.past == [] -/
theorem dp_words {K : PySem.W.Frag} {H : Hp} {l : Addr} {rs : List Addr} {ws : List (List Int)} (hl : H l = some (.lst (rs.map V.ref))) (h : Wds H rs ws) : Dp K H (.ref l) (.list (ws.map fun w => .list (w.map PyData.int))) := by
  refine .lst (SqL.of hl) ?_
  clear hl
  induction h with
  | nil => exact .nil
  | cons g t ih => exact .cons (dp_word g) ih
theorem lay_words : ∀ ws : List (List Int), PyData.canLayAll0 (ws.map fun w => PyData.list (w.map PyData.int)) = true ∧ PyData.depthAll (ws.map fun w => PyData.list (w.map PyData.int)) ≤ 1
  | [] => by simp [PyData.canLayAll0, PyData.depthAll]
  | w :: ws => by
    obtain ⟨h1, h2⟩ := lay_words ws
    simp [PyData.canLayAll0, PyData.depthAll, PyData.canLay0, PyData.depth, PySem.W.ke_canLayAll0, PySem.W.ke_depthAll, h1, h2]
theorem shaped_words (ws : List (List Int)) : SeqAt.shaped (.list (ws.map fun w => .list (w.map PyData.int))) = true := by
  obtain ⟨h1, h2⟩ := lay_words ws
  unfold SeqAt.shaped
  rw [Bool.and_eq_true, decide_eq_true_iff]
  refine ⟨by simpa [PyData.canLay0] using h1, ?_⟩
  have e : (PyData.list (ws.map fun w => .list (w.map PyData.int))).depth = PyData.depthAll (ws.map fun w => PyData.list (w.map PyData.int)) + 1 := by simp [PyData.depth]
  omega
structure REqP (x y : V) (H : Hp) (Q : VK) : Prop where
  ex : ∃ (l e : Addr) (rs : List Addr) (ws : List (List Int)), x = .ref l ∧ y = .ref e ∧ H l = some (.lst (rs.map V.ref)) ∧ Wds H rs ws ∧ Wd H e [] ∧ Q (.bl (decide (ws = []))) H
theorem op_eqP {X : Cx} (hu : X.A.units + 64 < cLine) : OpR X (compareOp .Eq) REqP := by
  intro pins st σ H x y v u Q I rx ry h
  obtain ⟨l, e, rs, ws, e1, e2, hl, hw, he, k⟩ := h.ex
  subst e1 e2
  refine op_eqD hu pins st σ H _ _ v u Q I rx ry ⟨_, _, dp_words hl hw, dp_word he, shaped_words ws, PySem.W.ke_shaped_ints _, ?_⟩
  have e3 : PyData.eqv (.list (ws.map fun w => .list (w.map PyData.int))) (.list (([] : List Int).map PyData.int)) = decide (ws = []) := by
    cases ws with
    | nil => simp [PyData.eqv, PyData.eqvAll]
    | cons w ws => simp [PyData.eqv, PyData.eqvAll]
  rw [e3]
  exact k
theorem rd_eqP {H : Hp} {l e : Addr} {rs : List Addr} {ws : List (List Int)} {Q : VK} (hl : H l = some (.lst (rs.map V.ref))) (hw : Wds H rs ws) (he : Wd H e []) (q : Q (.bl (decide (ws = []))) H) : REqP (.ref l) (.ref e) H Q := ⟨l, e, rs, ws, rfl, rfl, hl, hw, he, q⟩
end K82
namespace K82
open PySem PySem.Spec PyProof.Rows L2
section
variable {P : Program} {w : World} {K : PySem.W.Frag} {mg : Str → Option Value} {base : Heap} {C CW CM : Addr}
/-! ### __init__ -/
def spInit (C CW : Addr) : Sp := fun vs H Q E => ∃ (x dx : Addr) (n : Int), vs = [.ref x, .int n] ∧ H x = some (.ins C dx []) ∧
  (1 ≤ n ∧ n ≤ 7 → ∀ H' l, H l = none → (∀ b o, H b = some o → b ≠ x → H' b = some o) → LoomAt C x dx l n [] [] H' → Q .non H') ∧ (¬ (1 ≤ n ∧ n ≤ 7) → ∀ H', Same H H' → E (.ref CW) none H')
theorem scInit : FnScope ["self", "n"] ["self", "n"] (defScope sInit) := ⟨rfl, rfl, rfl, by decide +kernel, rfl, by decide +kernel, by decide +kernel⟩
theorem good_nil {n : Int} : good n [] = true ↔ 1 ≤ n ∧ n ≤ 7 := by
  unfold good
  rw [show okW n [] = true from rfl, Bool.and_true, Bool.and_eq_true, decide_eq_true_iff, decide_eq_true_iff]
theorem calM_init {f : Addr} {fd : FuncData} (F : Fun K "__init__" "Loom.__init__" sInit f fd) (L : LoomC K mg C) (CC : Cal P w K mg base (L2.CX P w) 1 "checked" ["n", "word"] (spChecked CW)) : FnOk P w K mg base (L2.CX P w) 2 f fd ["self", "n"] (spInit C CW) := by
  obtain ⟨fC, fdC, GC, gC, kpC, bC⟩ := CC
  refine F.okX scInit (fun vs H Q E h => ?_) (fun cdv A outer s H vs Q E hr h => ?_)
  · obtain ⟨_, _, _, rfl, _⟩ := h
    rfl
  · obtain ⟨x, dx, n, rfl, hx, kY, kN⟩ := h
    refine ⟨_, pss_cons (ps_expr (pe_call GC hr rfl gC kpC bC .nil (passes_call (takes_of rfl rfl rfl rfl) fun _ _ _ _ z => z) (pa_cons (pv 1) (pa_cons (pe_lst pa_nil) pa_nil))))
      (pss_cons (ps_fld (pv 0) (pv 1) rfl) (pss_cons (ps_fld (pv 0) (pe_lst pa_nil) rfl) (pss_one (ps_fld (pv 0) (pe_lst pa_nil) rfl)))), ?_⟩
    refine ⟨_, rfl, Nat.zero_le _, fun p np => ?_⟩
    refine ⟨n, p, [], rfl, upd_same, fun e => ?_, fun e => kN (fun z => by rw [good_nil.mpr z] at e; cases e) _ (Same.new np)⟩
    have nxp : x ≠ p := ne_of_none hx np
    refine ⟨_, rfl, _, rfl, x, C, dx, [], rfl, by rw [upd_ne nxp]; exact hx, L.cl, L.nS, by show 0 < 1000; decide, ?_⟩
    refine ⟨Nat.zero_le _, fun h nh => ?_⟩
    have nxh : x ≠ h := fun z => by
      rw [z, upd_same] at nh
      cases nh
    have nph : p ≠ h := fun z => by
      rw [z] at nxp nh
      rw [upd_ne nxp.symm, upd_same] at nh
      cases nh
    refine ⟨_, rfl, x, C, dx, _, rfl, by rw [upd_ne nxh, upd_same], L.cl, L.nH, by show 1 < 1000; decide, ?_⟩
    refine ⟨Nat.zero_le _, fun l nl => ?_⟩
    have nxl : x ≠ l := fun z => by
      rw [z, upd_same] at nl
      cases nl
    have nhl : h ≠ l := fun z => by
      rw [← z, upd_ne nxh.symm, upd_same] at nl
      cases nl
    have npl : p ≠ l := fun z => by
      rw [← z, upd_ne nxp.symm, upd_ne nph, upd_ne nxp.symm, upd_same] at nl
      cases nl
    refine ⟨_, rfl, x, C, dx, _, rfl, by rw [upd_ne nxl, upd_same], L.cl, L.nP, ?_, ?_⟩
    · have z := length_putF ("hung" : Str) (.ref h) (putF "strings" (.int n) [])
      have z2 := length_putF ("strings" : Str) (.int n) []
      simp only [List.length_nil] at z2
      omega
    rw [put_new]
    have l0 : H l = none := by
      rw [upd_ne nxl.symm, upd_ne nhl.symm, upd_ne nxl.symm, upd_ne npl.symm] at nl
      exact nl
    have h0 : H h = none := by
      rw [upd_ne nxh.symm, upd_ne nph.symm] at nh
      exact nh
    refine kY (good_nil.mp e) _ l l0 (fun b o q nb => ?_) ⟨h, [], upd_same, by rw [upd_ne nxl.symm, upd_same]; rfl, ?_, .nil, nhl, fun _ z => nomatch z⟩
    · rw [upd_ne nb, upd_ne (ne_of_none q l0), upd_ne nb, upd_ne (ne_of_none q h0), upd_ne nb, upd_ne (ne_of_none q np)]
      exact q
    · show upd _ _ _ h = _
      rw [upd_ne nxh.symm, upd_ne nhl, upd_ne nxh.symm, upd_same]
      rfl
/-! ### hang(word) -/
def spHang (C CW : Addr) : Sp := fun vs H Q E => ∃ (x dx l a : Addr) (n : Int) (ws : List (List Int)) (wd v : List Int), vs = [.ref x, .ref a] ∧ LoomAt C x dx l n ws wd H ∧ Wd H a v ∧ a ≠ l ∧ 1 ≤ n ∧ n ≤ 7 ∧ ws.length ≤ 900 ∧ wd.length + v.length ≤ 900 ∧
  (okW n v = true → ∀ H', Kp x l H H' → LoomAt C x dx l n (ws ++ [wd]) (wd ++ v) H' → Q .non H') ∧ (okW n v = false → E (.ref CW) none H)
theorem scHang : FnScope ["self", "word"] ["self", "word"] (defScope sHang) := ⟨rfl, rfl, rfl, by decide +kernel, rfl, by decide +kernel, by decide +kernel⟩
theorem good_eq {n : Int} {v : List Int} (h1 : 1 ≤ n) (h7 : n ≤ 7) : good n v = okW n v := by
  unfold good
  rw [decide_eq_true h1, decide_eq_true h7]
  rfl
theorem few3 (n : Int) (h l : Addr) : (lf n h l).length < 1000 := by show 3 < 1000; decide
/-- behind self.past.append(self.hung) and self.hung = a new list -/
theorem loom_step {x dx l r h : Addr} {n : Int} {ws : List (List Int)} {rs : List Addr} {wd u : List Int} {H : Hp} (h1 : H x = some (.ins C dx (lf n h l))) (h2 : H l = some (.lst (rs.map V.ref))) (h3 : Wd H h wd) (h4 : Wds H rs ws) (h5 : h ≠ l) (h6 : ∀ q ∈ rs, q ≠ l)
    (nr : upd H l (.lst (rs.map V.ref ++ [V.ref h])) r = none) :
    Kp x l H (upd (upd (upd H l (.lst (rs.map V.ref ++ [V.ref h]))) r (.lst (u.map V.int))) x (.ins C dx (lf n r l))) ∧
    LoomAt C x dx l n (ws ++ [wd]) u (upd (upd (upd H l (.lst (rs.map V.ref ++ [V.ref h]))) r (.lst (u.map V.int))) x (.ins C dx (lf n r l))) := by
  have nxl : x ≠ l := ne_of h1 h2 (by intro q; cases q)
  have nrl : r ≠ l := fun z => by
    rw [z, upd_same] at nr
    cases nr
  have r0 : H r = none := by
    rw [upd_ne nrl] at nr
    exact nr
  have nxr : x ≠ r := ne_of_none h1 r0
  have keep : Kp x l H (upd (upd (upd H l (.lst (rs.map V.ref ++ [V.ref h]))) r (.lst (u.map V.int))) x (.ins C dx (lf n r l))) := fun b o e n1 n2 => by
    rw [upd_ne n1, upd_ne (ne_of_none e r0), upd_ne n2]
    exact e
  refine ⟨keep, ⟨r, rs ++ [h], upd_same, ?_, ?_, ?_, nrl, fun q hq => ?_⟩⟩
  · rw [upd_ne nxl.symm, upd_ne nrl.symm, upd_same, List.map_append]
    rfl
  · show upd _ _ _ r = _
    rw [upd_ne nxr.symm, upd_same]
  · refine Wds.mono (Wds.snoc h4 h3) fun q hq o e => keep q o e ?_ ?_
    · intro z
      rw [z, h1] at e
      cases e
      rcases (List.mem_append.mp hq) with hq | hq
      · obtain ⟨i, hi, ei⟩ := List.getElem_of_mem hq
        obtain ⟨v, _, g⟩ := paired_get h4 (List.getElem?_eq_some_iff.mpr ⟨hi, ei⟩)
        exact wd_ne g h1 z
      · have z2 : q = h := by simpa using hq
        rw [z2] at z
        exact wd_ne h3 h1 z
    · rcases (List.mem_append.mp hq) with hq | hq
      · exact h6 q hq
      · have z2 : q = h := by simpa using hq
        rw [z2]
        exact h5
  · rcases (List.mem_append.mp hq) with hq | hq
    · exact h6 q hq
    · have z2 : q = h := by simpa using hq
      rw [z2]
      exact h5
theorem wds_len {H : Hp} {rs : List Addr} {ws : List (List Int)} (h : Wds H rs ws) : rs.length = ws.length := Paired.length h
/-- the same where the new word r stands already -/
theorem loom_set {x dx l r h : Addr} {n : Int} {ws : List (List Int)} {rs : List Addr} {wd u : List Int} {H : Hp} (h1 : H x = some (.ins C dx (lf n h l))) (h2 : H l = some (.lst (rs.map V.ref))) (h3 : Wd H h wd) (h4 : Wds H rs ws) (h5 : h ≠ l) (h6 : ∀ q ∈ rs, q ≠ l)
    (hr : Wd H r u) (nrl : r ≠ l) :
    Kp x l H (upd (upd H l (.lst (rs.map V.ref ++ [V.ref h]))) x (.ins C dx (lf n r l))) ∧ LoomAt C x dx l n (ws ++ [wd]) u (upd (upd H l (.lst (rs.map V.ref ++ [V.ref h]))) x (.ins C dx (lf n r l))) := by
  have nxl : x ≠ l := ne_of h1 h2 (by intro q; cases q)
  have keep : Kp x l H (upd (upd H l (.lst (rs.map V.ref ++ [V.ref h]))) x (.ins C dx (lf n r l))) := fun b o e n1 n2 => by
    rw [upd_ne n1, upd_ne n2]
    exact e
  have all : ∀ q ∈ rs ++ [h], q ≠ l := fun q hq => by
    rcases (List.mem_append.mp hq) with hq | hq
    · exact h6 q hq
    · have z2 : q = h := by simpa using hq
      rw [z2]
      exact h5
  have w2 := Wds.snoc h4 h3
  refine ⟨keep, ⟨r, rs ++ [h], upd_same, ?_, (hr.off nrl).off (wd_ne hr h1), w2.mono fun q hq o e => keep q o e (fun z => ?_) (all q hq), nrl, all⟩⟩
  · rw [upd_ne nxl.symm, upd_same, List.map_append]
    rfl
  · obtain ⟨i, hi, ei⟩ := List.getElem_of_mem hq
    obtain ⟨v, _, g⟩ := paired_get w2 (List.getElem?_eq_some_iff.mpr ⟨hi, ei⟩)
    exact wd_ne g h1 z
theorem calM_hang {f : Addr} {fd : FuncData} (F : Fun K "hang" "Loom.hang" sHang f fd) (L : LoomC K mg C) (CC : Cal P w K mg base (L2.CX P w) 1 "checked" ["n", "word"] (spChecked CW)) : FnOk P w K mg base (L2.CX P w) 2 f fd ["self", "word"] (spHang C CW) := by
  obtain ⟨fC, fdC, GC, gC, kpC, bC⟩ := CC
  refine F.okX scHang (fun vs H Q E h => ?_) (fun cdv A outer s H vs Q E hr h => ?_)
  · obtain ⟨_, _, _, _, _, _, _, _, rfl, _⟩ := h
    rfl
  · obtain ⟨x, dx, l, a, n, ws, wd, v, rfl, LA, ha, nal, n1, n7, z1, z2, kY, kN⟩ := h
    obtain ⟨h, rs, h1, h2, h3, h4, h5, h6⟩ := LA.ex
    have nxl : x ≠ l := LA.ne
    have zl := wds_len h4
    refine ⟨_, pss_cons (ps_expr (pe_call GC hr rfl gC kpC bC .nil (passes_call (takes_of rfl rfl rfl rfl) fun _ _ _ _ z => z) (pa_cons (pe_fld (pv 0) rfl) (pa_cons (pv 1) pa_nil))))
      (pss_cons (ps_expr (pe_bm PySem.F.plainAttrs_list PySem.F.slot_list_append PySem.F.type_list_append mt_append (pe_fld (pv 0) rfl) (pa_cons (pe_fld (pv 0) rfl) pa_nil)))
      (pss_one (ps_fld (pv 0) (pe_op op_catI (pe_fld (pv 0) rfl) (pv 1)) rfl))), ?_⟩
    refine ⟨_, rfl, x, C, dx, _, _, rfl, h1, L.cl, L.nS, lf_strings _ _ _, _, rfl, n, a, v, rfl, ha, fun e => ?_, fun e => kN (by rw [← good_eq n1 n7]; exact e)⟩
    refine ⟨_, rfl, x, C, dx, _, _, rfl, h1, L.cl, L.nP, lf_past _ _ _, .inl ⟨rfl, _, SqL.of h2⟩, _, rfl, x, C, dx, _, _, rfl, h1, L.cl, L.nH, lf_hung _ _ _, l, _, _, rfl, rfl, h2, small1000 (by rw [List.length_map]; omega), ?_⟩
    refine ⟨_, rfl, x, C, dx, _, _, rfl, by rw [upd_ne nxl]; exact h1, L.cl, L.nH, lf_hung _ _ _, _, rfl, ?_⟩
    refine rd_cat (h3.off h5) (ha.off nal) (by omega) fun r nr => ?_
    have nxr : x ≠ r := fun z => by
      rw [← z, upd_ne nxl, h1] at nr
      cases nr
    refine ⟨_, rfl, x, C, dx, _, rfl, by rw [upd_ne nxr, upd_ne nxl]; exact h1, L.cl, L.nH, few3 _ _ _, ?_⟩
    rw [put_hung]
    obtain ⟨g1, g2⟩ := loom_step (u := wd ++ v) h1 h2 h3 h4 h5 h6 nr
    exact kY (by rw [← good_eq n1 n7]; exact e) _ g1 g2
/-! ### drop(many) -/
def fits (w : List Int) (m : Int) : Bool := decide (0 ≤ m) && decide (m ≤ (w.length : Int))
def spDrop (C CM : Addr) : Sp := fun vs H Q E => ∃ (x dx l : Addr) (n m : Int) (ws : List (List Int)) (wd : List Int), vs = [.ref x, .int m] ∧ LoomAt C x dx l n ws wd H ∧ ws.length ≤ 900 ∧
  (fits wd m = true → ∀ H', Kp x l H H' → LoomAt C x dx l n (ws ++ [wd]) (wd.take (wd.length - m.toNat)) H' → Q .non H') ∧ (fits wd m = false → E (.ref CM) none H)
theorem scDrop : FnScope ["self", "many"] ["self", "many"] (defScope sDrop) := ⟨rfl, rfl, rfl, by decide +kernel, rfl, by decide +kernel, by decide +kernel⟩
theorem calM_drop {f : Addr} {fd : FuncData} (F : Fun K "drop" "Loom.drop" sDrop f fd) (L : LoomC K mg C) (B : Blt mg) (EM : ErrC K mg "NoMove" CM) : FnOk P w K mg base (L2.CX P w) 1 f fd ["self", "many"] (spDrop C CM) := by
  refine F.okX scDrop (fun vs H Q E h => ?_) (fun cdv A outer s H vs Q E hr h => ?_)
  · obtain ⟨_, _, _, _, _, _, _, rfl, _⟩ := h
    rfl
  · obtain ⟨x, dx, l, n, m, ws, wd, rfl, LA, z1, kY, kN⟩ := h
    obtain ⟨h, rs, h1, h2, h3, h4, h5, h6⟩ := LA.ex
    have nxl : x ≠ l := LA.ne
    have zl := wds_len h4
    refine ⟨_, pss_cons (ps_if (pt_not (pt_chain op_le op_le pe_int (pv 1) (pe_callB call_lenI (by rfl) B.len boot_len (pa_cons (pe_fld (pv 0) rfl) pa_nil)))) (pss_one (ps_raise rfl (takes_of rfl rfl rfl rfl) (pmk_own PySem.F.excBase_ValueError EM.xc EM.g EM.keep (raises_own EM.sb EM.ty) rfl))) pss_nil)
      (pss_cons (ps_expr (pe_bm PySem.F.plainAttrs_list PySem.F.slot_list_append PySem.F.type_list_append mt_append (pe_fld (pv 0) rfl) (pa_cons (pe_fld (pv 0) rfl) pa_nil)))
      (pss_one (ps_fld (pv 0) (pe_slice sl_int (pe_fld (pv 0) rfl) po_none (po_some (pe_op op_sub (pe_callB call_lenI (by rfl) B.len boot_len (pa_cons (pe_fld (pv 0) rfl) pa_nil)) (pv 1)))) rfl))), ?_⟩
    refine ⟨_, rfl, 0, m, rfl, rfl, _, rfl, ?_⟩
    refine iteB (fun c0 => ?_) (fun c0 => ⟨_, rfl, iteT (kN (by unfold fits; rw [c0]; rfl))⟩)
    refine ⟨_, rfl, x, C, dx, _, _, rfl, h1, L.cl, L.nH, lf_hung _ _ _, rd_len h3 ⟨_, _, rfl, rfl, _, rfl, ?_⟩⟩
    refine iteB (fun c1 => kN ?_) (fun c1 => ?_)
    · unfold fits
      rw [Bool.not_eq_true'] at c1
      rw [c1, Bool.and_false]
    rw [Bool.not_eq_false'] at c1
    refine ⟨_, rfl, x, C, dx, _, _, rfl, h1, L.cl, L.nP, lf_past _ _ _, .inl ⟨rfl, _, SqL.of h2⟩, _, rfl, x, C, dx, _, _, rfl, h1, L.cl, L.nH, lf_hung _ _ _, l, _, _, rfl, rfl, h2, small1000 (by rw [List.length_map]; omega), ?_⟩
    refine ⟨_, rfl, x, C, dx, _, _, rfl, by rw [upd_ne nxl]; exact h1, L.cl, L.nH, lf_hung _ _ _, _, rfl, x, C, dx, _, _, rfl, by rw [upd_ne nxl]; exact h1, L.cl, L.nH, lf_hung _ _ _, rd_len (h3.off h5) ⟨_, rfl, _, _, rfl, rfl, _, rfl, ?_⟩⟩
    refine rd_sl (h3.off h5) (take_sub (of_decide_eq_true c0) (of_decide_eq_true c1)) fun r nr => ?_
    have nxr : x ≠ r := fun z => by
      rw [← z, upd_ne nxl, h1] at nr
      cases nr
    refine ⟨_, rfl, x, C, dx, _, rfl, by rw [upd_ne nxr, upd_ne nxl]; exact h1, L.cl, L.nH, few3 _ _ _, ?_⟩
    rw [put_hung]
    obtain ⟨g1, g2⟩ := loom_step (u := wd.take (wd.length - m.toNat)) h1 h2 h3 h4 h5 h6 nr
    exact kY (by unfold fits; rw [c0, c1]; rfl) _ g1 g2
/-! ### go(move) -/
def spGo (C CM : Addr) : Sp := fun vs H Q E => ∃ (x dx l m : Addr) (n : Int) (ws : List (List Int)) (wd : List Int) (mv : Mv), vs = [.ref x, .ref m] ∧ LoomAt C x dx l n ws wd H ∧ H m = some (.tup (mvV mv)) ∧ (∀ k ∈ wd, ab k < 8) ∧ wd.length ≤ 100 ∧ ws.length ≤ 900 ∧
  (canMv n wd mv = true → ∀ H', Kp x l H H' → LoomAt C x dx l n (ws ++ [wd]) (doneMv wd mv) H' → Q .non H') ∧ (canMv n wd mv = false → ∀ H', Same H H' → E (.ref CM) none H')
theorem scGo : FnScope ["self", "move", "made"] ["self", "move"] (defScope sGo) := ⟨rfl, rfl, rfl, by decide +kernel, rfl, by decide +kernel, by decide +kernel⟩
theorem calM_go {f : Addr} {fd : FuncData} (F : Fun K "go" "Loom.go" sGo f fd) (L : LoomC K mg C) (MM : Cal P w K mg base (L2.CX P w) 3 "moved" ["n", "word", "move"] (spMoved CM)) : FnOk P w K mg base (L2.CX P w) 4 f fd ["self", "move"] (spGo C CM) := by
  obtain ⟨fC, fdC, GC, gC, kpC, bC⟩ := MM
  refine F.okX scGo (fun vs H Q E h => ?_) (fun cdv A outer s H vs Q E hr h => ?_)
  · obtain ⟨_, _, _, _, _, _, _, _, rfl, _⟩ := h
    rfl
  · obtain ⟨x, dx, l, m, n, ws, wd, mv, rfl, LA, hm, hb, z0, z1, kY, kN⟩ := h
    obtain ⟨h, rs, h1, h2, h3, h4, h5, h6⟩ := LA.ex
    have nxl : x ≠ l := LA.ne
    have zl := wds_len h4
    refine ⟨_, pss_cons (ps_set (i := 2) scGo.nd rfl (Or.inl rfl) (pe_call GC hr rfl gC kpC bC .nil (passes_call (takes_of rfl rfl rfl rfl) fun _ _ _ _ z => z) (pa_cons (pe_fld (pv 0) rfl) (pa_cons (pe_fld (pv 0) rfl) (pa_cons (pv 1) pa_nil)))))
      (pss_cons (ps_expr (pe_bm PySem.F.plainAttrs_list PySem.F.slot_list_append PySem.F.type_list_append mt_append (pe_fld (pv 0) rfl) (pa_cons (pe_fld (pv 0) rfl) pa_nil)))
      (pss_one (ps_fld (pv 0) (pv 2) rfl))), ?_⟩
    refine ⟨_, rfl, x, C, dx, _, _, rfl, h1, L.cl, L.nS, lf_strings _ _ _, _, rfl, x, C, dx, _, _, rfl, h1, L.cl, L.nH, lf_hung _ _ _, _, rfl, n, h, m, wd, mv, rfl, h3, hm, hb, z0, fun e H1 r s1 nr hr1 => ?_, kN⟩
    have g1 := s1 _ _ h1
    have g2 := s1 _ _ h2
    have g3 : Wd H1 h wd := s1 _ _ h3
    have nrl : r ≠ l := (ne_of_none h2 nr).symm
    refine ⟨_, rfl, x, C, dx, _, _, rfl, g1, L.cl, L.nP, lf_past _ _ _, .inl ⟨rfl, _, SqL.of g2⟩, _, rfl, x, C, dx, _, _, rfl, g1, L.cl, L.nH, lf_hung _ _ _, l, _, _, rfl, rfl, g2, small1000 (by rw [List.length_map]; omega), ?_⟩
    refine ⟨_, rfl, _, rfl, x, C, dx, _, rfl, by rw [upd_ne nxl]; exact g1, L.cl, L.nH, few3 _ _ _, ?_⟩
    rw [put_hung]
    obtain ⟨k1, k2⟩ := loom_set g1 g2 g3 (h4.mono fun q _ o z => s1 q o z) h5 h6 hr1 nrl
    exact kY e _ (Kp.trans (Kp.of s1) k1) k2
/-! ### undo() -/
def spUndo (C : Addr) : Sp := fun vs H Q _ => ∃ (x dx l : Addr) (n : Int) (ws : List (List Int)) (wd : List Int), vs = [.ref x] ∧ LoomAt C x dx l n ws wd H ∧
  (ws = [] → ∀ H', Same H H' → Q (.bl false) H') ∧ (∀ us u, ws = us ++ [u] → ∀ H', Kp x l H H' → LoomAt C x dx l n us u H' → Q (.bl true) H')
theorem scUndo : FnScope ["self"] ["self"] (defScope sUndo) := ⟨rfl, rfl, rfl, by decide +kernel, rfl, by decide +kernel, by decide +kernel⟩
theorem calM_undo {f : Addr} {fd : FuncData} (F : Fun K "undo" "Loom.undo" sUndo f fd) (L : LoomC K mg C) : FnOk P w K mg base CX0 1 f fd ["self"] (spUndo C) := by
  refine F.ok scUndo (fun vs H Q E h => ?_) (fun cdv A outer s H vs Q E hr h => ?_)
  · obtain ⟨_, _, _, _, _, _, rfl, _⟩ := h
    rfl
  · obtain ⟨x, dx, l, n, ws, wd, rfl, LA, kE, kS⟩ := h
    obtain ⟨h, rs, h1, h2, h3, h4, h5, h6⟩ := LA.ex
    have nxl : x ≠ l := LA.ne
    refine ⟨_, pss_cons (ps_if (pt_cmpR (op_eqP hr.units) (pe_fld (pv 0) rfl) (pe_lst pa_nil) (nomark _)) (pss_one (ps_ret pe_bl)) pss_nil)
      (pss_cons (ps_fld (pv 0) (pe_bm0 PySem.F.plainAttrs_list PySem.F.slot_list_pop PySem.F.type_list_pop mt_pop (pe_fld (pv 0) rfl)) rfl)
      (pss_one (ps_ret pe_bl))), ?_⟩
    refine ⟨_, rfl, x, C, dx, _, _, rfl, h1, L.cl, L.nP, lf_past _ _ _, Nat.zero_le _, fun p np => ?_⟩
    have s1 : Same H (upd H p (.lst [])) := Same.new np
    have g1 := s1 _ _ h1
    have g2 := s1 _ _ h2
    have g4 : Wds (upd H p (.lst [])) rs ws := h4.mono fun q _ o z => s1 q o z
    refine rd_eqP g2 g4 upd_same ⟨_, rfl, ?_⟩
    refine iteB (fun c => kE (of_decide_eq_true c) _ s1) (fun c => ?_)
    have ne := of_decide_eq_false c
    obtain ⟨us, u, eu⟩ : ∃ us u, ws = us ++ [u] := ⟨ws.dropLast, ws.getLast ne, (List.dropLast_concat_getLast ne).symm⟩
    subst eu
    obtain ⟨rs0, r, er, q1, q2⟩ := Wds.last g4
    subst er
    refine ⟨_, rfl, x, C, dx, _, _, rfl, g1, L.cl, L.nP, lf_past _ _ _, .inl ⟨rfl, _, SqL.of g2⟩, l, _, .ref r, rfl, rfl, g2, by simp, ?_⟩
    refine ⟨_, rfl, x, C, dx, _, rfl, by rw [upd_ne nxl]; exact g1, L.cl, L.nH, few3 _ _ _, ?_⟩
    rw [put_hung]
    have el : (List.map V.ref (rs0 ++ [r])).dropLast = rs0.map V.ref := by simp
    rw [el]
    have keep : Kp x l (upd H p (.lst [])) (upd (upd (upd H p (.lst [])) l (.lst (rs0.map V.ref))) x (.ins C dx (lf n r l))) := fun b o e n1 n2 => by
      rw [upd_ne n1, upd_ne n2]
      exact e
    have nrx : r ≠ x := wd_ne q2 g1
    have nrl : r ≠ l := h6 r (by simp)
    refine kS us u rfl _ (Kp.trans (Kp.of s1) keep) ⟨r, rs0, upd_same, by rw [upd_ne nxl.symm, upd_same], (q2.off nrl).off nrx, ?_, nrl, fun q hq => h6 q (List.mem_append_left _ hq)⟩
    refine q1.mono fun q hq o e => keep q o e ?_ (h6 q (List.mem_append_left _ hq))
    intro z
    obtain ⟨i, hi, ei⟩ := List.getElem_of_mem hq
    obtain ⟨v, _, g⟩ := paired_get q1 (List.getElem?_eq_some_iff.mpr ⟨hi, ei⟩)
    exact wd_ne g g1 z
/-! ### now() -/
def spNow (C : Addr) : Sp := fun vs H Q _ => ∃ (x dx l : Addr) (n : Int) (ws : List (List Int)) (wd : List Int), vs = [.ref x] ∧ LoomAt C x dx l n ws wd H ∧
  ∀ H' r, Same H H' → H r = none → Wd H' r wd → Q (.ref r) H'
theorem scNow : FnScope ["self"] ["self"] (defScope sNow) := ⟨rfl, rfl, rfl, by decide +kernel, rfl, by decide +kernel, by decide +kernel⟩
theorem calM_now {f : Addr} {fd : FuncData} (F : Fun K "now" "Loom.now" sNow f fd) (L : LoomC K mg C) (B : Blt mg) : FnOk P w K mg base CX0 1 f fd ["self"] (spNow C) := by
  refine F.ok scNow (fun vs H Q E h => ?_) (fun cdv A outer s H vs Q E hr h => ?_)
  · obtain ⟨_, _, _, _, _, _, rfl, _⟩ := h
    rfl
  · obtain ⟨x, dx, l, n, ws, wd, rfl, LA, kQ⟩ := h
    obtain ⟨h, rs, h1, h2, h3, h4, h5, h6⟩ := LA.ex
    refine ⟨_, pss_one (ps_ret (pe_callTy call_list_of (by rfl) B.list PyProof.Rows.boot_list (pa_cons (pe_fld (pv 0) rfl) pa_nil))), ?_⟩
    exact ⟨_, rfl, x, C, dx, _, _, rfl, h1, L.cl, L.nH, lf_hung _ _ _, h, _, rfl, .inl (SqL.of h3), fun r nr => kQ _ r (Same.new nr) nr upd_same⟩
end
end K82
namespace K82
open PySem PySem.Spec PyProof.Rows L2
section
variable {P : Program} {w : World} {K : PySem.W.Frag} {mg : Str → Option Value} {base : Heap}
/-! ### _law_mix(cell, k, factor): some number -/
def spMix : Sp := fun vs H Q _ => ∃ c k f : Int, vs = [.int c, .int k, .int f] ∧ 0 ≤ k ∧ k ≤ 100 ∧ 0 ≤ f ∧ f ≤ 1000000 ∧ ∀ z, Q (.int z) H
theorem scMix : FnScope ["_law_cell", "_law_k", "_law_factor"] ["_law_cell", "_law_k", "_law_factor"] (defScope sMix) := ⟨rfl, rfl, rfl, by decide +kernel, rfl, by decide +kernel, by decide +kernel⟩
theorem lim64 {a : Int} (h0 : -1000000000000 ≤ a) (h1 : a ≤ 1000000000000) : -(2 ^ 64) < a ∧ a < 2 ^ 64 := by
  have e : (2 : Int) ^ 64 = 18446744073709551616 := by decide
  rw [e]
  omega
theorem cal_mix (D : At K mg "_law_mix" sMix) : Cal P w K mg base CX0 1 "_law_mix" ["_law_cell", "_law_k", "_law_factor"] spMix := by
  obtain ⟨f, fd, F, g⟩ := D
  refine ⟨f, fd, F.ok scMix (fun vs H Q E h => ?_) (fun cdv A outer s H vs Q E hr h => ?_), g, F.kp, F.binds (ps := ["_law_cell", "_law_k", "_law_factor"]) fun _ _ _ _ _ _ us hl => match us, hl with | [_, _, _], _ => rfl⟩
  · obtain ⟨_, _, _, rfl, _⟩ := h
    rfl
  · obtain ⟨c, k, z, rfl, k0, k1, f0, f1, kQ⟩ := h
    refine ⟨_, pss_one (ps_ret (pe_op op_fdiv (pe_op op_mod (pe_op op_mul (pe_op op_add (pe_op op_add (pe_op op_mul (pe_op op_mod (pv 0) pe_int) pe_int) (pe_op op_mul (pv 1) (pv 1))) pe_int) (pv 2)) pe_int) pe_int)), ?_⟩
    refine ⟨_, rfl, _, _, rfl, rfl, (by show (0 : Int) < 1000003; decide), _, _, rfl, rfl, .inr (lim64 (by decide) (by decide)), _, rfl, _, rfl, _, _, rfl, rfl, .inl (lim64 (by omega) (by omega)), _, _, rfl, rfl, _, _, rfl, rfl, _, rfl, _, _, rfl, rfl, .inr (lim64 (by omega) (by omega)),
      _, _, rfl, rfl, (by show (0 : Int) < 2147483647; decide), _, _, rfl, rfl, ⟨by decide, by decide⟩, kQ _⟩
/-! ### _law_cell_at(script, k): some number -/
def spCellAt (K : PySem.W.Frag) : Sp := fun vs H Q _ => ∃ (a : Addr) (ns : List Int) (k : Nat), vs = [.ref a, .int (k : Int)] ∧ SqL K H a (ns.map V.int) ∧ ∀ z, Q (.int z) H
theorem scCellAt : FnScope ["_law_script", "_law_k"] ["_law_script", "_law_k"] (defScope sCellAt) := ⟨rfl, rfl, rfl, by decide +kernel, rfl, by decide +kernel, by decide +kernel⟩
theorem cal_cellAt (D : At K mg "_law_cell_at" sCellAt) (B : Blt mg) : Cal P w K mg base CX0 1 "_law_cell_at" ["_law_script", "_law_k"] (spCellAt K) := by
  obtain ⟨f, fd, F, g⟩ := D
  refine ⟨f, fd, F.ok scCellAt (fun vs H Q E h => ?_) (fun cdv A outer s H vs Q E hr h => ?_), g, F.kp, F.binds (ps := ["_law_script", "_law_k"]) fun _ _ _ _ _ _ us hl => match us, hl with | [_, _], _ => rfl⟩
  · obtain ⟨_, _, _, rfl, _⟩ := h
    rfl
  · obtain ⟨a, ns, k, rfl, hS, kQ⟩ := h
    refine ⟨_, pss_cons (ps_if (pt_cmpR op_lt (pv 1) (pe_callB call_len_seq (by rfl) B.len boot_len (pa_cons (pv 0) pa_nil)) (nomark _)) (pss_one (ps_ret (pe_ix ix_list (pv 0) (pv 1) (fun _ _ => rfl)))) pss_nil)
      (pss_one (ps_ret pe_int)), ?_⟩
    refine ⟨_, rfl, _, rfl, a, _, rfl, .inl hS, _, _, rfl, rfl, _, rfl, ?_⟩
    refine iteB (fun c => ?_) (fun c => kQ _)
    have c' := of_decide_eq_true c
    rw [List.length_map] at c'
    exact ⟨_, rfl, _, rfl, a, _, _, _, rfl, rfl, hS, at_int (List.getElem?_eq_getElem (by omega)), kQ _⟩
/-! ### _law_strings(seed, 1, 7): from one to seven -/
def spStrings : Sp := fun vs H Q _ => ∃ s : Int, vs = [.int s, .int 1, .int 7] ∧ ∀ n, 1 ≤ n → n ≤ 7 → Q (.int n) H
theorem scStrings : FnScope ["_law_seed", "_law_least", "_law_most"] ["_law_seed", "_law_least", "_law_most"] (defScope sStrings) := ⟨rfl, rfl, rfl, by decide +kernel, rfl, by decide +kernel, by decide +kernel⟩
theorem cal_strings (D : At K mg "_law_strings" sStrings) (B : Blt mg) : Cal P w K mg base CX0 1 "_law_strings" ["_law_seed", "_law_least", "_law_most"] spStrings := by
  obtain ⟨f, fd, F, g⟩ := D
  refine ⟨f, fd, F.ok scStrings (fun vs H Q E h => ?_) (fun cdv A outer s H vs Q E hr h => ?_), g, F.kp, F.binds (ps := ["_law_seed", "_law_least", "_law_most"]) fun _ _ _ _ _ _ us hl => match us, hl with | [_, _, _], _ => rfl⟩
  · obtain ⟨_, rfl, _⟩ := h
    rfl
  · obtain ⟨z, rfl, kQ⟩ := h
    refine ⟨_, pss_cons (ps_if (PW.pt (pw_and (pt_cmpR op_eq (pv 1) pe_int (nomark _)) (pw_and1 (pt_cmpR op_eq (pe_op op_mod (pv 0) pe_int) pe_int (nomark _))))) (pss_one (ps_ret pe_int)) pss_nil)
      (pss_cons (ps_set (i := 1) scStrings.nd rfl (Or.inl rfl) (pe_callB (call_max2 rfl) (by rfl) B.max boot_max (pa_cons pe_int (pa_cons (pv 1) pa_nil))))
      (pss_one (ps_ret (pe_op op_add (pv 1) (pe_op op_mod (pe_op op_fdiv (pv 0) pe_int) (pe_op op_add (pe_op op_sub (pv 2) (pv 1)) pe_int)))))), ?_⟩
    refine ⟨_, rfl, rfl, _, rfl, if_t (decide_eq_true rfl) ⟨_, rfl, _, _, rfl, rfl, (by show (0 : Int) < 13; decide), rfl, _, rfl, ?_⟩⟩
    refine iteB (fun _ => kQ 1 (by decide) (by decide)) (fun _ => ?_)
    refine ⟨_, rfl, 2, 1, rfl, _, rfl, _, rfl, _, _, rfl, rfl, ⟨by decide, by decide⟩, _, rfl, _, rfl, _, _, rfl, rfl, _, _, rfl, rfl, _, _, rfl, rfl, (by show (0 : Int) < 6; decide), _, _, rfl, rfl, ?_⟩
    have h1 := Int.emod_nonneg (z / 13) (show (6 : Int) ≠ 0 by decide)
    have h2 := Int.emod_lt_of_pos (z / 13) (show (0 : Int) < 6 by decide)
    exact kQ (2 + z / 13 % 6) (by omega) (by omega)
/-! ### _law_crossing(number, n): some number -/
def spCrossing : Sp := fun vs H Q _ => ∃ z n : Int, vs = [.int z, .int n] ∧ 2 ≤ n ∧ ∀ k, Q (.int k) H
theorem scCrossing : FnScope ["_law_number_here", "_law_n", "_law_k"] ["_law_number_here", "_law_n"] (defScope sCrossing) := ⟨rfl, rfl, rfl, by decide +kernel, rfl, by decide +kernel, by decide +kernel⟩
theorem cal_crossing (D : At K mg "_law_crossing" sCrossing) : Cal P w K mg base CX0 1 "_law_crossing" ["_law_number_here", "_law_n"] spCrossing := by
  obtain ⟨f, fd, F, g⟩ := D
  refine ⟨f, fd, F.ok scCrossing (fun vs H Q E h => ?_) (fun cdv A outer s H vs Q E hr h => ?_), g, F.kp, F.binds (ps := ["_law_number_here", "_law_n"]) fun _ _ _ _ _ _ us hl => match us, hl with | [_, _], _ => rfl⟩
  · obtain ⟨_, _, rfl, _⟩ := h
    rfl
  · obtain ⟨z, n, rfl, n2, kQ⟩ := h
    refine ⟨_, pss_cons (ps_set (i := 2) scCrossing.nd rfl (Or.inl rfl) (pe_op op_add pe_int (pe_op op_mod (pv 0) (pe_op op_sub (pv 1) pe_int))))
      (pss_cons (ps_if (pt_cmpR op_eq (pe_op op_mod (pe_op op_fdiv (pv 0) pe_int) pe_int) pe_int (nomark _)) (pss_one (ps_ret (pe_un un_neg (pv 2)))) pss_nil)
      (pss_one (ps_ret (pv 2)))), ?_⟩
    refine ⟨_, rfl, _, rfl, _, _, rfl, rfl, _, _, rfl, rfl, (by omega), _, _, rfl, rfl, ?_⟩
    refine ⟨_, rfl, _, _, rfl, rfl, ⟨by decide, by decide⟩, _, _, rfl, rfl, (by show (0 : Int) < 2; decide), rfl, _, rfl, ?_⟩
    exact iteB (fun _ => ⟨_, rfl, _, rfl, kQ _⟩) (fun _ => ⟨_, rfl, kQ _⟩)
/-! ### _law_piece(number, n): a word of at most three -/
def spPiece : Sp := fun vs H Q _ => ∃ z n : Int, vs = [.int z, .int n] ∧ 2 ≤ n ∧ ∀ H' r v, Same H H' → H r = none → Wd H' r v → v.length ≤ 3 → Q (.ref r) H'
theorem scPiece : FnScope ["_law_number_here", "_law_n", "_law_k", "_law_other"] ["_law_number_here", "_law_n"] (defScope sPiece) := ⟨rfl, rfl, rfl, by decide +kernel, rfl, by decide +kernel, by decide +kernel⟩
theorem mod4 (z : Int) : z % 4 = 0 ∨ z % 4 = 1 ∨ z % 4 = 2 ∨ z % 4 = 3 := by omega
theorem cal_piece (D : At K mg "_law_piece" sPiece) (B : Blt mg) (DC : At K mg "_law_crossing" sCrossing) : Cal P w K mg base CX0 2 "_law_piece" ["_law_number_here", "_law_n"] spPiece := by
  obtain ⟨f, fd, F, g⟩ := D
  obtain ⟨fC, fdC, GC, gC, kpC, bC⟩ := cal_crossing (P := P) (w := w) (base := base) DC
  refine ⟨f, fd, F.ok scPiece (fun vs H Q E h => ?_) (fun cdv A outer s H vs Q E hr h => ?_), g, F.kp, F.binds (ps := ["_law_number_here", "_law_n"]) fun _ _ _ _ _ _ us hl => match us, hl with | [_, _], _ => rfl⟩
  · obtain ⟨_, _, rfl, _⟩ := h
    rfl
  · obtain ⟨z, n, rfl, n2, kQ⟩ := h
    refine ⟨_, pss_cons (ps_set (i := 2) scPiece.nd rfl (Or.inl rfl) (pe_call GC hr rfl gC kpC bC .nil pass0 (pa_cons (pv 0) (pa_cons (pv 1) pa_nil))))
      (pss_cons (ps_if (PW.pt (pw_or (pt_cmpR op_gt (pe_op op_mod (pe_op op_fdiv (pv 0) pe_int) pe_int) pe_int (nomark _)) (pw_or1 (pt_cmpR op_lt (pv 1) pe_int (nomark _))))) (pss_one (ps_ret (pe_lst (pa_cons (pv 2) pa_nil)))) pss_nil)
      (pss_cons (ps_set (i := 3) scPiece.nd rfl (Or.inl rfl) (pe_ifExp (PW.pt (pw_and (pt_cmpR op_lt (pe_callB call_absI (by rfl) B.abs boot_abs (pa_cons (pe_op op_add (pv 2) pe_int) pa_nil)) (pv 1) (nomark _)) (pw_and1 (pt_cmpR op_ne (pe_op op_add (pv 2) pe_int) pe_int (nomark _)))))
        (pe_op op_add (pv 2) pe_int) (pe_op op_sub (pv 2) pe_int)))
      (pss_one (ps_ret (pe_ix ix_list (pe_lst (pa_cons (pe_lst (pa_cons (pv 2) (pa_cons (pv 3) (pa_cons (pv 2) pa_nil)))) (pa_cons (pe_lst (pa_cons (pv 2) (pa_cons (pv 3) pa_nil))) (pa_cons (pe_lst (pa_cons (pv 2) (pa_cons (pv 2) pa_nil)))
        (pa_cons (pe_lst (pa_cons (pv 2) (pa_cons (pe_un un_neg (pv 3)) (pa_cons (pv 2) pa_nil)))) pa_nil))))) (pe_op op_mod (pe_op op_fdiv (pv 0) pe_int) pe_int) (fun _ _ => rfl)))))), ?_⟩
    refine ⟨_, rfl, _, rfl, z, n, rfl, n2, fun k => ?_⟩
    -- number // 16 % 4 > 0 or n < 3
    refine ⟨_, rfl, _, _, rfl, rfl, ⟨by decide, by decide⟩, _, _, rfl, rfl, (by show (0 : Int) < 4; decide), _, _, rfl, rfl, _, rfl, ?_⟩
    have one : ∀ Q' : VK, (∀ H' r v, Same H H' → H r = none → Wd H' r v → v.length ≤ 3 → Q' (.ref r) H') → 1 ≤ sizeLine ∧ ∀ p, H p = none → Q' (.ref p) (upd H p (.lst [.int k])) := fun Q' kq => ⟨by decide, fun p np => kq _ p [k] (Same.new np) np upd_same (by simp)⟩
    refine iteB (fun _ => iteT ⟨_, rfl, one _ kQ⟩) (fun _ => ?_)
    refine ⟨_, rfl, _, _, rfl, rfl, _, rfl, ?_⟩
    refine iteB (fun _ => ⟨_, rfl, one _ kQ⟩) (fun _ => ?_)
    have rest : ∀ o : Int, ((tRet (tOp (rIxL K) (tLst (tCons (tLst (tCons (tVar 2) (tCons (tVar 3) (tCons (tVar 2) tNil)))) (tCons (tLst (tCons (tVar 2) (tCons (tVar 3) tNil))) (tCons (tLst (tCons (tVar 2) (tCons (tVar 2) tNil)))
        (tCons (tLst (tCons (tVar 2) (tCons (tUn (rU fun i => .int (-i)) (tVar 3)) (tCons (tVar 2) tNil)))) tNil))))) (tOp (rI (fun _ j => 0 < j) fun i j => .int (i % j)) (tOp (rI CDiv fun i j => .int (i / j)) (tVar 0) (tC (.int 64))) (tC (.int 4)))))
        { nx := fun _ H' => Q .non H', rt := Q } [some (.int z), some (.int n), some (.int k), some (.int o)] H) := by
      intro o
      refine ⟨_, rfl, _, rfl, _, rfl, by show 3 ≤ sizeLine; decide, fun p1 n1 => ?_⟩
      refine ⟨_, rfl, _, rfl, by show 2 ≤ sizeLine; decide, fun p2 m2 => ?_⟩
      refine ⟨_, rfl, _, rfl, by show 2 ≤ sizeLine; decide, fun p3 m3 => ?_⟩
      refine ⟨_, rfl, _, rfl, _, rfl, _, rfl, by show 3 ≤ sizeLine; decide, fun p4 m4 => ?_⟩
      refine ⟨by show 4 ≤ sizeLine; decide, fun p5 m5 => ?_⟩
      refine ⟨_, rfl, _, _, rfl, rfl, ⟨by decide, by decide⟩, _, _, rfl, rfl, (by show (0 : Int) < 4; decide), ?_⟩
      have s1 : Same H (upd H p1 (.lst [.int k, .int o, .int k])) := Same.new n1
      have s2 := s1.trans (Same.new m2 (o := .lst [.int k, .int o]))
      have s3 := s2.trans (Same.new m3 (o := .lst [.int k, .int k]))
      have s4 := s3.trans (Same.new m4 (o := .lst [.int k, .int (-o), .int k]))
      have s5 := s4.trans (Same.new m5 (o := .lst [.ref p1, .ref p2, .ref p3, .ref p4]))
      have w4 := up_same (upd_same (H := upd (upd (upd H p1 (.lst [.int k, .int o, .int k])) p2 (.lst [.int k, .int o])) p3 (.lst [.int k, .int k])) (a := p4) (o := .lst [.int k, .int (-o), .int k])) m5 (o := .lst [.ref p1, .ref p2, .ref p3, .ref p4])
      have w3 := up_same (up_same (upd_same (H := upd (upd H p1 (.lst [.int k, .int o, .int k])) p2 (.lst [.int k, .int o])) (a := p3) (o := .lst [.int k, .int k])) m4 (o := .lst [.int k, .int (-o), .int k])) m5 (o := .lst [.ref p1, .ref p2, .ref p3, .ref p4])
      have w2 := up_same (up_same (up_same (upd_same (H := upd H p1 (.lst [.int k, .int o, .int k])) (a := p2) (o := .lst [.int k, .int o])) m3 (o := .lst [.int k, .int k])) m4 (o := .lst [.int k, .int (-o), .int k])) m5 (o := .lst [.ref p1, .ref p2, .ref p3, .ref p4])
      have w1 := up_same (up_same (up_same (up_same (upd_same (H := H) (a := p1) (o := .lst [.int k, .int o, .int k])) m2 (o := .lst [.int k, .int o])) m3 (o := .lst [.int k, .int k])) m4 (o := .lst [.int k, .int (-o), .int k])) m5 (o := .lst [.ref p1, .ref p2, .ref p3, .ref p4])
      have got : ∀ (j : Nat) (p : Addr) (v : List Int), z / 64 % 4 = (j : Int) → [V.ref p1, V.ref p2, V.ref p3, V.ref p4][j]? = some (.ref p) → H p = none → Wd _ p v → v.length ≤ 3 → rIxL K (.ref p5) (.int (z / 64 % 4)) _ Q :=
        fun j p v e h1 h2 h3 h4 => ⟨p5, _, _, _, rfl, rfl, SqL.of upd_same, by rw [e]; exact atI_nat h1, kQ _ p v s5 h2 h3 h4⟩
      rcases mod4 (z / 64) with e | e | e | e
      · exact got 0 p1 [k, o, k] e rfl n1 w1 (by simp)
      · exact got 1 p2 [k, o] e rfl (s1.free m2) w2 (by simp)
      · exact got 2 p3 [k, k] e rfl (s2.free m3) w3 (by simp)
      · exact got 3 p4 [k, -o, k] e rfl (s3.free m4) w4 (by simp)
    refine ⟨_, rfl, _, _, rfl, rfl, rd_abs ⟨_, rfl, _, _, rfl, rfl, _, rfl, ?_⟩⟩
    refine iteB (fun _ => ?_) (fun _ => iteF ⟨_, rfl, _, _, rfl, rfl, rest _⟩)
    refine ⟨_, rfl, _, _, rfl, rfl, rfl, _, rfl, ?_⟩
    exact iteB (fun _ => ⟨_, rfl, _, _, rfl, rfl, rest _⟩) (fun _ => ⟨_, rfl, _, _, rfl, rfl, rest _⟩)
end
end K82
namespace K82
open PySem PySem.Spec PyProof.Rows L2
section
variable {P : Program} {w : World} {K : PySem.W.Frag} {mg : Str → Option Value} {base : Heap}
/-! ### _law_drawn(cells, n, most): a word of at most so many -/
def spDrawn : Sp := fun vs H Q _ => ∃ (a : Addr) (c1 c2 n most : Int), vs = [.ref a, .int n, .int most] ∧ Wd H a [c1, c2] ∧ 0 ≤ most ∧ ∀ H' r v, Same H H' → H r = none → Wd H' r v → v.length ≤ most.toNat → Q (.ref r) H'
theorem scDrawn : FnScope ["_law_cells", "_law_n", "_law_most", "_law_word", "_law_k", "_law_cell"] ["_law_cells", "_law_n", "_law_most"] (defScope sDrawn) := ⟨rfl, rfl, rfl, by decide +kernel, rfl, by decide +kernel, by decide +kernel⟩
theorem cal_drawn (D : At K mg "_law_drawn" sDrawn) (B : Blt mg) (CP : Cal P w K mg base CX0 2 "_law_piece" ["_law_number_here", "_law_n"] spPiece) (CM : Cal P w K mg base CX0 1 "_law_mix" ["_law_cell", "_law_k", "_law_factor"] spMix) :
    Cal P w K mg base CX0 3 "_law_drawn" ["_law_cells", "_law_n", "_law_most"] spDrawn := by
  obtain ⟨f, fd, F, g⟩ := D
  obtain ⟨fP, fdP, GP, gP, kpP, bP⟩ := CP
  obtain ⟨fM, fdM, GM, gM, kpM, bM⟩ := CM
  refine ⟨f, fd, F.ok scDrawn (fun vs H Q E h => ?_) (fun cdv A outer s H vs Q E hr h => ?_), g, F.kp, F.binds (ps := ["_law_cells", "_law_n", "_law_most"]) fun _ _ _ _ _ _ us hl => match us, hl with | [_, _, _], _ => rfl⟩
  · obtain ⟨_, _, _, _, _, rfl, _⟩ := h
    rfl
  · obtain ⟨a, c1, c2, n, most, rfl, ha, m0, kQ⟩ := h
    have nd := scDrawn.nd
    have hr1 : Room 1 _ := hr.mono (by decide)
    refine ⟨_, pss_cons (ps_set (i := 3) nd rfl (Or.inl rfl) (pe_lst pa_nil))
      (pss_cons (ps_for PassesOwn.never rfl (pi_enum (by rfl) B.enum (pa_cons (pv 0) pa_nil)) (pg_tup rfl (pgs_cons (pg_name (i := 4) nd rfl (Or.inl rfl)) (pgs_cons (pg_name (i := 5) nd rfl (Or.inl rfl)) pgs_nil)))
        (pss_one (ps_if (pt_cmpR op_gt (pv 1) pe_int (nomark _)) (pss_one (ps_set (i := 3) nd rfl (Or.inl rfl) (pe_op op_catI (pv 3) (pe_call GP hr rfl gP kpP bP .nil pass0 (pa_cons (pe_call GM hr1 rfl gM kpM bM .nil pass0 (pa_cons (pv 5) (pa_cons (pv 4) (pa_cons pe_int pa_nil)))) (pa_cons (pv 1) pa_nil)))))) pss_nil)))
      (pss_one (ps_ret (pe_slice sl_int (pv 3) po_none (po_some (pv 2)))))), ?_⟩
    refine ⟨Nat.zero_le _, fun p np => ?_⟩
    have s1 : Same H (upd H p (.lst [])) := Same.new np
    refine ⟨_, rfl, a, _, rfl, SqL.of (Same.wd s1 ha), for_enum (K := K) (a := a) (xs := [c1, c2].map V.int) (fun i σ H' => ∃ (r : Addr) (v : List Int) (kv cv : Option V), σ = [some (.ref a), some (.int n), some (.int most), some (.ref r), kv, cv] ∧ Same H H' ∧ H r = none ∧ Wd H' r v ∧ v.length ≤ 3 * i)
      ⟨p, [], none, none, rfl, s1, np, upd_same, by simp⟩ (fun i σ H' _ ⟨_, _, _, _, _, s2, _⟩ => SqL.of (Same.wd s2 ha)) ?_ ?_⟩
    · rintro i x T σ H' hi ⟨r, v, kv, cv, rfl, s2, nr, hv, hl⟩ nT
      obtain ⟨c, hc, rfl⟩ := item_of hi
      have hi2 : i < 2 := (List.getElem?_eq_some_iff.mp hc).1
      refine ⟨T, _, rfl, SqT.of upd_same, rfl, _, _, rfl, _, _, rfl, rfl, ?_⟩
      have s3 := s2.trans (Same.new nT (o := .tup [.int (i : Nat), .int c]))
      have hv3 : Wd (upd H' T (.tup [.int (i : Nat), .int c])) r v := hv.up nT
      refine ⟨_, rfl, _, _, rfl, rfl, _, rfl, ?_⟩
      refine iteB (fun cn => ?_) (fun _ => ⟨r, v, _, _, rfl, s3, nr, hv3, by omega⟩)
      have n2 : 2 ≤ n := by
        have z := of_decide_eq_true cn
        omega
      refine ⟨_, rfl, _, rfl, _, rfl, c, i, 48271, rfl, by omega, by omega, by decide, by decide, fun z => ?_⟩
      refine ⟨_, rfl, z, n, rfl, n2, fun H4 q u s4 nq hq lq => ?_⟩
      refine rd_cat (s4 _ _ hv3) hq (by omega) fun t nt => ?_
      exact ⟨t, _, _, _, rfl, (s3.trans s4).trans (Same.new nt), (s3.trans s4).free nt, wd_new, by rw [List.length_append]; omega⟩
    · rintro σ H' ⟨r, v, kv, cv, rfl, s2, nr, hv, hl⟩
      refine ⟨_, rfl, _, rfl, _, rfl, rd_sl hv (cut_to m0) fun t nt => ?_⟩
      exact kQ _ t _ (s2.trans (Same.new nt)) (s2.free nt) wd_new (by rw [List.length_take]; omega)
/-! ### _law_done(word, deed) -/
def spDone : Sp := fun vs H Q _ => ∃ (n : Int) (a m : Addr) (wd : List Int) (mv : Mv), vs = [.ref a, .ref m] ∧ Wd H a wd ∧ H m = some (.tup (mvV mv)) ∧ wd.length ≤ 100 ∧ canMv n wd mv = true ∧
  ∀ H' r, Same H H' → H r = none → Wd H' r (doneMv wd mv) → Q (.ref r) H'
theorem scDone : FnScope ["_law_word", "_law_deed", "_law_p"] ["_law_word", "_law_deed"] (defScope sDone) := ⟨rfl, rfl, rfl, by decide +kernel, rfl, by decide +kernel, by decide +kernel⟩
theorem cal_done (D : At K mg "_law_done" sDone) : Cal P w K mg base CX0 1 "_law_done" ["_law_word", "_law_deed"] spDone := by
  obtain ⟨f, fd, F, g⟩ := D
  refine ⟨f, fd, F.ok scDone (fun vs H Q E h => ?_) (fun cdv A outer s H vs Q E hr h => ?_), g, F.kp, F.binds (ps := ["_law_word", "_law_deed"]) fun _ _ _ _ _ _ us hl => match us, hl with | [_, _], _ => rfl⟩
  · obtain ⟨_, _, _, _, _, rfl, _⟩ := h
    rfl
  · obtain ⟨n, a, m, wd, mv, rfl, hw, hm, hz, can, kY⟩ := h
    have nd := scDone.nd
    refine ⟨_, pss_cons (ps_set (i := 2) nd rfl (Or.inl rfl) (pe_ix ix_tupI (pv 1) pe_int (fun _ _ => rfl)))
      (pss_cons (ps_if (pt_cmpR op_eq (pe_ix ix_tupI (pv 1) pe_int (fun _ _ => rfl)) pe_str (nomark _)) (pss_one (ps_ret (pe_op op_catI (pe_slice sl_int (pv 0) po_none (po_some (pv 2))) (pe_slice sl_int (pv 0) (po_some (pe_op op_add (pv 2) pe_int)) po_none)))) pss_nil)
      (pss_cons (ps_if (pt_cmpR op_eq (pe_ix ix_tupI (pv 1) pe_int (fun _ _ => rfl)) pe_str (nomark _)) (pss_one (ps_ret (pe_op op_catI (pe_op op_catI (pe_slice sl_int (pv 0) po_none (po_some (pv 2))) (pe_lst (pa_cons (pe_ix ix_tupI (pv 1) pe_int (fun _ _ => rfl)) (pa_cons (pe_un un_neg (pe_ix ix_tupI (pv 1) pe_int (fun _ _ => rfl))) pa_nil)))) (pe_slice sl_int (pv 0) (po_some (pv 2)) po_none)))) pss_nil)
      (pss_cons (ps_if (pt_cmpR op_eq (pe_ix ix_tupI (pv 1) pe_int (fun _ _ => rfl)) pe_str (nomark _)) (pss_one (ps_ret (pe_op op_catI (pe_op op_catI (pe_slice sl_int (pv 0) po_none (po_some (pv 2))) (pe_lst (pa_cons (pe_ix ix_int (pv 0) (pe_op op_add (pv 2) pe_int) (fun _ _ => rfl)) (pa_cons (pe_ix ix_int (pv 0) (pv 2) (fun _ _ => rfl)) pa_nil)))) (pe_slice sl_int (pv 0) (po_some (pe_op op_add (pv 2) pe_int)) po_none)))) pss_nil)
      (pss_one (ps_ret (pe_op op_catI (pe_op op_catI (pe_slice sl_int (pv 0) po_none (po_some (pv 2))) (pe_lst (pa_cons (pe_ix ix_int (pv 0) (pe_op op_add (pv 2) pe_int) (fun _ _ => rfl)) (pa_cons (pe_ix ix_int (pv 0) (pv 2) (fun _ _ => rfl)) (pa_cons (pe_ix ix_int (pv 0) (pe_op op_add (pv 2) pe_int) (fun _ _ => rfl)) pa_nil))))) (pe_slice sl_int (pv 0) (po_some (pe_op op_add (pv 2) pe_int)) po_none))))))), ?_⟩
    obtain ⟨H1, eH⟩ : ∃ H1, H1 = H := ⟨_, rfl⟩
    rw [← eH] at hw hm ⊢
    have s1 : Same H H1 := by
      rw [eH]
      exact Same.refl _
    clear eH
    refine ⟨_, rfl, rd_tup (j := 1) hm rfl (mv_p mv) ?_⟩
    have p0 : 0 ≤ mv.p ∧ mv.p ≤ (wd.length : Int) := by
      cases mv with
      | inn p k => exact inside_iff.mp (Bool.and_eq_true_iff.mp can).1
      | «at» kd p => exact inside_iff.mp (Bool.and_eq_true_iff.mp can).1
    cases mv with
    | inn p k =>
      have h0 : 0 ≤ p := p0.1
      refine ⟨_, rfl, rd_tup (j := 0) (v := .str "in") hm rfl rfl ⟨rfl, _, rfl, if_f (decide_eq_false (by decide +kernel)) ?_⟩⟩
      refine ⟨_, rfl, rd_tup (j := 0) (v := .str "in") hm rfl rfl ⟨rfl, _, rfl, if_t (decide_eq_true rfl) ?_⟩⟩
      refine ⟨_, rfl, _, rfl, _, rfl, rd_sl hw (cut_to h0) fun l1 n1 => ?_⟩
      have s2 := s1.trans (Same.new n1 (o := .lst ((wd.take p.toNat).map V.int)))
      have hm2 := up_same hm n1 (o := .lst ((wd.take p.toNat).map V.int))
      refine ⟨_, rfl, rd_tup (j := 2) (v := .int k) hm2 rfl rfl ⟨_, rfl, rd_tup (j := 2) (v := .int k) hm2 rfl rfl ⟨_, rfl, by show 2 ≤ sizeLine; decide, fun l2 n2 => ?_⟩⟩⟩
      have s3 := s2.trans (Same.new n2 (o := .lst [.int k, .int (-k)]))
      have w2 : Wd _ l2 [k, -k] := upd_same (H := upd H1 l1 (.lst ((wd.take p.toNat).map V.int))) (a := l2) (o := .lst [.int k, .int (-k)])
      have w1 : Wd (upd (upd H1 l1 (.lst ((wd.take p.toNat).map V.int))) l2 (.lst [.int k, .int (-k)])) l1 (wd.take p.toNat) := Wd.up wd_new n2
      refine rd_cat w1 w2 (by simp only [List.length_take, List.length_cons, List.length_nil]; omega) fun l3 n3 => ?_
      have hw3 := ((hw.up n1).up n2).up n3 (o := .lst ((wd.take p.toNat ++ [k, -k]).map V.int))
      refine ⟨_, rfl, _, rfl, _, rfl, rd_sl hw3 (cut_from h0) fun l4 n4 => ?_⟩
      exact rd_three (H := H) (Wd.up wd_new n4) wd_new (by simp only [List.length_append, List.length_take, List.length_drop, List.length_cons, List.length_nil]; omega) ((s3.trans (Same.new n3)).trans (Same.new n4)) kY
    | «at» kd p =>
      have h0 : 0 ≤ p := p0.1
      obtain ⟨z2, z3⟩ := hereOf_len (of_decide_eq_true (Bool.and_eq_true_iff.mp can).2)
      have i0 := getD_at (w := wd) (i := p.toNat) (by omega)
      have i1 := getD_at (w := wd) (i := p.toNat + 1) (by omega)
      have e0 : p = ((p.toNat : Nat) : Int) := by omega
      have e1 : p + 1 = ((p.toNat + 1 : Nat) : Int) := by omega
      have c2 : cutI wd (some (p + 2)) none = wd.drop (p.toNat + 2) := by
        rw [cut_from (by omega)]
        congr 1
        omega
      have c3 : cutI wd (some (p + 3)) none = wd.drop (p.toNat + 3) := by
        rw [cut_from (by omega)]
        congr 1
        omega
      refine ⟨_, rfl, rd_tup (j := 0) (v := .str (Kd.str kd)) hm rfl rfl ⟨rfl, _, rfl, ?_⟩⟩
      cases kd with
      | out =>
        refine if_t (decide_eq_true rfl) ?_
        refine ⟨_, rfl, _, rfl, _, rfl, rd_sl hw (cut_to h0) fun l1 n1 => ?_⟩
        refine ⟨_, rfl, _, rfl, _, _, rfl, rfl, _, rfl, rd_sl (hw.up n1) c2 fun l4 n4 => ?_⟩
        exact rd_three (H := H) (Wd.up wd_new n4) wd_new (by simp only [List.length_take, List.length_drop]; omega) ((s1.trans (Same.new n1)).trans (Same.new n4)) kY
      | far =>
        refine if_f (decide_eq_false (by decide +kernel)) ?_
        refine ⟨_, rfl, rd_tup (j := 0) (v := .str (Kd.str .far)) hm rfl rfl ⟨rfl, _, rfl, if_f (decide_eq_false (by decide +kernel)) ?_⟩⟩
        refine ⟨_, rfl, rd_tup (j := 0) (v := .str (Kd.str .far)) hm rfl rfl ⟨rfl, _, rfl, if_t (decide_eq_true rfl) ?_⟩⟩
        refine ⟨_, rfl, _, rfl, _, rfl, rd_sl hw (cut_to h0) fun l1 n1 => ?_⟩
        have hw1 := hw.up n1 (o := .lst ((wd.take p.toNat).map V.int))
        refine ⟨_, rfl, _, rfl, _, _, rfl, rfl, rd_at hw1 e1 i1 ⟨_, rfl, _, rfl, rd_at hw1 e0 i0 ⟨by show 2 ≤ sizeLine; decide, fun l2 n2 => ?_⟩⟩⟩
        have w2 : Wd _ l2 [wd.getD (p.toNat + 1) 0, wd.getD p.toNat 0] := upd_same (H := upd H1 l1 (.lst ((wd.take p.toNat).map V.int))) (a := l2) (o := .lst [.int (wd.getD (p.toNat + 1) 0), .int (wd.getD p.toNat 0)])
        refine rd_cat (Wd.up wd_new n2) w2 (by simp only [List.length_take, List.length_cons, List.length_nil]; omega) fun l3 n3 => ?_
        refine ⟨_, rfl, _, rfl, _, _, rfl, rfl, _, rfl, rd_sl ((hw1.up n2).up n3) c2 fun l4 n4 => ?_⟩
        exact rd_three (H := H) (Wd.up wd_new n4) wd_new (by simp only [List.length_append, List.length_take, List.length_drop, List.length_cons, List.length_nil]; omega) ((((s1.trans (Same.new n1)).trans (Same.new n2)).trans (Same.new n3)).trans (Same.new n4)) kY
      | near =>
        refine if_f (decide_eq_false (by decide +kernel)) ?_
        refine ⟨_, rfl, rd_tup (j := 0) (v := .str (Kd.str .near)) hm rfl rfl ⟨rfl, _, rfl, if_f (decide_eq_false (by decide +kernel)) ?_⟩⟩
        refine ⟨_, rfl, rd_tup (j := 0) (v := .str (Kd.str .near)) hm rfl rfl ⟨rfl, _, rfl, if_f (decide_eq_false (by decide +kernel)) ?_⟩⟩
        refine ⟨_, rfl, _, rfl, _, rfl, rd_sl hw (cut_to h0) fun l1 n1 => ?_⟩
        have hw1 := hw.up n1 (o := .lst ((wd.take p.toNat).map V.int))
        refine ⟨_, rfl, _, rfl, _, _, rfl, rfl, rd_at hw1 e1 i1 ⟨_, rfl, _, rfl, rd_at hw1 e0 i0 ⟨_, rfl, _, rfl, _, _, rfl, rfl, rd_at hw1 e1 i1 ⟨by show 3 ≤ sizeLine; decide, fun l2 n2 => ?_⟩⟩⟩⟩
        have w2 : Wd _ l2 [wd.getD (p.toNat + 1) 0, wd.getD p.toNat 0, wd.getD (p.toNat + 1) 0] := upd_same (H := upd H1 l1 (.lst ((wd.take p.toNat).map V.int))) (a := l2) (o := .lst [.int (wd.getD (p.toNat + 1) 0), .int (wd.getD p.toNat 0), .int (wd.getD (p.toNat + 1) 0)])
        refine rd_cat (Wd.up wd_new n2) w2 (by simp only [List.length_take, List.length_cons, List.length_nil]; omega) fun l3 n3 => ?_
        refine ⟨_, rfl, _, rfl, _, _, rfl, rfl, _, rfl, rd_sl ((hw1.up n2).up n3) c3 fun l4 n4 => ?_⟩
        have z4 := z3 rfl
        exact rd_three (H := H) (Wd.up wd_new n4) wd_new (by simp only [List.length_append, List.length_take, List.length_drop, List.length_cons, List.length_nil]; omega) ((((s1.trans (Same.new n1)).trans (Same.new n2)).trans (Same.new n3)).trans (Same.new n4)) kY
end
end K82
namespace K82
open PySem PySem.Spec PyProof.Rows L2
/-! ### isinstance, len of a tuple -/
structure RIsi (K : PySem.W.Frag) (xs : List V) (H : Hp) (Q : VK) : Prop where
  ex : ∃ (x : V) (a b : String) (r : Bool), xs = [x, .ty b] ∧ TyX K H x (.type a) ∧ kitB a b = some r ∧ Q (.bl r) H
theorem call_isiS {X : Cx} : CallR X (.builtin "isinstance") (RIsi X.K) := by
  intro pins st σ H xs us Q I rl h
  obtain ⟨x, a, b, k, e, ty, hk, q⟩ := h.ex
  exact call_isi pins st σ H xs us Q I rl ⟨x, _, _, _, k, e, .ty b, ty, kit_ty hk, q⟩
theorem rd_isi {K : PySem.W.Frag} {H : Hp} {x : V} {a b : String} {r : Bool} {Q : VK} (ty : TyOf K H x (.type a)) (hk : kitB a b = some r) (q : Q (.bl r) H) : RIsi K [x, .ty b] H Q := ⟨x, a, b, r, rfl, .base ty, hk, q⟩
structure RLenT (xs : List V) (H : Hp) (Q : VK) : Prop where
  ex : ∃ (t : Addr) (ys : List V), xs = [.ref t] ∧ H t = some (.tup ys) ∧ Q (.int (ys.length : Int)) H
theorem call_lenT {X : Cx} : CallR X (.builtin "len") RLenT := by
  intro pins st σ H xs us Q I rl h
  obtain ⟨t, ys, e, ht, q⟩ := h.ex
  exact call_len_seq pins st σ H xs us Q I rl ⟨t, ys, e, .inr (SqT.of ht), q⟩
theorem rd_lenT {H : Hp} {t : Addr} {ys : List V} {Q : VK} (ht : H t = some (.tup ys)) (q : Q (.int (ys.length : Int)) H) : RLenT [V.ref t] H Q := ⟨t, ys, rfl, ht, q⟩
theorem kt_tt : kitB "tuple" "tuple" = some true := by decide +kernel
theorem kt_ss : kitB "str" "str" = some true := by decide +kernel
theorem kt_ii : kitB "int" "int" = some true := by decide +kernel
theorem kt_ib : kitB "int" "bool" = some false := by decide +kernel
theorem kt_li : kitB "list" "int" = some false := by decide +kernel
theorem kt_ls : kitB "list" "str" = some false := by decide +kernel
theorem kt_lt : kitB "list" "tuple" = some false := by decide +kernel
theorem kt_ll : kitB "list" "list" = some true := by decide +kernel
def tailI : Mv → List Int
  | .inn p k => [p, k]
  | .at _ p => [p]
theorem cut_tail (mv : Mv) : cutV (mvV mv) (some 1) none = (tailI mv).map V.int := by cases mv <;> rfl
theorem mv_head (mv : Mv) : ∃ s, (mvV mv)[0]? = some (.str s) := by
  cases mv with
  | inn p k => exact ⟨_, rfl⟩
  | «at» kd p => exact ⟨_, rfl⟩
theorem mv_len (mv : Mv) : 2 ≤ (mvV mv).length := by
  cases mv with
  | inn p k => show 2 ≤ 3; decide
  | «at» kd p => show 2 ≤ 2; decide
theorem mv_notall (mv : Mv) : ¬ (HT.sIx (mvV mv).length 0 (some 1) = 0 ∧ HT.sIx (mvV mv).length (mvV mv).length none = (mvV mv).length) := by
  intro h
  have z := h.1
  have e := HT.sIx_nat (mvV mv).length 0 1
  have l := mv_len mv
  have e2 : HT.sIx (mvV mv).length 0 (some 1) = min 1 (mvV mv).length := e
  omega
section
variable {P : Program} {w : World} {K : PySem.W.Frag} {mg : Str → Option Value} {base : Heap}
/-! ### _law_can(word, n, deed) -/
def spCan : Sp := fun vs H Q _ => ∃ (n : Int) (a m : Addr) (wd : List Int) (mv : Mv), vs = [.ref a, .int n, .ref m] ∧ Wd H a wd ∧ H m = some (.tup (mvV mv)) ∧ (∀ k ∈ wd, ab k < 8) ∧ ∀ H', Same H H' → Q (.bl (canMv n wd mv)) H'
theorem scCan : FnScope ["_law_word", "_law_n", "_law_deed", "_law_x", "_law_p", "_law_here"] ["_law_word", "_law_n", "_law_deed"] (defScope sCan) := ⟨rfl, rfl, rfl, by decide +kernel, rfl, by decide +kernel, by decide +kernel⟩
theorem cal_can (D : At K mg "_law_can" sCan) (B : Blt mg) : Cal P w K mg base CX0 1 "_law_can" ["_law_word", "_law_n", "_law_deed"] spCan := by
  obtain ⟨f, fd, F, g⟩ := D
  refine ⟨f, fd, F.ok scCan (fun vs H Q E h => ?_) (fun cdv A outer s H vs Q E hr h => ?_), g, F.kp, F.binds (ps := ["_law_word", "_law_n", "_law_deed"]) fun _ _ _ _ _ _ us hl => match us, hl with | [_, _, _], _ => rfl⟩
  · obtain ⟨_, _, _, _, _, rfl, _⟩ := h
    rfl
  · obtain ⟨n, a, m, wd, mv, rfl, hw, hm, hb, kQ⟩ := h
    have nd := scCan.nd
    refine ⟨_, (pss_cons (ps_if (PW.pt (pw_or (pt_not (pt_val (pe_callB call_isiS (by rfl) B.isi PyProof.Rows.boot_isinstance (pa_cons (pv 2) (pa_cons (pe_bltn (v := .ty "tuple") (by rfl) B.tuple PyProof.Rows.boot_tuple rfl) pa_nil))))) (pw_or (pt_cmpR op_lt (pe_callB call_lenT (by rfl) B.len boot_len (pa_cons (pv 2) pa_nil)) pe_int (nomark _)) (pw_or1 (pt_not (pt_val (pe_callB call_isiS (by rfl) B.isi PyProof.Rows.boot_isinstance (pa_cons (pe_ix ix_tupI (pv 2) pe_int (fun _ _ => rfl)) (pa_cons (pe_bltn (v := .ty "str") (by rfl) B.str PyProof.Rows.boot_str rfl) pa_nil))))))))) (pss_one (ps_ret pe_bl)) pss_nil)
      (pss_cons (ps_for PassesOwn.never rfl (pi_tup (pe_slice sl_tup (pv 2) (po_some pe_int) po_none)) (pg_name (i := 3) nd rfl (Or.inl rfl)) (pss_one (ps_if (PW.pt (pw_or (pt_not (pt_val (pe_callB call_isiS (by rfl) B.isi PyProof.Rows.boot_isinstance (pa_cons (pv 3) (pa_cons (pe_bltn (v := .ty "int") (by rfl) B.int PyProof.Rows.boot_int rfl) pa_nil))))) (pw_or1 (pt_val (pe_callB call_isiS (by rfl) B.isi PyProof.Rows.boot_isinstance (pa_cons (pv 3) (pa_cons (pe_bltn (v := .ty "bool") (by rfl) B.bool PyProof.Rows.boot_bool rfl) pa_nil))))))) (pss_one (ps_ret pe_bl)) pss_nil)))
      (pss_cons (ps_set (i := 4) nd rfl (Or.inl rfl) (pe_ix ix_tupI (pv 2) pe_int (fun _ _ => rfl)))
      (pss_cons (ps_if (PW.pt (pw_or (pt_cmpR op_lt (pv 4) pe_int (nomark _)) (pw_or1 (pt_cmpR op_gt (pv 4) (pe_callB call_lenI (by rfl) B.len boot_len (pa_cons (pv 0) pa_nil)) (nomark _))))) (pss_one (ps_ret pe_bl)) pss_nil)
      (pss_cons (ps_set (i := 5) nd rfl (Or.inl rfl) (pe_slice sl_int (pv 0) (po_some (pv 4)) (po_some (pe_op op_add (pv 4) pe_int))))
      (pss_cons (ps_if (pt_cmpR op_eq (pe_ix ix_tupI (pv 2) pe_int (fun _ _ => rfl)) pe_str (nomark _)) (pss_one (ps_ret (pe_and (pe_cmpR op_eq (pe_callB call_lenT (by rfl) B.len boot_len (pa_cons (pv 2) pa_nil)) pe_int (nomark _)) (pe_one (pe_chain op_lt op_lt pe_int (pe_callB call_absI (by rfl) B.abs boot_abs (pa_cons (pe_ix ix_tupI (pv 2) pe_int (fun _ _ => rfl)) pa_nil)) (pv 1)))))) pss_nil)
      (pss_cons (ps_if (PW.pt (pw_or (pt_cmpR op_ne (pe_callB call_lenT (by rfl) B.len boot_len (pa_cons (pv 2) pa_nil)) pe_int (nomark _)) (pw_or1 (pt_cmpR op_lt (pe_callB call_lenI (by rfl) B.len boot_len (pa_cons (pv 5) pa_nil)) pe_int (nomark _))))) (pss_one (ps_ret pe_bl)) pss_nil)
      (pss_cons (ps_if (pt_cmpR op_eq (pe_ix ix_tupI (pv 2) pe_int (fun _ _ => rfl)) pe_str (nomark _)) (pss_one (ps_ret (pe_cmpR op_eq (pe_ix ix_int (pv 5) pe_int (fun _ _ => rfl)) (pe_un un_neg (pe_ix ix_int (pv 5) pe_int (fun _ _ => rfl))) (nomark _)))) pss_nil)
      (pss_cons (ps_if (pt_cmpR op_eq (pe_ix ix_tupI (pv 2) pe_int (fun _ _ => rfl)) pe_str (nomark _)) (pss_one (ps_ret (pe_cmpR op_gt (pe_callB call_absI (by rfl) B.abs boot_abs (pa_cons (pe_op op_sub (pe_callB call_absI (by rfl) B.abs boot_abs (pa_cons (pe_ix ix_int (pv 5) pe_int (fun _ _ => rfl)) pa_nil)) (pe_callB call_absI (by rfl) B.abs boot_abs (pa_cons (pe_ix ix_int (pv 5) pe_int (fun _ _ => rfl)) pa_nil))) pa_nil)) pe_int (nomark _)))) pss_nil)
      (pss_cons (ps_if (PW.pt (pw_or (pt_cmpR op_ne (pe_ix ix_tupI (pv 2) pe_int (fun _ _ => rfl)) pe_str (nomark _)) (pw_or1 (pt_cmpR op_lt (pe_callB call_lenI (by rfl) B.len boot_len (pa_cons (pv 5) pa_nil)) pe_int (nomark _))))) (pss_one (ps_ret pe_bl)) pss_nil)
      (pss_one (ps_ret (pe_and (pe_cmpR op_eq (pe_ix ix_int (pv 5) pe_int (fun _ _ => rfl)) (pe_ix ix_int (pv 5) pe_int (fun _ _ => rfl)) (nomark _)) (pe_and (pe_cmpR op_gt (pe_op op_mul (pe_ix ix_int (pv 5) pe_int (fun _ _ => rfl)) (pe_ix ix_int (pv 5) pe_int (fun _ _ => rfl))) pe_int (nomark _)) (pe_one (pe_cmpR op_eq (pe_callB call_absI (by rfl) B.abs boot_abs (pa_cons (pe_op op_sub (pe_ix ix_int (pv 5) pe_int (fun _ _ => rfl)) (pe_ix ix_int (pv 5) pe_int (fun _ _ => rfl))) pa_nil)) pe_int (nomark _))))))))))))))))), ?_⟩
    -- not isinstance(deed, tuple) or len(deed) < 2 or not isinstance(deed[0], str)
    obtain ⟨s0, hs0⟩ := mv_head mv
    refine ⟨_, rfl, rd_isi (.tup hm) kt_tt ⟨_, rfl, iteF ?_⟩⟩
    refine ⟨_, rfl, rd_lenT hm ⟨_, _, rfl, rfl, _, rfl, if_f (decide_eq_false (by have z := mv_len mv; omega)) ?_⟩⟩
    refine ⟨_, rfl, rd_tup (j := 0) hm rfl hs0 (rd_isi (.str s0) kt_ss ⟨_, rfl, iteF ?_⟩)⟩
    -- for x in deed[1:]
    refine ⟨_, rfl, 1, rfl, m, _, rfl, SqT.of hm, mv_notall mv, fun t nt => ?_⟩
    rw [cut_tail]
    have s1 : Same H (upd H t (.tup ((tailI mv).map V.int))) := Same.new nt
    refine ⟨t, rfl, ⟨_, SqT.of upd_same⟩, for_tup (K := K) (a := t) (xs := (tailI mv).map V.int) (fun i σ H' => H' = upd H t (.tup ((tailI mv).map V.int)) ∧ ∃ v, σ = [some (.ref a), some (.int n), some (.ref m), v, none, none]) ⟨rfl, _, rfl⟩
      (fun i σ H' _ ⟨e, _⟩ => by rw [e]; exact SqT.of upd_same) ?_ ?_⟩
    · rintro i y σ H' hi ⟨rfl, v, rfl⟩
      obtain ⟨k, hk, rfl⟩ := item_of hi
      exact ⟨_, rfl, rd_isi (.int k) kt_ii ⟨_, rfl, iteF ⟨_, rfl, rd_isi (.int k) kt_ib ⟨_, rfl, iteF ⟨rfl, _, rfl⟩⟩⟩⟩⟩
    rintro σ H' ⟨e1, v, rfl⟩
    rw [← e1] at s1
    clear e1
    replace hw := Same.wd s1 hw
    replace hm := s1 _ _ hm
    -- p = deed[1]
    refine ⟨_, rfl, rd_tup (j := 1) hm rfl (mv_p mv) ?_⟩
    refine ⟨_, rfl, _, _, rfl, rfl, _, rfl, ?_⟩
    have no : inside wd mv.p = false → Q (.bl false) H' := fun e => by
      have q := kQ H' s1
      rw [canMv_out e] at q
      exact q
    refine iteB (fun c => iteT (no ?_)) (fun c => ?_)
    · have c' := of_decide_eq_true c
      unfold inside
      rw [decide_eq_false (p := 0 ≤ mv.p) (by omega)]
      rfl
    have p0 : 0 ≤ mv.p := by
      have c' := of_decide_eq_false c
      omega
    refine ⟨_, rfl, _, rfl, rd_len hw ⟨_, _, rfl, rfl, _, rfl, ?_⟩⟩
    refine iteB (fun c => no ?_) (fun c => ?_)
    · have c' := of_decide_eq_true c
      unfold inside
      rw [decide_eq_false (p := mv.p ≤ (wd.length : Int)) (by omega), Bool.and_false]
    have p1 : mv.p ≤ (wd.length : Int) := by
      have c' := of_decide_eq_false c
      omega
    have ins : inside wd mv.p = true := inside_iff.mpr ⟨p0, p1⟩
    clear no
    -- here = word[p:p + 3]
    refine ⟨_, rfl, _, rfl, _, rfl, _, rfl, _, _, rfl, rfl, _, rfl, rd_sl hw (cut_here p0) fun l hl => ?_⟩
    have hmem : ∀ k ∈ hereOf wd mv.p, ab k < 8 := fun k hk => hb k (List.mem_of_mem_drop (List.mem_of_mem_take hk))
    have s2 := s1.trans (Same.new hl (o := .lst ((hereOf wd mv.p).map V.int)))
    have hm2 := up_same hm hl (o := .lst ((hereOf wd mv.p).map V.int))
    have hl2 : Wd (upd H' l (.lst ((hereOf wd mv.p).map V.int))) l (hereOf wd mv.p) := wd_new
    have kQ2 := kQ _ s2
    cases mv with
    | inn p k =>
      refine ⟨_, rfl, rd_tup (j := 0) (v := .str "in") hm2 rfl rfl ⟨rfl, _, rfl, if_t (decide_eq_true rfl) ?_⟩⟩
      refine ⟨_, rfl, rd_lenT hm2 ⟨rfl, _, rfl, if_t (decide_eq_true rfl) ?_⟩⟩
      rw [show canMv n wd (.inn p k) = (inside wd p && (decide (0 < ab k) && decide (ab k < n))) from rfl, show inside wd p = true from ins] at kQ2
      refine ⟨_, rfl, rd_tup (j := 2) (v := .int k) hm2 rfl rfl (rd_abs ⟨_, _, rfl, rfl, _, rfl, ?_⟩)⟩
      refine iteB (fun c => ⟨_, rfl, _, _, rfl, rfl, ?_⟩) (fun c => ?_)
      · rw [c] at kQ2
        exact kQ2
      · rw [c] at kQ2
        exact kQ2
    | «at» kd p =>
      have h3 : (hereOf wd p).length ≤ 3 := by
        unfold hereOf
        rw [List.length_take]
        omega
      rw [show canMv n wd (.at kd p) = (inside wd p && decide (moveAt wd p = some kd)) from rfl, show inside wd p = true from ins, Bool.true_and, ← lawKd_eq] at kQ2
      have ep : (Mv.at kd p).p = p := rfl
      rw [ep] at hmem hl2 hm2 kQ2 ⊢
      generalize hereOf wd p = h at hmem hl2 hm2 kQ2 h3
      refine ⟨_, rfl, rd_tup (j := 0) (v := .str (Kd.str kd)) hm2 rfl rfl ⟨rfl, _, rfl, if_f (decide_eq_false fun z => kd_in kd (V.str.inj z)) ?_⟩⟩
      refine ⟨_, rfl, rd_lenT hm2 ⟨rfl, _, rfl, iteF ⟨_, rfl, rd_len hl2 ⟨_, _, rfl, rfl, _, rfl, ?_⟩⟩⟩⟩
      match h, hmem, hl2, hm2, kQ2, h3 with
      | [], hmem, hl2, hm2, kQ2, h3 =>
        refine if_t (by simp) ?_
        cases kd <;> exact kQ2
      | [x], hmem, hl2, hm2, kQ2, h3 =>
        refine if_t (by simp) ?_
        cases kd <;> exact kQ2
      | x :: y :: r, hmem, hl2, hm2, kQ2, h3 =>
        have ix0 : (x :: y :: r)[0]? = some x := rfl
        have ix1 : (x :: y :: r)[1]? = some y := rfl
        refine if_f (decide_eq_false (by simp only [List.length_cons]; omega)) ?_
        refine ⟨_, rfl, rd_tup (j := 0) (v := .str (Kd.str kd)) hm2 rfl rfl ⟨rfl, _, rfl, ?_⟩⟩
        cases kd with
        | out =>
          refine if_t (decide_eq_true rfl) ⟨_, rfl, rd_at hl2 rfl ix0 ⟨_, rfl, rd_at hl2 rfl ix1 ⟨_, rfl, rfl, ?_⟩⟩⟩
          rw [dec_vi]
          exact kQ2
        | far =>
          refine if_f (decide_eq_false (by decide +kernel)) ⟨_, rfl, rd_tup (j := 0) (v := .str (Kd.str .far)) hm2 rfl rfl ⟨rfl, _, rfl, if_t (decide_eq_true rfl) ?_⟩⟩
          exact ⟨_, rfl, rd_at hl2 rfl ix0 (rd_abs ⟨_, rfl, rd_at hl2 rfl ix1 (rd_abs ⟨_, _, rfl, rfl, rd_abs ⟨_, _, rfl, rfl, kQ2⟩⟩)⟩)⟩
        | near =>
          refine if_f (decide_eq_false (by decide +kernel)) ⟨_, rfl, rd_tup (j := 0) (v := .str (Kd.str .near)) hm2 rfl rfl ⟨rfl, _, rfl, if_f (decide_eq_false (by decide +kernel)) ?_⟩⟩
          refine ⟨_, rfl, rd_tup (j := 0) (v := .str (Kd.str .near)) hm2 rfl rfl ⟨rfl, _, rfl, if_f (by decide +kernel) ⟨_, rfl, rd_len hl2 ⟨_, _, rfl, rfl, _, rfl, ?_⟩⟩⟩⟩
          match r, hmem, hl2, hm2, kQ2, h3, ix0, ix1 with
          | [], hmem, hl2, hm2, kQ2, h3, ix0, ix1 => exact if_t (by simp) kQ2
          | z :: r, hmem, hl2, hm2, kQ2, h3, ix0, ix1 =>
            have ix2 : (x :: y :: z :: r)[2]? = some z := rfl
            refine if_f (decide_eq_false (by simp only [List.length_cons]; omega)) ?_
            have kF : ∀ b, nearOk x y z = b → Q (.bl b) _ := fun b e => by
              rw [show lawKd (x :: y :: z :: r) .near = nearOk x y z from rfl, e] at kQ2
              exact kQ2
            refine ⟨_, rfl, rd_at hl2 rfl ix0 ⟨_, rfl, rd_at hl2 rfl ix2 ⟨rfl, _, rfl, ?_⟩⟩⟩
            rw [dec_vi]
            refine iteB (fun c1 => ?_) (fun c1 => kF _ (by unfold nearOk; rw [c1]; rfl))
            refine ⟨_, rfl, rd_at hl2 rfl ix0 ⟨_, rfl, rd_at hl2 rfl ix1 ⟨_, _, rfl, rfl, .inl (ab_mul (hmem x List.mem_cons_self)), _, _, rfl, rfl, _, rfl, ?_⟩⟩⟩
            refine iteB (fun c2 => ?_) (fun c2 => kF _ (by unfold nearOk; rw [c1, c2]; rfl))
            refine ⟨_, rfl, rd_at hl2 rfl ix0 ⟨_, rfl, rd_at hl2 rfl ix1 ⟨_, _, rfl, rfl, rd_abs ⟨rfl, ?_⟩⟩⟩⟩
            rw [dec_vi]
            exact kF _ (by unfold nearOk; rw [c1, c2]; rfl)
end
end K82
namespace K82
open PySem PySem.Spec PyProof.Rows L2
section
variable {P : Program} {w : World} {K : PySem.W.Frag} {mg : Str → Option Value} {base : Heap}
/-! ### _law_number(x) -/
def spNumber : Sp := fun vs H Q _ => ∃ i : Int, vs = [.int i] ∧ Q (.bl true) H
theorem scNumber : FnScope ["_law_x"] ["_law_x"] (defScope sNumber) := ⟨rfl, rfl, rfl, by decide +kernel, rfl, by decide +kernel, by decide +kernel⟩
theorem cal_number (D : At K mg "_law_number" sNumber) (B : Blt mg) : Cal P w K mg base CX0 1 "_law_number" ["_law_x"] spNumber := by
  obtain ⟨f, fd, F, g⟩ := D
  refine ⟨f, fd, F.ok scNumber (fun vs H Q E h => ?_) (fun cdv A outer s H vs Q E hr h => ?_), g, F.kp, F.binds (ps := ["_law_x"]) fun _ _ _ _ _ _ us hl => match us, hl with | [_], _ => rfl⟩
  · obtain ⟨_, rfl, _⟩ := h
    rfl
  · obtain ⟨i, rfl, kQ⟩ := h
    refine ⟨_, (pss_one (ps_ret (pe_and (pe_callB call_isiS (by rfl) B.isi PyProof.Rows.boot_isinstance (pa_cons (pv 0) (pa_cons (pe_bltn (v := .ty "int") (by rfl) B.int PyProof.Rows.boot_int rfl) pa_nil))) (pe_one (pe_not (pe_callB call_isiS (by rfl) B.isi PyProof.Rows.boot_isinstance (pa_cons (pv 0) (pa_cons (pe_bltn (v := .ty "bool") (by rfl) B.bool PyProof.Rows.boot_bool rfl) pa_nil)))))))), ?_⟩
    exact ⟨_, rfl, rd_isi (.int i) kt_ii ⟨_, rfl, iteT ⟨_, rfl, rd_isi (.int i) kt_ib ⟨_, rfl, kQ⟩⟩⟩⟩
/-! ### _law_equal(found, due): of two equal numbers, of two equal words -/
def spEqI : Sp := fun vs H Q _ => ∃ i : Int, vs = [.int i, .int i] ∧ Q (.bl true) H
def spEqW : Sp := fun vs H Q _ => ∃ (a b : Addr) (wd : List Int), vs = [.ref a, .ref b] ∧ Wd H a wd ∧ Wd H b wd ∧ wd.length ≤ 1000 ∧ Q (.bl true) H
theorem scEqual : FnScope ["_law_found", "_law_due_here", "_law_k"] ["_law_found", "_law_due_here"] (defScope sEqual) := ⟨rfl, rfl, rfl, by decide +kernel, rfl, by decide +kernel, by decide +kernel⟩
theorem cal_eqI (D : At K mg "_law_equal" sEqual) (B : Blt mg) (DN : At K mg "_law_number" sNumber) : Cal P w K mg base CX0 2 "_law_equal" ["_law_found", "_law_due_here"] spEqI := by
  obtain ⟨f, fd, F, g⟩ := D
  obtain ⟨fN, fdN, GN, gN, kpN, bN⟩ := cal_number (P := P) (w := w) (base := base) DN B
  refine ⟨f, fd, F.ok scEqual (fun vs H Q E h => ?_) (fun cdv A outer s H vs Q E hr h => ?_), g, F.kp, F.binds (ps := ["_law_found", "_law_due_here"]) fun _ _ _ _ _ _ us hl => match us, hl with | [_, _], _ => rfl⟩
  · obtain ⟨_, rfl, _⟩ := h
    rfl
  · obtain ⟨i, rfl, kQ⟩ := h
    have nd := scEqual.nd
    have hr1 : Room 1 _ := hr
    refine ⟨_, (pss_cons (ps_if (pt_cmp (pc_isN (pv 1))) (pss_one (ps_ret (pe_cmp (pc_isN (pv 0))))) pss_nil)
      (pss_cons (ps_if (pt_val (pe_callB call_isiS (by rfl) B.isi PyProof.Rows.boot_isinstance (pa_cons (pv 1) (pa_cons (pe_bltn (v := .ty "int") (by rfl) B.int PyProof.Rows.boot_int rfl) pa_nil)))) (pss_one (ps_ret (pe_and (pe_call GN hr1 rfl gN kpN bN .nil pass0 (pa_cons (pv 0) pa_nil)) (pe_one (pe_cmpR op_eq (pv 0) (pv 1) (nomark _)))))) pss_nil)
      pss_never)), ?_⟩
    refine ⟨_, rfl, _, rfl, iteF ?_⟩
    refine ⟨_, rfl, rd_isi (.int i) kt_ii ⟨_, rfl, iteT ?_⟩⟩
    exact ⟨_, rfl, i, rfl, _, rfl, iteT ⟨_, rfl, _, rfl, rfl, by rw [decide_eq_true rfl]; exact kQ⟩⟩
theorem cal_eqW (D : At K mg "_law_equal" sEqual) (B : Blt mg) (DN : At K mg "_law_number" sNumber) : Cal P w K mg base CX0 3 "_law_equal" ["_law_found", "_law_due_here"] spEqW := by
  obtain ⟨fE, fdE, GE, gE, kpE, bE⟩ := cal_eqI (P := P) (w := w) (base := base) D B DN
  obtain ⟨fN, fdN, GN, gN, kpN, bN⟩ := cal_number (P := P) (w := w) (base := base) DN B
  obtain ⟨f, fd, F, g⟩ := D
  refine ⟨f, fd, F.ok scEqual (fun vs H Q E h => ?_) (fun cdv A outer s H vs Q E hr h => ?_), g, F.kp, F.binds (ps := ["_law_found", "_law_due_here"]) fun _ _ _ _ _ _ us hl => match us, hl with | [_, _], _ => rfl⟩
  · obtain ⟨_, _, _, rfl, _⟩ := h
    rfl
  · obtain ⟨a, b, wd, rfl, ha, hb, hz, kQ⟩ := h
    have nd := scEqual.nd
    have hr1 : Room 1 _ := hr.mono (by decide)
    refine ⟨_, (pss_cons (ps_if (pt_cmp (pc_isN (pv 1))) (pss_one (ps_ret (pe_cmp (pc_isN (pv 0))))) pss_nil)
      (pss_cons (ps_if (pt_val (pe_callB call_isiS (by rfl) B.isi PyProof.Rows.boot_isinstance (pa_cons (pv 1) (pa_cons (pe_bltn (v := .ty "int") (by rfl) B.int PyProof.Rows.boot_int rfl) pa_nil)))) (pss_one (ps_ret (pe_and (pe_call GN hr1 rfl gN kpN bN .nil pass0 (pa_cons (pv 0) pa_nil)) (pe_one (pe_cmpR op_eq (pv 0) (pv 1) (nomark _)))))) pss_nil)
      (pss_cons (ps_if (pt_val (pe_callB call_isiS (by rfl) B.isi PyProof.Rows.boot_isinstance (pa_cons (pv 1) (pa_cons (pe_bltn (v := .ty "str") (by rfl) B.str PyProof.Rows.boot_str rfl) pa_nil)))) (pss_one (ps_ret (pe_and (pe_callB call_isiS (by rfl) B.isi PyProof.Rows.boot_isinstance (pa_cons (pv 0) (pa_cons (pe_bltn (v := .ty "str") (by rfl) B.str PyProof.Rows.boot_str rfl) pa_nil))) (pe_one (pe_cmpR op_eq (pv 0) (pv 1) (nomark _)))))) pss_nil)
      (pss_cons (ps_if (PW.pt (pw_and (pt_val (pe_callB call_isiS (by rfl) B.isi PyProof.Rows.boot_isinstance (pa_cons (pv 1) (pa_cons (pe_bltn (v := .ty "tuple") (by rfl) B.tuple PyProof.Rows.boot_tuple rfl) pa_nil)))) (pw_and1 (pt_not (pt_val (pe_callB call_isiS (by rfl) B.isi PyProof.Rows.boot_isinstance (pa_cons (pv 0) (pa_cons (pe_bltn (v := .ty "tuple") (by rfl) B.tuple PyProof.Rows.boot_tuple rfl) pa_nil)))))))) (pss_one (ps_ret pe_bl)) pss_nil)
      (pss_cons (ps_if (PW.pt (pw_and (pt_val (pe_callB call_isiS (by rfl) B.isi PyProof.Rows.boot_isinstance (pa_cons (pv 1) (pa_cons (pe_bltn (v := .ty "list") (by rfl) B.list PyProof.Rows.boot_list rfl) pa_nil)))) (pw_and1 (pt_not (pt_val (pe_callB call_isiS (by rfl) B.isi PyProof.Rows.boot_isinstance (pa_cons (pv 0) (pa_cons (pe_bltn (v := .ty "list") (by rfl) B.list PyProof.Rows.boot_list rfl) pa_nil)))))))) (pss_one (ps_ret pe_bl)) pss_nil)
      (pss_cons (ps_if (pt_cmpR op_ne (pe_callB call_lenI (by rfl) B.len boot_len (pa_cons (pv 0) pa_nil)) (pe_callB call_lenI (by rfl) B.len boot_len (pa_cons (pv 1) pa_nil)) (nomark _)) (pss_one (ps_ret pe_bl)) pss_nil)
      (pss_cons (ps_for PassesOwn.never rfl (pi_range1 (by rfl) B.range (pa_cons (pe_callB call_lenI (by rfl) B.len boot_len (pa_cons (pv 1) pa_nil)) pa_nil)) (pg_name (i := 2) nd rfl (Or.inl rfl)) (pss_one (ps_if (pt_not (pt_val (pe_call GE hr rfl gE kpE bE .nil pass0 (pa_cons (pe_ix ix_int (pv 0) (pv 2) (fun _ _ => rfl)) (pa_cons (pe_ix ix_int (pv 1) (pv 2) (fun _ _ => rfl)) pa_nil))))) (pss_one (ps_ret pe_bl)) pss_nil)))
      (pss_one (ps_ret pe_bl))))))))), ?_⟩
    refine ⟨_, rfl, _, rfl, iteF ?_⟩
    refine ⟨_, rfl, rd_isi (.lst hb) kt_li ⟨_, rfl, iteF ?_⟩⟩
    refine ⟨_, rfl, rd_isi (.lst hb) kt_ls ⟨_, rfl, iteF ?_⟩⟩
    refine ⟨_, rfl, rd_isi (.lst hb) kt_lt ⟨_, rfl, iteF (iteF ?_)⟩⟩
    refine ⟨_, rfl, rd_isi (.lst hb) kt_ll ⟨_, rfl, iteT ⟨_, rfl, rd_isi (.lst ha) kt_ll ⟨_, rfl, iteF ?_⟩⟩⟩⟩
    refine ⟨_, rfl, rd_len ha ⟨_, rfl, rd_len hb ⟨rfl, _, rfl, if_f (by rw [decide_eq_true rfl]; rfl) ?_⟩⟩⟩
    have b62 : (wd.length : Int) < 2 ^ 62 := by
      have e : (2 : Int) ^ 62 = 4611686018427387904 := by decide
      omega
    have b0 : -(2 ^ 62) ≤ (wd.length : Int) := by
      have e : (2 : Int) ^ 62 = 4611686018427387904 := by decide
      omega
    refine ⟨_, rfl, rd_len hb ⟨_, rfl, b0, b62, for_range (lo := 0) (n := ((wd.length : Int)).toNat) (fun i σ H' => H' = H ∧ ∃ v, σ = [some (.ref a), some (.ref b), v]) ⟨rfl, _, rfl⟩ ?_ ?_⟩⟩
    · rintro i σ H' hi ⟨rfl, v, rfl⟩
      have hi' : i < wd.length := by simpa using hi
      have e : (0 : Int) + (i : Int) = (i : Int) := by omega
      have at_ := List.getElem?_eq_getElem hi'
      refine ⟨_, rfl, _, rfl, rd_at ha e at_ ⟨_, rfl, _, rfl, rd_at hb e at_ ⟨_, rfl, _, rfl, ?_⟩⟩⟩
      exact iteF ⟨rfl, _, rfl⟩
    · rintro σ H' ⟨rfl, _⟩
      exact kQ
end
end K82
namespace K82
open PySem PySem.Spec PyProof.Rows L2
/-! ### the classes of errors -/
structure Errs (K : PySem.W.Frag) (mg : Str → Option Value) (CB CW CM c1 c2 c3 c4 c5 c6 c7 : Addr) : Prop where
  eW : ErrC K mg "NoWord" CW
  eM : ErrC K mg "NoMove" CM
  gB : mg "BraidError" = some (.ref CB)
  tW : PySem.W.exmOne K (.ref CW) (.ref CB) = some true
  tM : PySem.W.exmOne K (.ref CM) (.ref CB) = some true
  xW : ExcC K CW
  xM : ExcC K CM
  g1 : mg "BadPicture" = some (.ref c1)
  g2 : mg "BadText" = some (.ref c2)
  g3 : mg "NoForm" = some (.ref c3)
  g4 : mg "NoRow" = some (.ref c4)
  g5 : mg "NoString" = some (.ref c5)
  g6 : mg "TooMany" = some (.ref c6)
  g7 : mg "Unlike" = some (.ref c7)
  aW : PySem.W.kitAny K (.ref CW) [.ref c1, .ref c2, .ref c3, .ref c4, .ref c5, .ref c6, .ref c7] = some false
  aM : PySem.W.kitAny K (.ref CM) [.ref c1, .ref c2, .ref c3, .ref c4, .ref c5, .ref c6, .ref c7] = some false
  kWW : PySem.W.kitOne K (.ref CW) (.ref CW) = some true
  kWM : PySem.W.kitOne K (.ref CW) (.ref CM) = some false
  kMW : PySem.W.kitOne K (.ref CM) (.ref CW) = some false
  kMM : PySem.W.kitOne K (.ref CM) (.ref CM) = some true
  kWV : PySem.W.kitOne K (.ref CW) (.type "ValueError") = some true
  kMV : PySem.W.kitOne K (.ref CM) (.type "ValueError") = some true
/-! ### a deed as it is handed on -/
def dkind : Dd → Str
  | .hang _ => "hang"
  | .drop _ => "drop"
  | .go _ => "go"
def PartAt (l : Addr) (H : Hp) : Dd → V → Prop
  | .hang v, x => ∃ a, x = .ref a ∧ Wd H a v ∧ a ≠ l
  | .drop m, x => x = .int m
  | .go mv, x => ∃ t, x = .ref t ∧ H t = some (.tup (mvV mv))
theorem ok_small {n : Int} {w : List Int} (h7 : n ≤ 7) (h : okW n w = true) : ∀ k ∈ w, ab k < 8 := fun k hk => by
  have z := (okW_iff.mp h k hk).2
  omega
section
variable {P : Program} {w : World} {K : PySem.W.Frag} {mg : Str → Option Value} {base : Heap} {C CB CW CM c1 c2 c3 c4 c5 c6 c7 : Addr}
/-! ### _law_refused(loom, kind, part) -/
def spRefused (C : Addr) : Sp := fun vs H Q _ =>
  (∃ m : Int, vs = [.non, .str "loom", .int m] ∧ ¬ (1 ≤ m ∧ m ≤ 7) ∧ ∀ H', Same H H' → Q (.str "word") H') ∨
  (∃ (x dx l : Addr) (n : Int) (ws : List (List Int)) (wd : List Int) (d : Dd) (part : V), vs = [.ref x, .str (dkind d), part] ∧ PartAt l H d part ∧ small d ∧ LoomAt C x dx l n ws wd H ∧ 1 ≤ n ∧ n ≤ 7 ∧ okW n wd = true ∧ wd.length ≤ 100 ∧ ws.length ≤ 900 ∧
    ((okD n wd d = true → ∀ H', Kp x l H H' → LoomAt C x dx l n (ws ++ [wd]) (behind wd d) H' → Q (.str "") H') ∧ (okD n wd d = false → ∀ H', Same H H' → Q (.str (badS d)) H')))
theorem scRefused : FnScope ["_law_loom", "_law_kind", "_law_part", "_law_caught", "e"] ["_law_loom", "_law_kind", "_law_part"] (defScope sRefused) := ⟨rfl, rfl, rfl, by decide +kernel, rfl, by decide +kernel, by decide +kernel⟩
/-- what stands behind the try -/
def t_tail (K : PySem.W.Frag) (CW CM c1 c2 c3 c4 c5 c6 c7 : Addr) : TS :=
  tSeq (tIfS (tB (tIsN (tVar 3))) (tRet (tC (.str ""))) tNext)
  (tSeq (tIfS (tB (tCB (rIsErrT K) (tCons (tVar 3) (tCons (tTup (tCons (tC (.ref c1)) (tCons (tC (.ref c2)) (tCons (tC (.ref c3)) (tCons (tC (.ref c4)) (tCons (tC (.ref c5)) (tCons (tC (.ref c6)) (tCons (tC (.ref c7)) tNil)))))))) tNil)))) (tRet (tC (.str "none"))) tNext)
  (tSeq (tIfS (tAnd (tB (tCB (rIsErr K) (tCons (tVar 3) (tCons (tC (.ref CW)) tNil)))) (tAnd (tNot (tB (tCB (rIsErr K) (tCons (tVar 3) (tCons (tC (.ref CM)) tNil))))) (tB (tCB (rIsErr K) (tCons (tVar 3) (tCons (tC (.ty "ValueError")) tNil)))))) (tRet (tC (.str "word"))) tNext)
  (tSeq (tIfS (tAnd (tB (tCB (rIsErr K) (tCons (tVar 3) (tCons (tC (.ref CM)) tNil)))) (tAnd (tNot (tB (tCB (rIsErr K) (tCons (tVar 3) (tCons (tC (.ref CW)) tNil))))) (tB (tCB (rIsErr K) (tCons (tVar 3) (tCons (tC (.ty "ValueError")) tNil)))))) (tRet (tC (.str "move"))) tNext)
  (tRet (tC (.str "none"))))))
theorem tail_none {D : Ends} {a b c : Option V} {H : Hp} (q : D.rt (.str "") H) : t_tail K CW CM c1 c2 c3 c4 c5 c6 c7 D [a, b, c, some .non, none] H :=
  ⟨_, rfl, _, rfl, iteT q⟩
theorem seven_cls : Paired ClsV [V.ref c1, V.ref c2, V.ref c3, V.ref c4, V.ref c5, V.ref c6, V.ref c7] [Value.ref c1, .ref c2, .ref c3, .ref c4, .ref c5, .ref c6, .ref c7] :=
  .cons (.own _) (.cons (.own _) (.cons (.own _) (.cons (.own _) (.cons (.own _) (.cons (.own _) (.cons (.own _) .nil))))))
theorem tail_word {D : Ends} {a b c : Option V} {e : Addr} {H : Hp} (S : Errs K mg CB CW CM c1 c2 c3 c4 c5 c6 c7) (he : H e = some (ErrO (.ref CW) none e)) (q : ∀ H', Same H H' → D.rt (.str "word") H') :
    t_tail K CW CM c1 c2 c3 c4 c5 c6 c7 D [a, b, c, some (.ref e), none] H := by
  refine ⟨_, rfl, _, rfl, iteF ?_⟩
  refine ⟨_, rfl, by show 7 ≤ sizeLine; decide, fun tp ntp => ?_⟩
  have he2 := up_same he ntp (o := .tup [.ref c1, .ref c2, .ref c3, .ref c4, .ref c5, .ref c6, .ref c7])
  refine ⟨e, CW, tp, _, _, false, rfl, he2, S.xW, upd_same, seven_cls, S.aW, _, rfl, iteF ?_⟩
  refine ⟨_, rfl, e, CW, _, _, true, rfl, he2, S.xW, .own CW, S.kWW, _, rfl, iteT ?_⟩
  refine ⟨_, rfl, e, CW, _, _, false, rfl, he2, S.xW, .own CM, S.kWM, _, rfl, iteT ?_⟩
  refine ⟨_, rfl, e, CW, _, _, true, rfl, he2, S.xW, .ty "ValueError", S.kWV, _, rfl, iteT ?_⟩
  exact q _ (Same.new ntp)
theorem tail_move {D : Ends} {a b c : Option V} {e : Addr} {H : Hp} (S : Errs K mg CB CW CM c1 c2 c3 c4 c5 c6 c7) (he : H e = some (ErrO (.ref CM) none e)) (q : ∀ H', Same H H' → D.rt (.str "move") H') :
    t_tail K CW CM c1 c2 c3 c4 c5 c6 c7 D [a, b, c, some (.ref e), none] H := by
  refine ⟨_, rfl, _, rfl, iteF ?_⟩
  refine ⟨_, rfl, by show 7 ≤ sizeLine; decide, fun tp ntp => ?_⟩
  have he2 := up_same he ntp (o := .tup [.ref c1, .ref c2, .ref c3, .ref c4, .ref c5, .ref c6, .ref c7])
  refine ⟨e, CM, tp, _, _, false, rfl, he2, S.xM, upd_same, seven_cls, S.aM, _, rfl, iteF ?_⟩
  refine ⟨_, rfl, e, CM, _, _, false, rfl, he2, S.xM, .own CW, S.kMW, _, rfl, iteF (iteF ?_)⟩
  refine ⟨_, rfl, e, CM, _, _, true, rfl, he2, S.xM, .own CM, S.kMM, _, rfl, iteT ?_⟩
  refine ⟨_, rfl, e, CM, _, _, false, rfl, he2, S.xM, .own CW, S.kMW, _, rfl, iteT ?_⟩
  refine ⟨_, rfl, e, CM, _, _, true, rfl, he2, S.xM, .ty "ValueError", S.kMV, _, rfl, iteT ?_⟩
  exact q _ (Same.new ntp)
theorem ne_dh : ¬ V.str ("drop" : Str) = V.str ("hang" : Str) := by decide +kernel
theorem ne_gh : ¬ V.str ("go" : Str) = V.str ("hang" : Str) := by decide +kernel
theorem ne_gd : ¬ V.str ("go" : Str) = V.str ("drop" : Str) := by decide +kernel
theorem cal_refused (D : At K mg "_law_refused" sRefused) (B : Blt mg) (L : LoomC K mg C) (S : Errs K mg CB CW CM c1 c2 c3 c4 c5 c6 c7) {fI : Addr} {fdI : FuncData} (M : Mk K C fI) (GI : FnOk P w K mg base (L2.CX P w) 2 fI fdI ["self", "n"] (spInit C CW)) (bI : Binds K fdI ["self", "n"] [])
    (MH : CalM P w K mg base (L2.CX P w) 2 C "hang" ["self", "word"] (spHang C CW)) (MD : CalM P w K mg base (L2.CX P w) 1 C "drop" ["self", "many"] (spDrop C CM)) (MG : CalM P w K mg base (L2.CX P w) 4 C "go" ["self", "move"] (spGo C CM)) :
    Cal P w K mg base CX0 5 "_law_refused" ["_law_loom", "_law_kind", "_law_part"] (spRefused C) := by
  obtain ⟨f, fd, F, g⟩ := D
  obtain ⟨fH, fdH, GH, mH, bH⟩ := MH
  obtain ⟨fD, fdD, GD, mD, bD⟩ := MD
  obtain ⟨fG, fdG, GG, mG, bG⟩ := MG
  refine ⟨f, fd, F.ok scRefused (fun vs H Q E h => ?_) (fun cdv A outer s H vs Q E hr h => ?_), g, F.kp, F.binds (ps := ["_law_loom", "_law_kind", "_law_part"]) fun _ _ _ _ _ _ us hl => match us, hl with | [_, _, _], _ => rfl⟩
  · rcases h with ⟨_, rfl, _⟩ | ⟨_, _, _, _, _, _, _, _, rfl, _⟩ <;> rfl
  · have nd := scRefused.nd
    have hrH : Room 2 _ := hr.mono (by decide)
    have hrD : Room 1 _ := hr.mono (by decide)
    have hrG : Room 4 _ := hr
    have hrI : Room 3 _ := hr.mono (by decide)
    refine ⟨_, (pss_cons (ps_set (i := 3) nd rfl (Or.inl rfl) pe_non)
      (pss_cons (ps_try_keep (i := 4) rfl rfl rfl nd rfl rfl ⟨rfl, by decide, .inl S.gB⟩ (fun W pn xe tk _ => (pss_one (ps_if (pt_cmpR op_eq (pv 1) pe_str (nomark _)) (pss_one (ps_expr (pe_methS (pv 0) L.cl mH GH hrH bH (fun σ => passAt tk σ) (pa_cons (pv 2) pa_nil)))) (pss_one (ps_if (pt_cmpR op_eq (pv 1) pe_str (nomark _)) (pss_one (ps_expr (pe_methS (pv 0) L.cl mD GD hrD bD (fun σ => passAt tk σ) (pa_cons (pv 2) pa_nil)))) (pss_one (ps_if (pt_cmpR op_eq (pv 1) pe_str (nomark _)) (pss_one (ps_expr (pe_methS (pv 0) L.cl mG GG hrG bG (fun σ => passAt tk σ) (pa_cons (pv 2) pa_nil)))) (pss_one (ps_expr (pe_makeS M GI hrI (by rfl) L.g bI (fun σ => passAt tk σ) (pa_cons (pv 2) pa_nil))))))))))) (fun a oe cls d pn hz hf => (pss_one (ps_set (i := 3) nd rfl (Or.inl rfl) (pv 4)))))
      (id (α := PSs _ _ (t_tail K CW CM c1 c2 c3 c4 c5 c6 c7)) (pss_cons (ps_if (pt_cmp (pc_isN (pv 3))) (pss_one (ps_ret pe_str)) pss_nil)
      (pss_cons (ps_if (pt_val (pe_callB call_isErrT (by rfl) B.isi PyProof.Rows.boot_isinstance (pa_cons (pv 3) (pa_cons (pe_tup (pa_cons (pe_glob (v := .ref c1) rfl S.g1 rfl) (pa_cons (pe_glob (v := .ref c2) rfl S.g2 rfl) (pa_cons (pe_glob (v := .ref c3) rfl S.g3 rfl) (pa_cons (pe_glob (v := .ref c4) rfl S.g4 rfl) (pa_cons (pe_glob (v := .ref c5) rfl S.g5 rfl) (pa_cons (pe_glob (v := .ref c6) rfl S.g6 rfl) (pa_cons (pe_glob (v := .ref c7) rfl S.g7 rfl) pa_nil)))))))) pa_nil)))) (pss_one (ps_ret pe_str)) pss_nil)
      (pss_cons (ps_if (PW.pt (pw_and (pt_val (pe_callB call_isErr (by rfl) B.isi PyProof.Rows.boot_isinstance (pa_cons (pv 3) (pa_cons (pe_glob (v := .ref CW) rfl S.eW.g rfl) pa_nil)))) (pw_and (pt_not (pt_val (pe_callB call_isErr (by rfl) B.isi PyProof.Rows.boot_isinstance (pa_cons (pv 3) (pa_cons (pe_glob (v := .ref CM) rfl S.eM.g rfl) pa_nil))))) (pw_and1 (pt_val (pe_callB call_isErr (by rfl) B.isi PyProof.Rows.boot_isinstance (pa_cons (pv 3) (pa_cons (pe_bltn (v := .ty "ValueError") (by rfl) B.verr (by decide +kernel) rfl) pa_nil)))))))) (pss_one (ps_ret pe_str)) pss_nil)
      (pss_cons (ps_if (PW.pt (pw_and (pt_val (pe_callB call_isErr (by rfl) B.isi PyProof.Rows.boot_isinstance (pa_cons (pv 3) (pa_cons (pe_glob (v := .ref CM) rfl S.eM.g rfl) pa_nil)))) (pw_and (pt_not (pt_val (pe_callB call_isErr (by rfl) B.isi PyProof.Rows.boot_isinstance (pa_cons (pv 3) (pa_cons (pe_glob (v := .ref CW) rfl S.eW.g rfl) pa_nil))))) (pw_and1 (pt_val (pe_callB call_isErr (by rfl) B.isi PyProof.Rows.boot_isinstance (pa_cons (pv 3) (pa_cons (pe_bltn (v := .ty "ValueError") (by rfl) B.verr (by decide +kernel) rfl) pa_nil)))))))) (pss_one (ps_ret pe_str)) pss_nil)
      (pss_one (ps_ret pe_str))))))))), ?_⟩
    rcases h with ⟨m, rfl, bad, kQ⟩ | ⟨x, dx, l, n, ws, wd, d, part, rfl, pa, sm, LA, n1, n7, okw, z0, z1, kY, kN⟩
    · -- Loom(m)
      refine ⟨_, rfl, rfl, _, rfl, if_f (decide_eq_false (by decide +kernel)) ⟨_, rfl, rfl, _, rfl, if_f (decide_eq_false (by decide +kernel)) ⟨_, rfl, rfl, _, rfl, if_f (decide_eq_false (by decide +kernel)) ?_⟩⟩⟩
      refine ⟨_, rfl, fun y dy ny ndy ne => ⟨y, dy, m, rfl, upd_same, fun ok => absurd ok bad, fun _ H' s' => ⟨S.tW, fun a na => ⟨_, rfl, ?_⟩⟩⟩⟩
      have s0 : Same H H' := fun b o e => s' b o (by rw [upd_ne (ne_of_none e ny), upd_ne (ne_of_none e ndy)]; exact e)
      exact tail_word S upd_same fun H2 s2 => kQ H2 ((s0.trans (Same.new na)).trans s2)
    · have hb := ok_small n7 okw
      cases d with
      | hang v =>
        obtain ⟨a, rfl, ha, nal⟩ := pa
        have sm' : v.length ≤ 4 := sm
        refine ⟨_, rfl, rfl, _, rfl, if_t (decide_eq_true rfl) ?_⟩
        have LA' := LA
        obtain ⟨h, rs, h1, _⟩ := LA'.ex
        refine ⟨_, rfl, x, dx, _, rfl, h1, lf_no _ _ _ (by decide +kernel) (by decide +kernel) (by decide +kernel), _, rfl, x, dx, l, a, n, ws, wd, v, rfl, LA, ha, nal, n1, n7, z1, by omega, fun e H' k1 L1 => ?_, fun e => ⟨S.tW, fun b nb => ⟨_, rfl, ?_⟩⟩⟩
        · exact tail_none (kY e H' k1 L1)
        · exact tail_word S upd_same fun H2 s2 => kN e H2 ((Same.new nb).trans s2)
      | drop m =>
        cases (show part = .int m from pa)
        refine ⟨_, rfl, rfl, _, rfl, if_f (decide_eq_false ne_dh) ⟨_, rfl, rfl, _, rfl, if_t (decide_eq_true rfl) ?_⟩⟩
        have LA' := LA
        obtain ⟨h, rs, h1, _⟩ := LA'.ex
        refine ⟨_, rfl, x, dx, _, rfl, h1, lf_no _ _ _ (by decide +kernel) (by decide +kernel) (by decide +kernel), _, rfl, x, dx, l, n, m, ws, wd, rfl, LA, z1, fun e H' k1 L1 => ?_, fun e => ⟨S.tM, fun b nb => ⟨_, rfl, ?_⟩⟩⟩
        · exact tail_none (kY e H' k1 L1)
        · exact tail_move S upd_same fun H2 s2 => kN e H2 ((Same.new nb).trans s2)
      | go mv =>
        obtain ⟨t, rfl, ht⟩ := pa
        refine ⟨_, rfl, rfl, _, rfl, if_f (decide_eq_false ne_gh) ⟨_, rfl, rfl, _, rfl, if_f (decide_eq_false ne_gd) ⟨_, rfl, rfl, _, rfl, if_t (decide_eq_true rfl) ?_⟩⟩⟩
        have LA' := LA
        obtain ⟨h, rs, h1, _⟩ := LA'.ex
        refine ⟨_, rfl, x, dx, _, rfl, h1, lf_no _ _ _ (by decide +kernel) (by decide +kernel) (by decide +kernel), _, rfl, x, dx, l, t, n, ws, wd, mv, rfl, LA, ht, hb, z0, z1, fun e H' k1 L1 => ?_, fun e H' s' => ⟨S.tM, fun b nb => ⟨_, rfl, ?_⟩⟩⟩
        · exact tail_none (kY e H' k1 L1)
        · exact tail_move S upd_same fun H2 s2 => kN e H2 ((s'.trans (Same.new nb)).trans s2)
end
end K82
namespace K82
open PySem PySem.Spec PyProof.Rows L2
/-- a deed's part that was made anew since H -/
def PartNew (H H' : Hp) : Dd → V → Prop
  | .hang v, x => ∃ a, x = .ref a ∧ Wd H' a v ∧ H a = none
  | .drop m, x => x = .int m
  | .go mv, x => ∃ t, x = .ref t ∧ H' t = some (.tup (mvV mv))
theorem PartNew.at {H H' H'' : Hp} {d : Dd} {x : V} {l : Addr} {u : HO} (h : PartNew H H' d x) (s : Same H' H'') (hl : H l = some u) : PartAt l H'' d x := by
  cases d with
  | hang v =>
    obtain ⟨a, e, h1, h2⟩ := h
    exact ⟨a, e, s _ _ h1, (ne_of_none hl h2).symm⟩
  | drop m => exact h
  | go mv =>
    obtain ⟨t, e, h1⟩ := h
    exact ⟨t, e, s _ _ h1⟩
/-- seven words in a list of lists -/
theorem seven {H : Hp} {p1 p2 p3 p4 p5 p6 p7 p8 : Addr} {b1 b2 b3 b4 b5 b6 b7 : List Int}
    (m1 : H p1 = none) (m2 : upd H p1 (.lst (b1.map V.int)) p2 = none) (m3 : upd (upd H p1 (.lst (b1.map V.int))) p2 (.lst (b2.map V.int)) p3 = none)
    (m4 : upd (upd (upd H p1 (.lst (b1.map V.int))) p2 (.lst (b2.map V.int))) p3 (.lst (b3.map V.int)) p4 = none)
    (m5 : upd (upd (upd (upd H p1 (.lst (b1.map V.int))) p2 (.lst (b2.map V.int))) p3 (.lst (b3.map V.int))) p4 (.lst (b4.map V.int)) p5 = none)
    (m6 : upd (upd (upd (upd (upd H p1 (.lst (b1.map V.int))) p2 (.lst (b2.map V.int))) p3 (.lst (b3.map V.int))) p4 (.lst (b4.map V.int))) p5 (.lst (b5.map V.int)) p6 = none)
    (m7 : upd (upd (upd (upd (upd (upd H p1 (.lst (b1.map V.int))) p2 (.lst (b2.map V.int))) p3 (.lst (b3.map V.int))) p4 (.lst (b4.map V.int))) p5 (.lst (b5.map V.int))) p6 (.lst (b6.map V.int)) p7 = none)
    (m8 : upd (upd (upd (upd (upd (upd (upd H p1 (.lst (b1.map V.int))) p2 (.lst (b2.map V.int))) p3 (.lst (b3.map V.int))) p4 (.lst (b4.map V.int))) p5 (.lst (b5.map V.int))) p6 (.lst (b6.map V.int))) p7 (.lst (b7.map V.int)) p8 = none)
    (z1 : b1.length ≤ 1) (z2 : b2.length ≤ 1) (z3 : b3.length ≤ 1) (z4 : b4.length ≤ 1) (z5 : b5.length ≤ 1) (z6 : b6.length ≤ 1) (z7 : b7.length ≤ 1) (i : Int) (h0 : 0 ≤ i) (h7 : i < 7) :
    Same H (upd (upd (upd (upd (upd (upd (upd (upd H p1 (.lst (b1.map V.int))) p2 (.lst (b2.map V.int))) p3 (.lst (b3.map V.int))) p4 (.lst (b4.map V.int))) p5 (.lst (b5.map V.int))) p6 (.lst (b6.map V.int))) p7 (.lst (b7.map V.int))) p8 (.lst [.ref p1, .ref p2, .ref p3, .ref p4, .ref p5, .ref p6, .ref p7])) ∧
    ∃ (q : Addr) (b : List Int), Wd (upd (upd (upd (upd (upd (upd (upd (upd H p1 (.lst (b1.map V.int))) p2 (.lst (b2.map V.int))) p3 (.lst (b3.map V.int))) p4 (.lst (b4.map V.int))) p5 (.lst (b5.map V.int))) p6 (.lst (b6.map V.int))) p7 (.lst (b7.map V.int))) p8 (.lst [.ref p1, .ref p2, .ref p3, .ref p4, .ref p5, .ref p6, .ref p7])) q b ∧
      b.length ≤ 1 ∧ atI [V.ref p1, .ref p2, .ref p3, .ref p4, .ref p5, .ref p6, .ref p7] i = some (.ref q) := by
  refine ⟨(((((((Same.new m1).trans (Same.new m2)).trans (Same.new m3)).trans (Same.new m4)).trans (Same.new m5)).trans (Same.new m6)).trans (Same.new m7)).trans (Same.new m8), ?_⟩
  have c : i = 0 ∨ i = 1 ∨ i = 2 ∨ i = 3 ∨ i = 4 ∨ i = 5 ∨ i = 6 := by omega
  rcases c with rfl | rfl | rfl | rfl | rfl | rfl | rfl
  · exact ⟨p1, b1, up_same (up_same (up_same (up_same (up_same (up_same (up_same upd_same m2) m3) m4) m5) m6) m7) m8, z1, rfl⟩
  · exact ⟨p2, b2, up_same (up_same (up_same (up_same (up_same (up_same upd_same m3) m4) m5) m6) m7) m8, z2, rfl⟩
  · exact ⟨p3, b3, up_same (up_same (up_same (up_same (up_same upd_same m4) m5) m6) m7) m8, z3, rfl⟩
  · exact ⟨p4, b4, up_same (up_same (up_same (up_same upd_same m5) m6) m7) m8, z4, rfl⟩
  · exact ⟨p5, b5, up_same (up_same (up_same upd_same m6) m7) m8, z5, rfl⟩
  · exact ⟨p6, b6, up_same (up_same upd_same m7) m8, z6, rfl⟩
  · exact ⟨p7, b7, up_same upd_same m8, z7, rfl⟩
/-- an item of a written word at a rest -/
theorem rest_at {w : List Int} {k : Nat} (hl : w.length = k) (hk : 0 < k) (z : Int) : ∃ x, z % (k : Int) = (((z % (k : Int)).toNat : Nat) : Int) ∧ w[(z % (k : Int)).toNat]? = some x := by
  have h1 := Int.emod_nonneg z (show (k : Int) ≠ 0 by omega)
  have h2 := Int.emod_lt_of_pos z (show (0 : Int) < (k : Int) by omega)
  exact ⟨_, by omega, List.getElem?_eq_getElem (by omega)⟩
section
variable {P : Program} {w : World} {K : PySem.W.Frag} {mg : Str → Option Value} {base : Heap}
def spDeedBy : Sp := fun vs H Q _ => ∃ (a : Addr) (n z far : Int) (wd : List Int), vs = [.int n, .ref a, .int z, .int far] ∧ Wd H a wd ∧
  ∀ H' t d part, Same H H' → H' t = some (.tup [.str (dkind d), part]) → PartNew H H' d part → small d → Q (.ref t) H'
theorem scDeedBy : FnScope ["_law_n", "_law_word", "_law_number_here", "_law_far", "_law_kind", "_law_more", "_law_p", "_law_bad", "_law_spots"] ["_law_n", "_law_word", "_law_number_here", "_law_far"] (defScope sDeedBy) :=
  ⟨rfl, rfl, rfl, by decide +kernel, rfl, by decide +kernel, by decide +kernel⟩
theorem cal_deedBy (D : At K mg "_law_deed_by" sDeedBy) (B : Blt mg) (CR : Cal P w K mg base CX0 3 "_law_drawn" ["_law_cells", "_law_n", "_law_most"] spDrawn) :
    Cal P w K mg base CX0 4 "_law_deed_by" ["_law_n", "_law_word", "_law_number_here", "_law_far"] spDeedBy := by
  obtain ⟨f, fd, F, g⟩ := D
  obtain ⟨fR, fdR, GR, gR, kpR, bR⟩ := CR
  refine ⟨f, fd, F.ok scDeedBy (fun vs H Q E h => ?_) (fun cdv A outer s H vs Q E hr h => ?_), g, F.kp, F.binds (ps := ["_law_n", "_law_word", "_law_number_here", "_law_far"]) fun _ _ _ _ _ _ us hl => match us, hl with | [_, _, _, _], _ => rfl⟩
  · obtain ⟨_, _, _, _, _, rfl, _⟩ := h
    rfl
  · obtain ⟨a, n, z, far, wd, rfl, ha, kQ⟩ := h
    have nd := scDeedBy.nd
    refine ⟨_, (pss_cons (ps_set (i := 4) nd rfl (Or.inl rfl) (pe_op op_mod (pv 2) pe_int))
      (pss_cons (ps_set (i := 2) nd rfl (Or.inl rfl) (pe_op op_fdiv (pv 2) pe_int))
      (pss_cons (ps_if (pt_cmpR op_eq (pv 4) pe_int (nomark _)) (pss_cons (ps_set (i := 5) nd rfl (Or.inl rfl) (pe_call GR hr rfl gR kpR bR .nil pass0 (pa_cons (pe_lst (pa_cons (pv 2) (pa_cons (pe_op op_fdiv (pv 2) pe_int) pa_nil))) (pa_cons (pv 0) (pa_cons pe_int pa_nil)))))
      (pss_cons (ps_set (i := 6) nd rfl (Or.inl rfl) (pe_op op_mod (pe_op op_fdiv (pv 2) pe_int) (pe_op op_add (pe_callB call_lenI (by rfl) B.len boot_len (pa_cons (pv 5) pa_nil)) pe_int)))
      (pss_cons (ps_set (i := 7) nd rfl (Or.inl rfl) (pe_ix ix_list (pe_lst (pa_cons (pe_lst pa_nil) (pa_cons (pe_lst pa_nil) (pa_cons (pe_lst (pa_cons pe_int pa_nil)) (pa_cons (pe_lst (pa_cons (pv 0) pa_nil)) (pa_cons (pe_lst (pa_cons (pe_un un_neg (pv 0)) pa_nil)) (pa_cons (pe_lst (pa_cons (pe_op op_add (pv 0) (pv 3)) pa_nil)) (pa_cons (pe_lst (pa_cons (pe_op op_sub (pe_un un_neg (pv 0)) (pv 3)) pa_nil)) pa_nil)))))))) (pe_op op_mod (pe_op op_fdiv (pv 2) pe_int) pe_int) (fun _ _ => rfl)))
      (pss_one (ps_ret (pe_tup (pa_cons pe_str (pa_cons (pe_op op_catI (pe_op op_catI (pe_slice sl_int (pv 5) po_none (po_some (pv 6))) (pv 7)) (pe_slice sl_int (pv 5) (po_some (pv 6)) po_none)) pa_nil)))))))) pss_nil)
      (pss_cons (ps_if (pt_cmpR op_eq (pv 4) pe_int (nomark _)) (pss_cons (ps_set (i := 8) nd rfl (Or.inl rfl) (pe_lst (pa_cons pe_int (pa_cons (pe_callB call_lenI (by rfl) B.len boot_len (pa_cons (pv 1) pa_nil)) (pa_cons (pe_op op_add (pe_callB call_lenI (by rfl) B.len boot_len (pa_cons (pv 1) pa_nil)) pe_int) (pa_cons (pe_un un_neg pe_int) (pa_cons (pe_op op_add (pe_op op_add (pe_callB call_lenI (by rfl) B.len boot_len (pa_cons (pv 1) pa_nil)) pe_int) (pv 3)) (pa_cons (pe_op op_sub (pe_un un_neg pe_int) (pv 3)) (pa_cons pe_int pa_nil)))))))))
      (pss_one (ps_ret (pe_tup (pa_cons pe_str (pa_cons (pe_ix ix_int (pv 8) (pe_op op_mod (pv 2) pe_int) (fun _ _ => rfl)) pa_nil)))))) pss_nil)
      (pss_cons (ps_set (i := 6) nd rfl (Or.inl rfl) (pe_ix ix_int (pe_lst (pa_cons pe_int (pa_cons (pe_op op_mod (pe_op op_fdiv (pv 2) pe_int) (pe_op op_add (pe_callB call_lenI (by rfl) B.len boot_len (pa_cons (pv 1) pa_nil)) pe_int)) (pa_cons (pe_callB call_lenI (by rfl) B.len boot_len (pa_cons (pv 1) pa_nil)) (pa_cons (pe_un un_neg pe_int) (pa_cons (pe_op op_add (pe_callB call_lenI (by rfl) B.len boot_len (pa_cons (pv 1) pa_nil)) pe_int) (pa_cons (pv 3) (pa_cons (pe_un un_neg (pv 3)) pa_nil)))))))) (pe_op op_mod (pv 2) pe_int) (fun _ _ => rfl)))
      (pss_cons (ps_if (pt_cmpR op_eq (pe_op op_mod (pe_op op_fdiv (pv 2) pe_int) pe_int) pe_int (nomark _)) (pss_one (ps_ret (pe_tup (pa_cons pe_str (pa_cons (pe_tup (pa_cons pe_str (pa_cons (pv 6) (pa_cons (pe_ix ix_int (pe_lst (pa_cons pe_int (pa_cons (pe_un un_neg pe_int) (pa_cons (pe_op op_sub (pv 0) pe_int) (pa_cons (pe_op op_sub pe_int (pv 0)) (pa_cons pe_int (pa_cons (pv 0) (pa_cons (pe_un un_neg (pv 0)) (pa_cons (pe_op op_add (pv 0) (pv 3)) (pa_cons (pe_op op_sub (pe_un un_neg (pv 0)) (pv 3)) pa_nil)))))))))) (pe_op op_mod (pe_op op_fdiv (pv 2) pe_int) pe_int) (fun _ _ => rfl)) pa_nil)))) pa_nil))))) pss_nil)
      (pss_one (ps_ret (pe_tup (pa_cons pe_str (pa_cons (pe_tup (pa_cons (pe_ix ix_list (pe_lst (pa_cons pe_str (pa_cons pe_str (pa_cons pe_str pa_nil)))) (pe_op op_mod (pe_op op_fdiv (pv 2) pe_int) pe_int) (fun _ _ => rfl)) (pa_cons (pv 6) pa_nil))) pa_nil))))))))))), ?_⟩
    refine ⟨_, rfl, _, _, rfl, rfl, (by show (0 : Int) < 3; decide), ?_⟩
    refine ⟨_, rfl, _, _, rfl, rfl, ⟨by decide, by decide⟩, ?_⟩
    refine ⟨_, rfl, rfl, _, rfl, ?_⟩
    refine iteB (fun _ => ?_) (fun _ => ?_)
    · -- hang
      refine ⟨_, rfl, _, rfl, _, _, rfl, rfl, ⟨by decide, by decide⟩, (by show 2 ≤ sizeLine; decide), fun p np => ?_⟩
      refine ⟨_, rfl, p, (z / 3), (z / 3) / 7, n, 3, rfl, upd_same, by decide, fun H1 r u s1 nr hr1 lu => ?_⟩
      have sa : Same H H1 := (Same.new np).trans s1
      refine ⟨_, rfl, _, _, rfl, rfl, ⟨by decide, by decide⟩, _, rfl, rd_len hr1 ⟨_, _, rfl, rfl, _, _, rfl, rfl, (by show (0 : Int) < _; omega), ?_⟩⟩
      have hp0 : 0 ≤ (z / 3) / 3 % ((u.length : Int) + 1) := Int.emod_nonneg _ (by omega)
      refine ⟨Nat.zero_le _, fun p1 m1 => ⟨Nat.zero_le _, fun p2 m2 => ⟨by show 1 ≤ sizeLine; decide, fun p3 m3 => ⟨_, rfl, by show 1 ≤ sizeLine; decide, fun p4 m4 => ⟨_, rfl, _, rfl, by show 1 ≤ sizeLine; decide, fun p5 m5 =>
        ⟨_, rfl, _, rfl, _, _, rfl, rfl, by show 1 ≤ sizeLine; decide, fun p6 m6 => ⟨_, rfl, _, rfl, _, rfl, _, _, rfl, rfl, by show 1 ≤ sizeLine; decide, fun p7 m7 => ⟨by show 7 ≤ sizeLine; decide, fun p8 m8 => ?_⟩⟩⟩⟩⟩⟩⟩⟩
      refine ⟨_, rfl, _, _, rfl, rfl, ⟨by decide, by decide⟩, _, _, rfl, rfl, (by show (0 : Int) < 7; decide), ?_⟩
      obtain ⟨s8, pj, b, hb, lb, hat⟩ := seven (b1 := []) (b2 := []) (b3 := [0]) (b4 := [n]) (b5 := [-n]) (b6 := [n + far]) (b7 := [-n - far]) m1 m2 m3 m4 m5 m6 m7 m8 (by simp) (by simp) (by simp) (by simp) (by simp) (by simp) (by simp) ((z / 3) / 16 % 7) (Int.emod_nonneg _ (by decide)) (Int.emod_lt_of_pos _ (by decide))
      refine ⟨p8, _, _, _, rfl, rfl, SqL.of upd_same, hat, ?_⟩
      have hr8 := s8 _ _ hr1
      refine ⟨_, rfl, _, rfl, _, rfl, rd_sl hr8 (cut_to hp0) fun l1 n1 => ?_⟩
      refine ⟨_, rfl, rd_cat wd_new (Wd.up hb n1) (by rw [List.length_take]; omega) fun l2 n2 => ?_⟩
      refine ⟨_, rfl, _, rfl, _, rfl, rd_sl (up_same (up_same hr8 n1) n2) (cut_from hp0) fun l3 n3 => ?_⟩
      refine rd_cat (Wd.up wd_new n3) wd_new (by rw [List.length_append, List.length_take, List.length_drop]; omega) fun l4 n4 => ?_
      refine ⟨by show 2 ≤ sizeLine; decide, fun t nt => ?_⟩
      have sb := ((sa.trans s8).trans (Same.new n1 (o := .lst ((u.take ((z / 3) / 3 % ((u.length : Int) + 1)).toNat).map V.int)))).trans (Same.new n2 (o := .lst ((u.take ((z / 3) / 3 % ((u.length : Int) + 1)).toNat ++ b).map V.int)))
      have sc := sb.trans (Same.new n3 (o := .lst ((u.drop ((z / 3) / 3 % ((u.length : Int) + 1)).toNat).map V.int)))
      refine kQ _ t (.hang (u.take ((z / 3) / 3 % ((u.length : Int) + 1)).toNat ++ b ++ u.drop ((z / 3) / 3 % ((u.length : Int) + 1)).toNat)) (.ref l4) ((sc.trans (Same.new n4)).trans (Same.new nt)) upd_same ⟨l4, rfl, Wd.up wd_new nt, sc.free n4⟩ ?_
      show (u.take ((z / 3) / 3 % ((u.length : Int) + 1)).toNat ++ b ++ u.drop ((z / 3) / 3 % ((u.length : Int) + 1)).toNat).length ≤ 4
      have lu3 : u.length ≤ 3 := lu
      simp only [List.length_append, List.length_take, List.length_drop]
      omega
    refine ⟨_, rfl, rfl, _, rfl, ?_⟩
    refine iteB (fun _ => ?_) (fun _ => ?_)
    · -- drop
      refine ⟨_, rfl, rd_len ha ⟨_, rfl, rd_len ha ⟨_, _, rfl, rfl, _, rfl, _, rfl, rd_len ha ⟨_, _, rfl, rfl, _, rfl, _, _, rfl, rfl, _, rfl, _, rfl, _, _, rfl, rfl, by show 7 ≤ sizeLine; decide, fun p np => ?_⟩⟩⟩⟩
      obtain ⟨x, e1, e2⟩ := rest_at (w := [0, (wd.length : Int), (wd.length : Int) + 1, -1, (wd.length : Int) + 1 + far, -1 - far, 1]) (k := 7) rfl (by decide) (z / 3)
      refine ⟨_, rfl, _, rfl, _, _, rfl, rfl, (by show (0 : Int) < 7; decide), rd_at (w := [0, (wd.length : Int), (wd.length : Int) + 1, -1, (wd.length : Int) + 1 + far, -1 - far, 1]) upd_same e1 e2 ⟨by show 2 ≤ sizeLine; decide, fun t nt => ?_⟩⟩
      exact kQ _ t (.drop x) (.int x) ((Same.new np).trans (Same.new nt)) upd_same rfl trivial
    -- go
    refine ⟨_, rfl, _, _, rfl, rfl, ⟨by decide, by decide⟩, _, rfl, rd_len ha ⟨_, _, rfl, rfl, _, _, rfl, rfl, (by show (0 : Int) < _; omega), _, rfl, rd_len ha ⟨_, rfl, _, rfl, rd_len ha ⟨_, _, rfl, rfl, _, rfl, _, rfl, _, rfl, by show 7 ≤ sizeLine; decide, fun p np => ?_⟩⟩⟩⟩
    obtain ⟨x, e1, e2⟩ := rest_at (w := [0, (z / 3) / 21 % ((wd.length : Int) + 1), (wd.length : Int), -1, (wd.length : Int) + 1, far, -far]) (k := 7) rfl (by decide) (z / 3)
    refine ⟨_, rfl, _, _, rfl, rfl, (by show (0 : Int) < 7; decide), rd_at (w := [0, (z / 3) / 21 % ((wd.length : Int) + 1), (wd.length : Int), -1, (wd.length : Int) + 1, far, -far]) upd_same e1 e2 ?_⟩
    refine ⟨_, rfl, _, _, rfl, rfl, ⟨by decide, by decide⟩, _, _, rfl, rfl, (by show (0 : Int) < 3; decide), rfl, _, rfl, ?_⟩
    refine iteB (fun _ => ?_) (fun _ => ?_)
    · obtain ⟨k, g1, g2⟩ := rest_at (w := [1, -1, n - 1, 1 - n, 0, n, -n, n + far, -n - far]) (k := 9) rfl (by decide) ((z / 3) / 147)
      refine ⟨_, rfl, _, rfl, _, rfl, _, _, rfl, rfl, _, rfl, _, _, rfl, rfl, _, rfl, _, rfl, _, rfl, _, rfl, _, rfl, _, _, rfl, rfl, _, rfl, _, rfl, _, rfl, _, _, rfl, rfl, by show 9 ≤ sizeLine; decide, fun p2 np2 => ?_⟩
      refine ⟨_, rfl, _, _, rfl, rfl, ⟨by decide, by decide⟩, _, _, rfl, rfl, (by show (0 : Int) < 9; decide), rd_at (w := [1, -1, n - 1, 1 - n, 0, n, -n, n + far, -n - far]) upd_same g1 g2 ⟨by show 3 ≤ sizeLine; decide, fun t1 nt1 => ⟨by show 2 ≤ sizeLine; decide, fun t nt => ?_⟩⟩⟩
      exact kQ _ t (.go (.inn x k)) (.ref t1) ((((Same.new np).trans (Same.new np2)).trans (Same.new nt1)).trans (Same.new nt)) upd_same ⟨t1, rfl, up_same upd_same nt⟩ trivial
    · refine ⟨by show 3 ≤ sizeLine; decide, fun p2 np2 => ?_⟩
      refine ⟨_, rfl, _, _, rfl, rfl, ⟨by decide, by decide⟩, _, _, rfl, rfl, (by show (0 : Int) < 3; decide), ?_⟩
      have c : ∃ kd : Kd, atI [V.str "out", V.str "far", V.str "near"] ((z / 3) / 147 % 3) = some (.str (Kd.str kd)) := by
        have c : (z / 3) / 147 % 3 = 0 ∨ (z / 3) / 147 % 3 = 1 ∨ (z / 3) / 147 % 3 = 2 := by omega
        rcases c with e | e | e
        · exact ⟨.out, by rw [e]; rfl⟩
        · exact ⟨.far, by rw [e]; rfl⟩
        · exact ⟨.near, by rw [e]; rfl⟩
      obtain ⟨kd, hk⟩ := c
      refine ⟨p2, _, _, _, rfl, rfl, SqL.of upd_same, hk, _, rfl, by show 2 ≤ sizeLine; decide, fun t1 nt1 => ⟨by show 2 ≤ sizeLine; decide, fun t nt => ?_⟩⟩
      exact kQ _ t (.go (.at kd x)) (.ref t1) ((((Same.new np).trans (Same.new np2)).trans (Same.new nt1)).trans (Same.new nt)) upd_same ⟨t1, rfl, up_same upd_same nt⟩ trivial
end
end K82
namespace K82
open PySem PySem.Spec PyProof.Rows L2
theorem filter_nil {n : Int} {v : List Int} : decide (v.filter (badC n) = []) = okW n v := by
  unfold okW
  by_cases h : v.filter (badC n) = []
  · rw [decide_eq_true h]
    symm
    rw [List.all_eq_true]
    intro k hk
    have z := List.filter_eq_nil_iff.mp h k hk
    rw [Bool.not_eq_true] at z
    rw [z]
    rfl
  · rw [decide_eq_false h]
    symm
    rw [Bool.eq_false_iff]
    intro e
    apply h
    rw [List.filter_eq_nil_iff]
    intro k hk
    have z := List.all_eq_true.mp e k hk
    rw [Bool.not_eq_true'] at z
    rw [z]
    exact Bool.false_ne_true
theorem str_of {b : Bool} {x : Str} {Q : VK} {H : Hp} (q : Q (.str (if b = true then "" else x)) H) : if b = true then Q (.str "") H else Q (.str x) H := by
  cases b <;> exact q
section
variable {P : Program} {w : World} {K : PySem.W.Frag} {mg : Str → Option Value} {base : Heap} {C CB CW CM c1 c2 c3 c4 c5 c6 c7 : Addr}
/-! ### _law_due(n, word, deed) -/
def spDue : Sp := fun vs H Q _ => ∃ (a t l : Addr) (n : Int) (wd : List Int) (d : Dd) (part : V), vs = [.int n, .ref a, .ref t] ∧ Wd H a wd ∧ H t = some (.tup [.str (dkind d), part]) ∧ PartAt l H d part ∧ (∀ k ∈ wd, ab k < 8) ∧ small d ∧
  ∀ H' due, Same H H' → due = dueS n wd d → Q (.str due) H'
theorem scDue : FnScope ["_law_n", "_law_word", "_law_deed", "_law_k"] ["_law_n", "_law_word", "_law_deed"] (defScope sDue) := ⟨rfl, rfl, rfl, by decide +kernel, rfl, by decide +kernel, by decide +kernel⟩
theorem cal_due (D : At K mg "_law_due" sDue) (B : Blt mg) (DA : At K mg "_law_can" sCan) : Cal P w K mg base CX0 2 "_law_due" ["_law_n", "_law_word", "_law_deed"] spDue := by
  obtain ⟨f, fd, F, g⟩ := D
  obtain ⟨fA, fdA, GA, gA, kpA, bA⟩ := cal_can (P := P) (w := w) (base := base) DA B
  refine ⟨f, fd, F.ok scDue (fun vs H Q E h => ?_) (fun cdv A outer s H vs Q E hr h => ?_), g, F.kp, F.binds (ps := ["_law_n", "_law_word", "_law_deed"]) fun _ _ _ _ _ _ us hl => match us, hl with | [_, _, _], _ => rfl⟩
  · obtain ⟨_, _, _, _, _, _, _, rfl, _⟩ := h
    rfl
  · obtain ⟨a, t, l, n, wd, d, part, rfl, ha, ht, pa, hb, sm, kQ⟩ := h
    have nd := scDue.nd
    have hr1 : Room 1 _ := hr
    refine ⟨_, (pss_cons (ps_if (pt_cmpR op_eq (pe_ix ix_tupI (pv 2) pe_int (fun _ _ => rfl)) pe_str (nomark _)) (pss_one (ps_ret (pe_ifExp (pt_cmpR (op_eqW hr.units) (pe_lc (own := [("_law_k", 3)]) (g := gName 3) rfl nd (pi_list (pe_ix ix_tupI (pv 2) pe_int (fun _ _ => rfl))) (blkOk_by (N := ["_law_n", "_law_word", "_law_deed", "_law_k"]) (sc := defScope sDue) (by decide +kernel)) (fun _ _ _ _ _ => (pg_name (i := 3) nd rfl (Or.inl rfl))) (fun _ _ _ _ _ => (pts_one (PW.pt (pw_or (pt_cmpR op_eq (pv 3) pe_int (nomark _)) (pw_or1 (pt_cmpR op_ge (pe_callB call_absI (by rfl) B.abs boot_abs (pa_cons (pv 3) pa_nil)) (pv 0) (nomark _))))))) (fun _ _ _ _ _ => (pv 3))) (pe_lst pa_nil) (nomark _)) pe_str pe_str))) pss_nil)
      (pss_cons (ps_if (pt_cmpR op_eq (pe_ix ix_tupI (pv 2) pe_int (fun _ _ => rfl)) pe_str (nomark _)) (pss_one (ps_ret (pe_ifExp (pt_chain op_le op_le pe_int (pe_ix ix_tupI (pv 2) pe_int (fun _ _ => rfl)) (pe_callB call_lenI (by rfl) B.len boot_len (pa_cons (pv 1) pa_nil))) pe_str pe_str))) pss_nil)
      (pss_one (ps_ret (pe_ifExp (pt_val (pe_call GA hr1 rfl gA kpA bA .nil pass0 (pa_cons (pv 1) (pa_cons (pv 0) (pa_cons (pe_ix ix_tupI (pv 2) pe_int (fun _ _ => rfl)) pa_nil))))) pe_str pe_str))))), ?_⟩
    cases d with
    | hang v =>
      obtain ⟨b, rfl, hv, _⟩ := pa
      have sm' : v.length ≤ 4 := sm
      refine ⟨_, rfl, rd_tup (j := 0) (v := .str "hang") ht rfl rfl ⟨rfl, _, rfl, if_t (decide_eq_true rfl) ?_⟩⟩
      refine ⟨_, rfl, rd_tup (j := 1) (v := .ref b) ht rfl rfl ⟨b, rfl, ⟨_, SqL.of hv⟩, fun D nD => lc_list (K := K) (a := b) (xs := v.map V.int) (fun i H' => Wd H' D ((v.take i).filter (badC n)) ∧ Same H H') ⟨upd_same, Same.new nD⟩ (fun i H' _ ⟨_, e⟩ => SqL.of (Same.wd e hv)) ?_ ?_⟩⟩
      · rintro i y H' hi ⟨hD, s1⟩
        obtain ⟨k, hk, rfl⟩ := item_of hi
        have more : v.take (i + 1) = v.take i ++ [k] := by
          rw [List.take_add_one, hk]
          rfl
        have yes : badC n k = true → ∃ acc, H' D = some (.lst acc) ∧ acc.length < sizeLine ∧ Wd (upd H' D (.lst (acc ++ [V.int k]))) D ((v.take (i + 1)).filter (badC n)) ∧ Same H (upd H' D (.lst (acc ++ [V.int k]))) := fun hbad => by
          refine ⟨_, hD, ?_, ?_, fun b o e => ?_⟩
          · have z := List.length_filter_le (badC n) (v.take i)
            rw [List.length_map]
            rw [List.length_take] at z
            exact small1000 (by omega)
          · rw [more, List.filter_append, show [k].filter (badC n) = [k] from by simp [hbad]]
            show upd _ _ _ D = _
            rw [upd_same, List.map_append]
            rfl
          · rw [upd_ne (ne_of_none e nD)]
            exact s1 b o e
        have noo : badC n k = false → Wd H' D ((v.take (i + 1)).filter (badC n)) ∧ Same H H' := fun hg => by
          refine ⟨?_, s1⟩
          rw [more, List.filter_append, show [k].filter (badC n) = [] from by simp [hg], List.append_nil]
          exact hD
        refine ⟨rfl, _, rfl, rfl, _, rfl, ?_⟩
        by_cases h0 : k = 0
        · have hbad : badC n k = true := by
            unfold badC
            rw [decide_eq_true h0]
            rfl
          exact if_t (decide_eq_true (by rw [h0])) (iteT ⟨_, rfl, yes hbad⟩)
        · refine if_f (decide_eq_false (fun z => h0 (V.int.inj z))) ?_
          refine ⟨_, rfl, rd_abs ⟨_, rfl, _, _, rfl, rfl, _, rfl, ?_⟩⟩
          have e : decide (n ≤ ab k) = badC n k := by
            unfold badC
            rw [decide_eq_false h0]
            rfl
          rw [e]
          exact iteB (fun hbad => ⟨_, rfl, yes hbad⟩) noo
      · rintro H' ⟨hD, s1⟩
        rw [List.length_map, List.take_length] at hD
        refine ⟨Nat.zero_le _, fun p np => rd_eqW (w := []) (hD.up np) upd_same ⟨_, rfl, ?_⟩⟩
        rw [filter_nil]
        exact str_of (b := okW n v) (kQ _ _ (s1.trans (Same.new np)) rfl)
    | drop m =>
      cases (show part = .int m from pa)
      refine ⟨_, rfl, rd_tup (j := 0) (v := .str "drop") ht rfl rfl ⟨rfl, _, rfl, if_f (decide_eq_false ne_dh) ?_⟩⟩
      refine ⟨_, rfl, rd_tup (j := 0) (v := .str "drop") ht rfl rfl ⟨rfl, _, rfl, if_t (decide_eq_true rfl) ?_⟩⟩
      refine ⟨_, rfl, rd_tup (j := 1) (v := .int m) ht rfl rfl ⟨_, _, rfl, rfl, _, rfl, ?_⟩⟩
      have fin : ∀ b, (decide (0 ≤ m) && decide (m ≤ (wd.length : Int))) = b → if b = true then Q (.str "") H else Q (.str "move") H := fun b e => by
        refine str_of ?_
        have q := kQ H _ (Same.refl H) rfl
        rw [show dueS n wd (.drop m) = (if (decide (0 ≤ m) && decide (m ≤ (wd.length : Int))) = true then ("" : Str) else ("move" : Str)) from rfl, e] at q
        exact q
      refine iteB (fun c => ?_) (fun c => ⟨_, rfl, fin false (by rw [c]; rfl)⟩)
      exact ⟨_, rfl, rd_len ha ⟨_, _, rfl, rfl, _, rfl, fin _ (by rw [c]; rfl)⟩⟩
    | go mv =>
      obtain ⟨tm, rfl, hm⟩ := pa
      refine ⟨_, rfl, rd_tup (j := 0) (v := .str "go") ht rfl rfl ⟨rfl, _, rfl, if_f (decide_eq_false ne_gh) ?_⟩⟩
      refine ⟨_, rfl, rd_tup (j := 0) (v := .str "go") ht rfl rfl ⟨rfl, _, rfl, if_f (decide_eq_false ne_gd) ?_⟩⟩
      refine ⟨_, rfl, _, rfl, _, rfl, rd_tup (j := 1) (v := .ref tm) ht rfl rfl ⟨n, a, tm, wd, mv, rfl, ha, hm, hb, fun H' s' => ⟨_, rfl, ?_⟩⟩⟩
      exact str_of (b := canMv n wd mv) (kQ H' _ s' rfl)
/-! ### _law_behind(word, deed) -/
def spBehind : Sp := fun vs H Q _ => ∃ (a t l : Addr) (n : Int) (wd : List Int) (d : Dd) (part : V), vs = [.ref a, .ref t] ∧ Wd H a wd ∧ H t = some (.tup [.str (dkind d), part]) ∧ PartAt l H d part ∧ wd.length ≤ 100 ∧ small d ∧ okD n wd d = true ∧
  ∀ H' r, Same H H' → H r = none → Wd H' r (behind wd d) → Q (.ref r) H'
theorem scBehind : FnScope ["_law_word", "_law_deed"] ["_law_word", "_law_deed"] (defScope sBehind) := ⟨rfl, rfl, rfl, by decide +kernel, rfl, by decide +kernel, by decide +kernel⟩
theorem cal_behind (D : At K mg "_law_behind" sBehind) (B : Blt mg) (DO : At K mg "_law_done" sDone) : Cal P w K mg base CX0 2 "_law_behind" ["_law_word", "_law_deed"] spBehind := by
  obtain ⟨f, fd, F, g⟩ := D
  obtain ⟨fO, fdO, GO, gO, kpO, bO⟩ := cal_done (P := P) (w := w) (base := base) DO
  refine ⟨f, fd, F.ok scBehind (fun vs H Q E h => ?_) (fun cdv A outer s H vs Q E hr h => ?_), g, F.kp, F.binds (ps := ["_law_word", "_law_deed"]) fun _ _ _ _ _ _ us hl => match us, hl with | [_, _], _ => rfl⟩
  · obtain ⟨_, _, _, _, _, _, _, rfl, _⟩ := h
    rfl
  · obtain ⟨a, t, l, n, wd, d, part, rfl, ha, ht, pa, hz, sm, ok, kQ⟩ := h
    have nd := scBehind.nd
    refine ⟨_, (pss_cons (ps_if (pt_cmpR op_eq (pe_ix ix_tupI (pv 1) pe_int (fun _ _ => rfl)) pe_str (nomark _)) (pss_one (ps_ret (pe_op op_catI (pv 0) (pe_ix ix_tupI (pv 1) pe_int (fun _ _ => rfl))))) pss_nil)
      (pss_cons (ps_if (pt_cmpR op_eq (pe_ix ix_tupI (pv 1) pe_int (fun _ _ => rfl)) pe_str (nomark _)) (pss_one (ps_ret (pe_slice sl_int (pv 0) po_none (po_some (pe_op op_sub (pe_callB call_lenI (by rfl) B.len boot_len (pa_cons (pv 0) pa_nil)) (pe_ix ix_tupI (pv 1) pe_int (fun _ _ => rfl))))))) pss_nil)
      (pss_one (ps_ret (pe_call GO hr rfl gO kpO bO .nil pass0 (pa_cons (pv 0) (pa_cons (pe_ix ix_tupI (pv 1) pe_int (fun _ _ => rfl)) pa_nil))))))), ?_⟩
    cases d with
    | hang v =>
      obtain ⟨b, rfl, hv, _⟩ := pa
      have sm' : v.length ≤ 4 := sm
      refine ⟨_, rfl, rd_tup (j := 0) (v := .str "hang") ht rfl rfl ⟨rfl, _, rfl, if_t (decide_eq_true rfl) ?_⟩⟩
      exact ⟨_, rfl, _, rfl, rd_tup (j := 1) (v := .ref b) ht rfl rfl (rd_cat ha hv (by omega) fun r nr => kQ _ r (Same.new nr) nr wd_new)⟩
    | drop m =>
      cases (show part = .int m from pa)
      have ok' := Bool.and_eq_true_iff.mp (show (decide (0 ≤ m) && decide (m ≤ (wd.length : Int))) = true from ok)
      refine ⟨_, rfl, rd_tup (j := 0) (v := .str "drop") ht rfl rfl ⟨rfl, _, rfl, if_f (decide_eq_false ne_dh) ?_⟩⟩
      refine ⟨_, rfl, rd_tup (j := 0) (v := .str "drop") ht rfl rfl ⟨rfl, _, rfl, if_t (decide_eq_true rfl) ?_⟩⟩
      refine ⟨_, rfl, _, rfl, rd_len ha ⟨_, rfl, rd_tup (j := 1) (v := .int m) ht rfl rfl ⟨_, _, rfl, rfl, _, rfl, ?_⟩⟩⟩
      exact rd_sl ha (take_sub (of_decide_eq_true ok'.1) (of_decide_eq_true ok'.2)) fun r nr => kQ _ r (Same.new nr) nr wd_new
    | go mv =>
      obtain ⟨tm, rfl, hm⟩ := pa
      refine ⟨_, rfl, rd_tup (j := 0) (v := .str "go") ht rfl rfl ⟨rfl, _, rfl, if_f (decide_eq_false ne_gh) ?_⟩⟩
      refine ⟨_, rfl, rd_tup (j := 0) (v := .str "go") ht rfl rfl ⟨rfl, _, rfl, if_f (decide_eq_false ne_gd) ?_⟩⟩
      exact ⟨_, rfl, _, rfl, rd_tup (j := 1) (v := .ref tm) ht rfl rfl ⟨n, a, tm, wd, mv, rfl, ha, hm, hz, ok, kQ⟩⟩
/-! ### _law_made_good(loom, word) -/
def spMadeGood (C : Addr) : Sp := fun vs H Q _ => ∃ (x dx l a : Addr) (n : Int) (ws : List (List Int)) (wd : List Int), vs = [.ref x, .ref a] ∧ LoomAt C x dx l n ws wd H ∧ Wd H a wd ∧ a ≠ l ∧ 2 ≤ n ∧ n ≤ 7 ∧ okW n wd = true ∧ wd.length ≤ 90 ∧ ws.length ≤ 800 ∧
  ∀ H', Kp x l H H' → LoomAt C x dx l n ws wd H' → Q (.bl true) H'
theorem scMadeGood : FnScope ["_law_loom", "_law_word", "_law_many"] ["_law_loom", "_law_word"] (defScope sMadeGood) := ⟨rfl, rfl, rfl, by decide +kernel, rfl, by decide +kernel, by decide +kernel⟩
theorem Kp.wd {x l a : Addr} {H H' : Hp} {w : List Int} (k : Kp x l H H') (h : Wd H a w) (n1 : a ≠ x) (n2 : a ≠ l) : Wd H' a w := k _ _ h n1 n2
theorem LoomAt.far {x dx l a : Addr} {n : Int} {ws : List (List Int)} {wd w : List Int} {H : Hp} (L : LoomAt C x dx l n ws wd H) (h : Wd H a w) : a ≠ x := by
  obtain ⟨_, _, h1, _⟩ := L.ex
  exact wd_ne h h1
theorem LoomAt.there {x dx l : Addr} {n : Int} {ws : List (List Int)} {wd : List Int} {H : Hp} (L : LoomAt C x dx l n ws wd H) : ∃ fs, H x = some (.ins C dx fs) ∧ fs.lookup ("hang" : Str) = none ∧ fs.lookup ("undo" : Str) = none ∧ fs.lookup ("now" : Str) = none := by
  obtain ⟨_, _, h1, _⟩ := L.ex
  exact ⟨_, h1, lf_no _ _ _ (by decide +kernel) (by decide +kernel) (by decide +kernel), lf_no _ _ _ (by decide +kernel) (by decide +kernel) (by decide +kernel), lf_no _ _ _ (by decide +kernel) (by decide +kernel) (by decide +kernel)⟩
theorem ne_str {a b : Str} (h : a = b) : (!decide (V.str a = V.str b)) = false := by rw [h, decide_eq_true rfl]; rfl
theorem cal_madeGood (D : At K mg "_law_made_good" sMadeGood) (B : Blt mg) (L : LoomC K mg C) (CF : Cal P w K mg base CX0 5 "_law_refused" ["_law_loom", "_law_kind", "_law_part"] (spRefused C))
    (MH : CalM P w K mg base (L2.CX P w) 2 C "hang" ["self", "word"] (spHang C CW)) (MU : CalM P w K mg base CX0 1 C "undo" ["self"] (spUndo C)) (MN : CalM P w K mg base CX0 1 C "now" ["self"] (spNow C)) :
    Cal P w K mg base CX0 6 "_law_made_good" ["_law_loom", "_law_word"] (spMadeGood C) := by
  obtain ⟨f, fd, F, g⟩ := D
  obtain ⟨fF, fdF, GF, gF, kpF, bF⟩ := CF
  obtain ⟨fH, fdH, GH, mH, bH⟩ := MH
  obtain ⟨fU, fdU, GU, mU, bU⟩ := MU
  obtain ⟨fN, fdN, GN, mN, bN⟩ := MN
  refine ⟨f, fd, F.ok scMadeGood (fun vs H Q E h => ?_) (fun cdv A outer s H vs Q E hr h => ?_), g, F.kp, F.binds (ps := ["_law_loom", "_law_word"]) fun _ _ _ _ _ _ us hl => match us, hl with | [_, _], _ => rfl⟩
  · obtain ⟨_, _, _, _, _, _, _, rfl, _⟩ := h
    rfl
  · obtain ⟨x, dx, l, a, n, ws, wd, rfl, LA, ha, nal, n2, n7, okw, z0, z1, kQ⟩ := h
    have nd := scMadeGood.nd
    have hr1 : Room 1 _ := hr.mono (by decide)
    have hr2 : Room 2 _ := hr.mono (by decide)
    refine ⟨_, (pss_cons (ps_set (i := 2) nd rfl (Or.inl rfl) (pe_op op_add (pe_callB call_lenI (by rfl) B.len boot_len (pa_cons (pv 1) pa_nil)) pe_int))
      (pss_cons (ps_if (pt_cmpR op_ne (pe_call GF hr rfl gF kpF bF .nil pass0 (pa_cons (pv 0) (pa_cons pe_str (pa_cons (pv 2) pa_nil)))) pe_str (nomark _)) (pss_one (ps_ret pe_bl)) pss_nil)
      (pss_cons (ps_expr (pe_meth (pv 0) L.cl mH GH hr2 bH .nil passL (pa_cons (pe_lst (pa_cons pe_int pa_nil)) pa_nil)))
      (pss_cons (ps_if (PW.pt (pw_or (pt_cmpR op_ne (pe_call GF hr rfl gF kpF bF .nil pass0 (pa_cons (pv 0) (pa_cons pe_str (pa_cons (pv 2) pa_nil)))) pe_str (nomark _)) (pw_or1 (pt_cmpR (op_neW hr.units) (pe_meth0 (pv 0) L.cl mN GN hr1 bN .nil pass0) (pe_lst pa_nil) (nomark _))))) (pss_one (ps_ret pe_bl)) pss_nil)
      (pss_one (ps_ret (pe_and (pe_cmpR op_isBl (pe_meth0 (pv 0) L.cl mU GU hr1 bU .nil pass0) pe_bl (nomark _)) (pe_and (pe_cmpR op_isBl (pe_meth0 (pv 0) L.cl mU GU hr1 bU .nil pass0) pe_bl (nomark _)) (pe_one (pe_cmpR (op_eqW hr.units) (pe_meth0 (pv 0) L.cl mN GN hr1 bN .nil pass0) (pv 1) (nomark _))))))))))), ?_⟩
    have nax := LA.far ha
    have ok1 : okW n [1] = true := by
      rw [okW_iff]
      intro k hk
      have e : k = 1 := by simpa using hk
      subst e
      unfold ab
      exact ⟨by decide, by show (if (1 : Int) < 0 then -1 else 1) < n; rw [if_neg (by decide)]; omega⟩
    have okw1 : okW n (wd ++ [1]) = true := ok_behind (d := .hang [1]) okw ok1
    -- many = len(word) + 1
    refine ⟨_, rfl, rd_len ha ⟨_, _, rfl, rfl, ?_⟩⟩
    -- refused: one more than there are
    refine ⟨_, rfl, _, rfl, .inr ⟨x, dx, l, n, ws, wd, .drop ((wd.length : Int) + 1), _, rfl, rfl, trivial, LA, by omega, n7, okw, by omega, by omega, fun e => ?_, fun _ H1 s1 => ?_⟩⟩
    · have z := of_decide_eq_true (Bool.and_eq_true_iff.mp (show (decide (0 ≤ (wd.length : Int) + 1) && decide ((wd.length : Int) + 1 ≤ (wd.length : Int))) = true from e)).2
      omega
    refine ⟨rfl, _, rfl, if_f (ne_str rfl) ?_⟩
    have LA1 := LA.same s1
    obtain ⟨fs1, hx1, nh1, _, _⟩ := LA1.there
    -- loom.hang([1])
    refine ⟨_, rfl, x, dx, _, rfl, hx1, nh1, Nat.le_of_ble_eq_true rfl, fun p np => ?_⟩
    have s2 : Same H1 (upd H1 p (.lst [.int 1])) := Same.new np
    obtain ⟨_, _, _, hl1, _⟩ := id LA1.ex
    have npl : p ≠ l := (ne_of_none hl1 np).symm
    refine ⟨x, dx, l, p, n, ws, wd, [1], rfl, LA1.same s2, upd_same, npl, by omega, n7, by omega, by simp only [List.length_cons, List.length_nil]; omega, fun _ H2 k2 LA2 => ?_, fun e => by rw [ok1] at e; cases e⟩
    have K2 : Kp x l H H2 := ((Kp.of s1).trans (Kp.of s2)).trans k2
    -- drop(many), done now
    have okd : okD n (wd ++ [1]) (.drop ((wd.length : Int) + 1)) = true := by
      show (decide (0 ≤ (wd.length : Int) + 1) && decide ((wd.length : Int) + 1 ≤ (((wd ++ [1]).length : Nat) : Int))) = true
      rw [decide_eq_true (by omega), decide_eq_true (by rw [List.length_append]; simp)]
      rfl
    refine ⟨_, rfl, _, rfl, .inr ⟨x, dx, l, n, ws ++ [wd], wd ++ [1], .drop ((wd.length : Int) + 1), _, rfl, rfl, trivial, LA2, by omega, n7, okw1, by rw [List.length_append]; simp only [List.length_cons, List.length_nil]; omega, by rw [List.length_append]; simp only [List.length_cons, List.length_nil]; omega, fun _ H3 k3 LA3 => ?_, fun e => by rw [okd] at e; cases e⟩⟩
    have K3 := K2.trans k3
    have e3 : behind (wd ++ [1]) (.drop ((wd.length : Int) + 1)) = [] := by
      show (wd ++ [1]).take ((wd ++ [1]).length - ((wd.length : Int) + 1).toNat) = []
      have e : (wd ++ [1]).length - ((wd.length : Int) + 1).toNat = 0 := by
        rw [List.length_append]
        simp only [List.length_nil, List.length_cons]
        omega
      rw [e]
      rfl
    rw [e3] at LA3
    refine ⟨rfl, _, rfl, if_f (ne_str rfl) ?_⟩
    -- loom.now() != []
    obtain ⟨fs3, hx3, _, nu3, nn3⟩ := LA3.there
    refine ⟨_, rfl, x, dx, _, rfl, hx3, nn3, x, dx, l, n, _, _, rfl, LA3, fun H4 r s4 nr hr4 => ?_⟩
    refine ⟨Nat.zero_le _, fun p4 np4 => rd_neW (w := []) (hr4.up np4) upd_same ⟨_, rfl, if_f (by rw [decide_eq_true rfl]; rfl) ?_⟩⟩
    have s5 : Same H3 (upd H4 p4 (.lst [])) := s4.trans (Same.new np4)
    have LA5 := LA3.same s5
    obtain ⟨fs5, hx5, _, nu5, _⟩ := LA5.there
    -- loom.undo() is True, twice
    refine ⟨_, rfl, x, dx, _, rfl, hx5, nu5, x, dx, l, n, _, _, rfl, LA5, fun e => by simp at e, fun us u e H6 k6 LA6 => ?_⟩
    obtain ⟨e1, e2⟩ := List.append_inj' e rfl
    cases e2
    subst e1
    refine ⟨true, true, rfl, rfl, _, rfl, if_t (decide_eq_true rfl) ?_⟩
    obtain ⟨fs6, hx6, _, nu6, _⟩ := LA6.there
    refine ⟨_, rfl, x, dx, _, rfl, hx6, nu6, x, dx, l, n, _, _, rfl, LA6, fun e => by simp at e, fun us u e H7 k7 LA7 => ?_⟩
    obtain ⟨e1, e2⟩ := List.append_inj' e rfl
    cases e2
    subst e1
    refine ⟨true, true, rfl, rfl, _, rfl, if_t (decide_eq_true rfl) ?_⟩
    -- loom.now() == word
    obtain ⟨fs7, hx7, _, _, nn7⟩ := LA7.there
    have K7 : Kp x l H H7 := ((K3.trans (Kp.of s5)).trans k6).trans k7
    refine ⟨_, rfl, x, dx, _, rfl, hx7, nn7, x, dx, l, n, _, _, rfl, LA7, fun H8 r8 s8 nr8 hr8 => ?_⟩
    refine ⟨_, rfl, rd_eqW hr8 (Same.wd s8 (K7.wd ha nax nal)) ?_⟩
    rw [decide_eq_true rfl]
    exact kQ H8 (K7.trans (Kp.of s8)) (LA7.same s8)
end
end K82
namespace K82
open PySem PySem.Spec PyProof.Rows L2
/-! ### the law's own list of what was -/
def PastAt (q l : Addr) (ps : List (List Int)) (H : Hp) : Prop := ∃ rs : List Addr, H q = some (.lst (rs.map V.ref)) ∧ Wds H rs ps ∧ ∀ r ∈ rs, r ≠ l
theorem wds_mem {H : Hp} {rs : List Addr} {ps : List (List Int)} (h : Wds H rs ps) {r : Addr} (hr : r ∈ rs) : ∃ u, Wd H r u := by
  obtain ⟨i, hi, ei⟩ := List.getElem_of_mem hr
  obtain ⟨u, _, g⟩ := paired_get h (List.getElem?_eq_some_iff.mpr ⟨hi, ei⟩)
  exact ⟨u, g⟩
theorem PastAt.kp {q l x C dx : Addr} {fs : List (Str × V)} {ps : List (List Int)} {H H' : Hp} (P : PastAt q l ps H) (k : Kp x l H H') (hx : H x = some (.ins C dx fs)) (n1 : q ≠ x) (n2 : q ≠ l) : PastAt q l ps H' := by
  obtain ⟨rs, h1, h2, h3⟩ := P
  refine ⟨rs, k _ _ h1 n1 n2, h2.mono fun r hr o e => k r o e ?_ (h3 r hr), h3⟩
  obtain ⟨u, g⟩ := wds_mem h2 hr
  exact wd_ne g hx
theorem PastAt.same {q l : Addr} {ps : List (List Int)} {H H' : Hp} (P : PastAt q l ps H) (s : Same H H') : PastAt q l ps H' := by
  obtain ⟨rs, h1, h2, h3⟩ := P
  exact ⟨rs, s _ _ h1, h2.mono fun r _ o e => s r o e, h3⟩
/-- a list of objects is no word -/
theorem no_word {H : Hp} {q b r : Addr} {rs : List Addr} {u : List Int} (hq : H q = some (.lst (rs.map V.ref))) (hr : r ∈ rs) (hb : Wd H b u) : b ≠ q := by
  intro z
  rw [z] at hb
  have e := hq.symm.trans hb
  have e2 : rs.map V.ref = u.map V.int := by
    have z := Option.some.inj e
    injection z
  have m : V.ref r ∈ u.map V.int := by
    rw [← e2]
    exact List.mem_map.mpr ⟨r, hr, rfl⟩
  obtain ⟨k, _, ek⟩ := List.mem_map.mp m
  cases ek
theorem PastAt.get {q l : Addr} {ps : List (List Int)} {H : Hp} {i : Nat} {u : List Int} (P : PastAt q l ps H) (h : ps[i]? = some u) : ∃ (rs : List Addr) (r : Addr), H q = some (.lst (rs.map V.ref)) ∧ (rs.map V.ref)[i]? = some (.ref r) ∧ Wd H r u ∧ r ≠ l ∧ rs.length = ps.length := by
  obtain ⟨rs, h1, h2, h3⟩ := P
  have hl := wds_len h2
  have hi := (List.getElem?_eq_some_iff.mp h).1
  have hr : rs[i]? = some (rs[i]'(by omega)) := List.getElem?_eq_getElem (by omega)
  obtain ⟨u', e, g⟩ := paired_get h2 hr
  rw [h] at e
  cases e
  exact ⟨rs, _, h1, by rw [List.getElem?_map, hr]; rfl, g, h3 _ (List.getElem_mem _), hl⟩
/-- the last one -/
theorem PastAt.top {q l : Addr} {ps : List (List Int)} {u : List Int} {H : Hp} (P : PastAt q l (ps ++ [u]) H) : ∃ (vs : List V) (r : Addr), H q = some (.lst vs) ∧ atI vs (-1) = some (.ref r) ∧ Wd H r u ∧ r ≠ l := by
  obtain ⟨rs, h1, h2, h3⟩ := P
  obtain ⟨rs0, r, e, _, g⟩ := Wds.last h2
  subst e
  refine ⟨_, r, h1, ?_, g, h3 r (by simp)⟩
  rw [List.map_append]
  exact atI_last _ _
/-- one more -/
theorem PastAt.more {q l : Addr} {ps : List (List Int)} {wd u : List Int} {H : Hp} {r : Addr} (P : PastAt q l (ps ++ [wd]) H) (hr : Wd H r u) (nrl : r ≠ l) :
    ∃ vs : List V, H q = some (.lst vs) ∧ vs.length = ps.length + 1 ∧ PastAt q l (ps ++ [wd] ++ [u]) (upd H q (.lst (vs ++ [.ref r]))) ∧ ∀ b v, Wd H b v → b ≠ q := by
  obtain ⟨rs, h1, h2, h3⟩ := P
  obtain ⟨rs0, r0, e, _, _⟩ := Wds.last h2
  have hm : r0 ∈ rs := by rw [e]; simp
  have far : ∀ b v, Wd H b v → b ≠ q := fun b v hb => no_word h1 hm hb
  refine ⟨_, h1, ?_, ⟨rs ++ [r], ?_, ?_, fun t ht => ?_⟩, far⟩
  · rw [List.length_map, wds_len h2, List.length_append]
    rfl
  · rw [upd_same, List.map_append]
    rfl
  · refine Wds.snoc (h2.mono fun t ht o e => ?_) (hr.off (far _ _ hr))
    obtain ⟨v, g⟩ := wds_mem h2 ht
    rw [upd_ne (far _ _ g)]
    exact e
  · rcases List.mem_append.mp ht with z | z
    · exact h3 t z
    · have e : t = r := by simpa using z
      rw [e]
      exact nrl
theorem LoomAt.past {C x dx l q : Addr} {n : Int} {ws : List (List Int)} {w : List Int} {H : Hp} {o : HO} (L : LoomAt C x dx l n ws w H) (n1 : q ≠ x) (n2 : q ≠ l) (far : ∀ b v, Wd H b v → b ≠ q) : LoomAt C x dx l n ws w (upd H q o) := by
  obtain ⟨h, rs, h1, h2, h3, h4, h5, h6⟩ := L.ex
  refine ⟨h, rs, by rw [upd_ne n1.symm]; exact h1, by rw [upd_ne n2.symm]; exact h2, h3.off (far _ _ h3), h4.mono fun t ht u e => ?_, h5, h6⟩
  obtain ⟨v, g⟩ := wds_mem h4 ht
  rw [upd_ne (far _ _ g)]
  exact e
section
variable {P : Program} {w : World} {K : PySem.W.Frag} {mg : Str → Option Value} {base : Heap} {C CB CW CM c1 c2 c3 c4 c5 c6 c7 : Addr}
/-! ### the test at a turn's end -/
def t_last (K : PySem.W.Frag) (C : Addr) : TS :=
  tIfS (tOr (tNot (tB (tCall spEqW [] E0 (tCons (tMeth C "now" (spNow C) [] E0 (tVar 5) tNil) (tCons (tOp (rIxL K) (tVar 6) (tUn (rU fun i => .int (-i)) (tC (.int 1)))) tNil)))))
    (tAnd (tTest (tOp (rI0 fun i j => .bl (decide (j < i))) (tVar 2) (tC (.int 1)))) (tNot (tB (tCall (spMadeGood C) [] E0 (tCons (tVar 5) (tCons (tOp (rIxL K) (tVar 6) (tUn (rU fun i => .int (-i)) (tC (.int 1)))) tNil)))))))
    (tRet (tC (.bl false))) tNext
theorem last_ok {D : Ends} {σ : L2.St} {H : Hp} {x dx l q : Addr} {n : Int} {ps : List (List Int)} {wd : List Int} (e5 : σ[5]? = some (some (.ref x))) (e6 : σ[6]? = some (some (.ref q))) (e2 : σ[2]? = some (some (.int n)))
    (LA : LoomAt C x dx l n ps wd H) (PA : PastAt q l (ps ++ [wd]) H) (nqx : q ≠ x) (nql : q ≠ l) (n7 : n ≤ 7) (okw : okW n wd = true) (z0 : wd.length ≤ 20) (z1 : ps.length ≤ 100)
    (k : ∀ H', Kp x l H H' → LoomAt C x dx l n ps wd H' → PastAt q l (ps ++ [wd]) H' → D.nx σ H') : t_last K C D σ H := by
  obtain ⟨fs, hx, _, _, nn⟩ := LA.there
  refine ⟨_, e5, x, dx, fs, rfl, hx, nn, x, dx, l, n, ps, wd, rfl, LA, fun H1 r s1 nr hr => ?_⟩
  have PA1 := PA.same s1
  have LA1 := LA.same s1
  obtain ⟨vs, t, g1, g2, g3, g4⟩ := PA1.top
  refine ⟨_, e6, _, rfl, q, vs, _, _, rfl, rfl, SqL.of g1, g2, r, t, wd, rfl, hr, g3, by omega, _, rfl, iteF ?_⟩
  refine ⟨_, e2, _, _, rfl, rfl, _, rfl, iteB (fun c => ?_) (fun c => iteF (k H1 (Kp.of s1) LA1 PA1))⟩
  have n2 : 2 ≤ n := by
    have z := of_decide_eq_true c
    omega
  refine ⟨_, e5, _, e6, _, rfl, q, vs, _, _, rfl, rfl, SqL.of g1, g2, x, dx, l, t, n, ps, wd, rfl, LA1, g3, g4, n2, n7, okw, by omega, by omega, fun H2 k2 LA2 => ⟨_, rfl, iteF ?_⟩⟩
  exact k H2 ((Kp.of s1).trans k2) LA2 (PA1.kp k2 (s1 _ _ hx) nqx nql)
/-! ### a turn's state -/
structure TurnOk (C x dx l q sl : Addr) (n : Int) (cells : List Int) (i : Nat) (ps : List (List Int)) (wd : List Int) (H : Hp) : Prop where
  loom : LoomAt C x dx l n ps wd H
  past : PastAt q l (ps ++ [wd]) H
  slice : Wd H sl cells
  okw : okW n wd = true
  zw : wd.length ≤ 20
  zp : ps.length ≤ i
  zall : ∀ u ∈ ps ++ [wd], u.length ≤ 20
  zero : (ps ++ [wd])[0]? = some []
theorem TurnOk.same {C x dx l q sl : Addr} {n : Int} {cells : List Int} {i : Nat} {ps : List (List Int)} {wd : List Int} {H H' : Hp} (G : TurnOk C x dx l q sl n cells i ps wd H) (s : Same H H') : TurnOk C x dx l q sl n cells i ps wd H' :=
  ⟨G.loom.same s, G.past.same s, Same.wd s G.slice, G.okw, G.zw, G.zp, G.zall, G.zero⟩
theorem TurnOk.next {C x dx l q sl : Addr} {n : Int} {cells : List Int} {i : Nat} {ps : List (List Int)} {wd : List Int} {H : Hp} (G : TurnOk C x dx l q sl n cells i ps wd H) : TurnOk C x dx l q sl n cells (i + 1) ps wd H :=
  ⟨G.loom, G.past, G.slice, G.okw, G.zw, Nat.le_succ_of_le G.zp, G.zall, G.zero⟩
theorem turn_last {D : Ends} {σ : L2.St} {H : Hp} {x dx l q sl : Addr} {n : Int} {cells : List Int} {i : Nat} {ps : List (List Int)} {wd : List Int} (e5 : σ[5]? = some (some (.ref x))) (e6 : σ[6]? = some (some (.ref q))) (e2 : σ[2]? = some (some (.int n)))
    (G : TurnOk C x dx l q sl n cells i ps wd H) (nqx : q ≠ x) (nql : q ≠ l) (nsx : sl ≠ x) (nsl : sl ≠ l) (n7 : n ≤ 7) (hi : i ≤ 100) (k : ∀ H', TurnOk C x dx l q sl n cells i ps wd H' → D.nx σ H') : t_last K C D σ H :=
  last_ok e5 e6 e2 G.loom G.past nqx nql n7 G.okw G.zw (Nat.le_trans G.zp hi) fun H' kp L' P' => k H' ⟨L', P', kp.wd G.slice nsx nsl, G.okw, G.zw, G.zp, G.zall, G.zero⟩
theorem PartAt.kp {C x dx l : Addr} {fs : List (Str × V)} {vs : List V} {d : Dd} {part : V} {H H' : Hp} (pa : PartAt l H d part) (k : Kp x l H H') (hx : H x = some (.ins C dx fs)) (hl : H l = some (.lst vs)) : PartAt l H' d part := by
  cases d with
  | hang v =>
    obtain ⟨a, e, h1, h2⟩ := pa
    exact ⟨a, e, k _ _ h1 (wd_ne h1 hx) h2, h2⟩
  | drop m => exact pa
  | go mv =>
    obtain ⟨t, e, h1⟩ := pa
    exact ⟨t, e, k _ _ h1 (ne_of h1 hx (by intro z; cases z)) (ne_of h1 hl (by intro z; cases z))⟩
theorem PartAt.same {l : Addr} {d : Dd} {part : V} {H H' : Hp} (pa : PartAt l H d part) (s : Same H H') : PartAt l H' d part := by
  cases d with
  | hang v =>
    obtain ⟨a, e, h1, h2⟩ := pa
    exact ⟨a, e, s _ _ h1, h2⟩
  | drop m => exact pa
  | go mv =>
    obtain ⟨t, e, h1⟩ := pa
    exact ⟨t, e, s _ _ h1⟩
/-! ### what a turn does -/
def t_refused (C : Addr) : TE := tCall (spRefused C) [] E0 (tCons (tVar 5) (tCons (tOp RTup (tVar 10) (tC (.int 0))) (tCons (tOp RTup (tVar 10) (tC (.int 1))) tNil)))
def t_inner (K : PySem.W.Frag) (C : Addr) : TS :=
  tSeq (tIfS (tTest (tOp rNe (t_refused C) (tVar 11))) (tRet (tC (.bl false))) tNext)
    (tIfS (tTest (tOp rEq (tVar 11) (tC (.str "")))) (tDrop (tBM K "list" rAppend (tVar 6) (tCons (tCall spBehind [] E0 (tCons (tVar 9) (tCons (tVar 10) tNil))) tNil))) tNext)
theorem word_ne : ¬ ("word" : Str) = "" := by decide +kernel
theorem move_ne : ¬ ("move" : Str) = "" := by decide +kernel
theorem badS_ne (d : Dd) : ¬ badS d = "" := by
  cases d with
  | hang v => exact word_ne
  | drop m => exact move_ne
  | go mv => exact move_ne
theorem dkind_drop {d : Dd} (h : isDrop d = true) : dkind d = "drop" := by
  cases d with
  | hang v => cases h
  | drop m => rfl
  | go mv => cases h
theorem dkind_not {d : Dd} (h : isDrop d = false) : ¬ V.str (dkind d) = V.str ("drop" : Str) := by
  cases d with
  | hang v => exact fun z => ne_dh z.symm
  | drop m => cases h
  | go mv => exact ne_gd
theorem ne_str_t {a b : Str} (h : ¬ a = b) : (!decide (V.str a = V.str b)) = true := by
  rw [decide_eq_false (fun z => h (V.str.inj z))]
  rfl
theorem inner_do {D : Ends} {H : Hp} {x dx l q sl r t : Addr} {n : Int} {cells : List Int} {i : Nat} {ps : List (List Int)} {wd : List Int} {d : Dd} {part : V} {va v1 v2 v3 v4 v7 v8 v12 : Option V} (G : TurnOk C x dx l q sl n cells i ps wd H) (nqx : q ≠ x) (nql : q ≠ l) (nsx : sl ≠ x) (nsl : sl ≠ l) (nsq : sl ≠ q)
    (n1 : 1 ≤ n) (n7 : n ≤ 7) (hi : i ≤ 90) (gr : Wd H r wd) (nrl : r ≠ l) (ht : H t = some (.tup [.str (dkind d), part])) (pa : PartAt l H d part) (sm : small d) (ok : okD n wd d = true) (act : wd.length < 16 ∨ isDrop d = true)
    (k : ∀ H', TurnOk C x dx l q sl n cells (i + 1) (ps ++ [wd]) (behind wd d) H' → D.nx [va, v1, v2, v3, v4, some (.ref x), some (.ref q), v7, v8, some (.ref r), some (.ref t), some (.str ""), v12] H') :
    t_inner K C D [va, v1, v2, v3, v4, some (.ref x), some (.ref q), v7, v8, some (.ref r), some (.ref t), some (.str ""), v12] H := by
  obtain ⟨h0, rs0, hx, hl, _⟩ := id G.loom.ex
  have zp := G.zp
  have zw := G.zw
  refine ⟨_, rfl, _, rfl, rd_tup (j := 0) (v := .str (dkind d)) ht rfl rfl ⟨_, rfl, rd_tup (j := 1) (v := part) ht rfl rfl (.inr ⟨x, dx, l, n, ps, wd, d, part, rfl, pa, sm, G.loom, n1, n7, G.okw, by omega, by omega, fun _ H1 k1 L1 => ?_, fun e => by rw [ok] at e; cases e⟩)⟩⟩
  refine ⟨_, rfl, rfl, _, rfl, if_f (ne_str rfl) ?_⟩
  refine ⟨_, rfl, rfl, _, rfl, if_t (decide_eq_true rfl) ?_⟩
  have gr1 : Wd H1 r wd := k1.wd gr (wd_ne gr hx) nrl
  have ht1 : H1 t = some (.tup [.str (dkind d), part]) := k1 _ _ ht (ne_of ht hx (by intro z; cases z)) (ne_of ht hl (by intro z; cases z))
  have pa1 : PartAt l H1 d part := pa.kp k1 hx hl
  have P1 : PastAt q l (ps ++ [wd]) H1 := G.past.kp k1 hx nqx nql
  have sl1 : Wd H1 sl cells := k1.wd G.slice nsx nsl
  obtain ⟨vs, hq, _⟩ := id P1
  refine ⟨_, rfl, .inl ⟨rfl, _, SqL.of hq⟩, _, rfl, _, rfl, r, t, l, n, wd, d, part, rfl, gr1, ht1, pa1, by omega, sm, ok, fun H2 u s2 nu hu => ?_⟩
  obtain ⟨h1, rs1, hx1, hl1, _⟩ := id L1.ex
  have nul : u ≠ l := (ne_of_none hl1 nu).symm
  obtain ⟨vs2, g1, g2, g3, g4⟩ := (P1.same s2).more hu nul
  refine ⟨q, vs2, .ref u, rfl, rfl, g1, small1000 (by omega), k _ ⟨(L1.same s2).past nqx nql g4, g3, (Same.wd s2 sl1).off nsq, ok_behind G.okw ok, ?_, by rw [List.length_append]; simp only [List.length_cons, List.length_nil]; omega, ?_, ?_⟩⟩
  · rcases act with z | z
    · have e := len_behind sm ok
      omega
    · have e := len_drop (n := n) (w := wd) z
      omega
  · intro v hv
    rcases List.mem_append.mp hv with z | z
    · exact G.zall v z
    · have e : v = behind wd d := by simpa using z
      rw [e]
      rcases act with z | z
      · have e := len_behind sm ok
        omega
      · have e := len_drop (n := n) (w := wd) z
        omega
  · have zero := G.zero
    rw [List.getElem?_append_left (by rw [List.length_append]; simp)]
    exact zero
theorem inner_no {D : Ends} {H : Hp} {x dx l q sl r t : Addr} {n : Int} {cells : List Int} {i : Nat} {ps : List (List Int)} {wd : List Int} {d : Dd} {part : V} {va v1 v2 v3 v4 v7 v8 v12 : Option V} (G : TurnOk C x dx l q sl n cells i ps wd H)
    (n1 : 1 ≤ n) (n7 : n ≤ 7) (hi : i ≤ 90) (ht : H t = some (.tup [.str (dkind d), part])) (pa : PartAt l H d part) (sm : small d) (ok : okD n wd d = false)
    (k : ∀ H', Same H H' → D.nx [va, v1, v2, v3, v4, some (.ref x), some (.ref q), v7, v8, some (.ref r), some (.ref t), some (.str (badS d)), v12] H') :
    t_inner K C D [va, v1, v2, v3, v4, some (.ref x), some (.ref q), v7, v8, some (.ref r), some (.ref t), some (.str (badS d)), v12] H := by
  have zp := G.zp
  have zw := G.zw
  refine ⟨_, rfl, _, rfl, rd_tup (j := 0) (v := .str (dkind d)) ht rfl rfl ⟨_, rfl, rd_tup (j := 1) (v := part) ht rfl rfl (.inr ⟨x, dx, l, n, ps, wd, d, part, rfl, pa, sm, G.loom, n1, n7, G.okw, by omega, by omega, fun e => (by rw [ok] at e; cases e), fun _ H1 s1 => ?_⟩)⟩⟩
  refine ⟨_, rfl, rfl, _, rfl, if_f (ne_str rfl) ?_⟩
  exact ⟨_, rfl, rfl, _, rfl, if_f (decide_eq_false fun z => badS_ne d (V.str.inj z)) (k H1 s1)⟩
/-! ### the law -/
def farOf (z : Int) : Int := 1 + z % (10 : Int) ^ (60 : Int).toNat
theorem farOf_pos (z : Int) : 1 ≤ farOf z := by
  have h := Int.emod_nonneg z (show (10 : Int) ^ (60 : Int).toNat ≠ 0 by decide)
  unfold farOf
  omega
theorem bad_far {far : Int} (h : 1 ≤ far) : ∀ m ∈ [0, 8, -1, 8 + far, -far], ¬ (1 ≤ m ∧ m ≤ 7) := fun m hm z => by
  simp only [List.not_mem_nil, List.mem_cons, or_false] at hm
  rcases hm with e | e | e | e | e <;> omega
def spLaw (K : PySem.W.Frag) : Sp := fun vs H Q _ => ∃ (a : Addr) (ns : List Int), vs = [.ref a] ∧ SqL K H a (ns.map V.int) ∧ ns.length ≤ 63 ∧ ∀ H', Q (.bl true) H'
theorem scLaw : FnScope ["_law_script", "_law_seed", "_law_n", "_law_far", "_law_many", "_law_loom", "_law_past", "_law_k", "_law_cell", "_law_word", "_law_deed", "_law_due_here", "_law_at"] ["_law_script"] (defScope sLaw) :=
  ⟨rfl, rfl, rfl, by decide +kernel, rfl, by decide +kernel, by decide +kernel⟩
theorem ok_law {f : Addr} {fd : FuncData} (F : Fun K "law" "law" sLaw f fd) (B : Blt mg) (L : LoomC K mg C) {fI : Addr} {fdI : FuncData} (M : Mk K C fI) (GI : FnOk P w K mg base (L2.CX P w) 2 fI fdI ["self", "n"] (spInit C CW)) (bI : Binds K fdI ["self", "n"] [])
    (MU : CalM P w K mg base CX0 1 C "undo" ["self"] (spUndo C)) (MN : CalM P w K mg base CX0 1 C "now" ["self"] (spNow C))
    (CK : Cal P w K mg base CX0 1 "_law_cell_at" ["_law_script", "_law_k"] (spCellAt K)) (CS : Cal P w K mg base CX0 1 "_law_strings" ["_law_seed", "_law_least", "_law_most"] spStrings)
    (CF : Cal P w K mg base CX0 5 "_law_refused" ["_law_loom", "_law_kind", "_law_part"] (spRefused C)) (CD : Cal P w K mg base CX0 4 "_law_deed_by" ["_law_n", "_law_word", "_law_number_here", "_law_far"] spDeedBy)
    (CMx : Cal P w K mg base CX0 1 "_law_mix" ["_law_cell", "_law_k", "_law_factor"] spMix) (CY : Cal P w K mg base CX0 2 "_law_due" ["_law_n", "_law_word", "_law_deed"] spDue)
    (CV : Cal P w K mg base CX0 2 "_law_behind" ["_law_word", "_law_deed"] spBehind) (CE : Cal P w K mg base CX0 3 "_law_equal" ["_law_found", "_law_due_here"] spEqW)
    (CZ : Cal P w K mg base CX0 6 "_law_made_good" ["_law_loom", "_law_word"] (spMadeGood C)) : FnOk P w K mg base CX0 7 f fd ["_law_script"] (spLaw K) := by
  obtain ⟨fU, fdU, GU, mU, bU⟩ := MU
  obtain ⟨fN, fdN, GN, mN, bN⟩ := MN
  obtain ⟨fK, fdK, GK, gK, kpK, bK⟩ := CK
  obtain ⟨fS, fdS, GS, gS, kpS, bS⟩ := CS
  obtain ⟨fF, fdF, GF, gF, kpF, bF⟩ := CF
  obtain ⟨fB, fdB, GB, gB, kpB, bB⟩ := CD
  obtain ⟨fM, fdM, GM, gM, kpM, bM⟩ := CMx
  obtain ⟨fY, fdY, GY, gY, kpY, bY⟩ := CY
  obtain ⟨fV, fdV, GV, gV, kpV, bV⟩ := CV
  obtain ⟨fE, fdE, GE, gE, kpE, bE⟩ := CE
  obtain ⟨fZ, fdZ, GZ, gZ, kpZ, bZ⟩ := CZ
  refine F.ok scLaw (fun vs H Q E h => ?_) (fun cdv A outer s H vs Q E hr h => ?_)
  · obtain ⟨_, _, rfl, _⟩ := h
    rfl
  · obtain ⟨a, ns, rfl, hS, hlen, kQ⟩ := h
    have nd := scLaw.nd
    have hr1 : Room 1 _ := hr.mono (by decide)
    have hr2 : Room 2 _ := hr.mono (by decide)
    have hr3 : Room 3 _ := hr.mono (by decide)
    have hr4 : Room 4 _ := hr.mono (by decide)
    have hr5 : Room 5 _ := hr.mono (by decide)
    have hr6 : Room 6 _ := hr
    refine ⟨_, (pss_cons (ps_set (i := 1) nd rfl (Or.inl rfl) (pe_op op_mod (pe_call GK hr1 rfl gK kpK bK .nil pass0 (pa_cons (pv 0) (pa_cons pe_int pa_nil))) pe_int))
      (pss_cons (ps_set (i := 2) nd rfl (Or.inl rfl) (pe_call GS hr1 rfl gS kpS bS .nil pass0 (pa_cons (pv 1) (pa_cons pe_int (pa_cons pe_int pa_nil)))))
      (pss_cons (ps_set (i := 3) nd rfl (Or.inl rfl) (pe_op op_add pe_int (pe_op op_mod (pe_call GK hr1 rfl gK kpK bK .nil pass0 (pa_cons (pv 0) (pa_cons pe_int pa_nil))) (pe_op op_pow pe_int pe_int))))
      (pss_cons (ps_for PassesOwn.never rfl (pi_tup (pe_tup (pa_cons pe_int (pa_cons pe_int (pa_cons (pe_un un_neg pe_int) (pa_cons (pe_op op_add pe_int (pv 3)) (pa_cons (pe_un un_neg (pv 3)) pa_nil))))))) (pg_name (i := 4) nd rfl (Or.inl rfl)) (pss_one (ps_if (pt_cmpR op_ne (pe_call GF hr5 rfl gF kpF bF .nil pass0 (pa_cons pe_non (pa_cons pe_str (pa_cons (pv 4) pa_nil)))) pe_str (nomark _)) (pss_one (ps_ret pe_bl)) pss_nil)))
      (pss_cons (ps_set (i := 5) nd rfl (Or.inl rfl) (pe_make M GI hr3 (by rfl) L.g bI .nil passL (pa_cons (pv 2) pa_nil)))
      (pss_cons (ps_set (i := 6) nd rfl (Or.inl rfl) (pe_lst (pa_cons (pe_lst pa_nil) pa_nil)))
      (pss_cons (ps_for PassesOwn.never rfl (pi_enum (by rfl) B.enum (pa_cons (pe_slice sl_list (pv 0) (po_some pe_int) (po_some pe_int)) pa_nil)) (pg_tup rfl (pgs_cons (pg_name (i := 7) nd rfl (Or.inl rfl)) (pgs_cons (pg_name (i := 8) nd rfl (Or.inl rfl)) pgs_nil))) (pss_cons (ps_set (i := 9) nd rfl (Or.inl rfl) (pe_ix ix_list (pv 6) (pe_un un_neg pe_int) (fun _ _ => rfl)))
      (pss_cons (ps_set (i := 10) nd rfl (Or.inl rfl) (pe_call GB hr4 rfl gB kpB bB .nil pass0 (pa_cons (pv 2) (pa_cons (pv 9) (pa_cons (pe_call GM hr1 rfl gM kpM bM .nil pass0 (pa_cons (pv 8) (pa_cons (pv 7) (pa_cons pe_int pa_nil)))) (pa_cons (pv 3) pa_nil))))))
      (pss_cons (ps_set (i := 11) nd rfl (Or.inl rfl) (pe_call GY hr2 rfl gY kpY bY .nil pass0 (pa_cons (pv 2) (pa_cons (pv 9) (pa_cons (pv 10) pa_nil)))))
      (pss_cons (ps_if (PW.pt (pw_and (pt_cmpR op_ne (pv 11) pe_str (nomark _)) (pw_and1 (pt_cmpR op_ne (pe_call GF hr5 rfl gF kpF bF .nil pass0 (pa_cons (pv 5) (pa_cons (pe_ix ix_tupI (pv 10) pe_int (fun _ _ => rfl)) (pa_cons (pe_ix ix_tupI (pv 10) pe_int (fun _ _ => rfl)) pa_nil)))) (pv 11) (nomark _))))) (pss_one (ps_ret pe_bl)) pss_nil)
      (pss_cons (ps_if (PW.pt (pw_or (pt_cmpR op_ne (pv 11) pe_str (nomark _)) (pw_or (pt_cmpR op_lt (pe_callB call_lenI (by rfl) B.len boot_len (pa_cons (pv 9) pa_nil)) pe_int (nomark _)) (pw_or1 (pt_cmpR op_eq (pe_ix ix_tupI (pv 10) pe_int (fun _ _ => rfl)) pe_str (nomark _)))))) (id (α := PSs _ _ (t_inner K C)) (pss_cons (ps_if (pt_cmpR op_ne (pe_call GF hr5 rfl gF kpF bF .nil pass0 (pa_cons (pv 5) (pa_cons (pe_ix ix_tupI (pv 10) pe_int (fun _ _ => rfl)) (pa_cons (pe_ix ix_tupI (pv 10) pe_int (fun _ _ => rfl)) pa_nil)))) (pv 11) (nomark _)) (pss_one (ps_ret pe_bl)) pss_nil)
      (pss_one (ps_if (pt_cmpR op_eq (pv 11) pe_str (nomark _)) (pss_one (ps_expr (pe_bm PySem.F.plainAttrs_list PySem.F.slot_list_append PySem.F.type_list_append mt_append (pv 6) (pa_cons (pe_call GV hr2 rfl gV kpV bV .nil pass0 (pa_cons (pv 9) (pa_cons (pv 10) pa_nil))) pa_nil)))) pss_nil)))) pss_nil)
      (pss_one (id (α := PS _ _ (t_last K C)) (ps_if (PW.pt (pw_or (pt_not (pt_val (pe_call GE hr3 rfl gE kpE bE .nil pass0 (pa_cons (pe_meth0 (pv 5) L.cl mN GN hr1 bN .nil pass0) (pa_cons (pe_ix ix_list (pv 6) (pe_un un_neg pe_int) (fun _ _ => rfl)) pa_nil))))) (pw_or1 (PW.pt (pw_and (pt_cmpR op_gt (pv 2) pe_int (nomark _)) (pw_and1 (pt_not (pt_val (pe_call GZ hr6 rfl gZ kpZ bZ .nil pass0 (pa_cons (pv 5) (pa_cons (pe_ix ix_list (pv 6) (pe_un un_neg pe_int) (fun _ _ => rfl)) pa_nil))))))))))) (pss_one (ps_ret pe_bl)) pss_nil)))))))))
      (pss_cons (ps_for PassesOwn.never rfl (pi_range3 (by rfl) B.range (pa_cons (pe_op op_sub (pe_callB call_len_seq (by rfl) B.len boot_len (pa_cons (pv 6) pa_nil)) pe_int) (pa_cons pe_int (pa_cons (pe_un un_neg pe_int) pa_nil)))) (pg_name (i := 12) nd rfl (Or.inl rfl)) (pss_one (ps_if (PW.pt (pw_or (pt_not (pt_val (pe_call GE hr3 rfl gE kpE bE .nil pass0 (pa_cons (pe_meth0 (pv 5) L.cl mN GN hr1 bN .nil pass0) (pa_cons (pe_ix ix_list (pv 6) (pv 12) (fun _ _ => rfl)) pa_nil))))) (pw_or1 (pt_cmpR op_notBl (pe_meth0 (pv 5) L.cl mU GU hr1 bU .nil pass0) pe_bl (nomark _))))) (pss_one (ps_ret pe_bl)) pss_nil)))
      (pss_one (ps_ret (pe_and (pe_cmpR (op_eqW hr.units) (pe_meth0 (pv 5) L.cl mN GN hr1 bN .nil pass0) (pe_lst pa_nil) (nomark _)) (pe_one (pe_cmpR op_isBl (pe_meth0 (pv 5) L.cl mU GU hr1 bU .nil pass0) pe_bl (nomark _)))))))))))))), ?_⟩
    -- seed, n, (farOf z1)
    refine ⟨_, rfl, a, ns, 0, rfl, hS, fun z0 => ⟨_, _, rfl, rfl, (by show (0 : Int) < 1000000007; decide), ?_⟩⟩
    refine ⟨_, rfl, _, rfl, fun n n1 n7 => ?_⟩
    refine ⟨_, rfl, a, ns, 1, rfl, hS, fun z1 => ⟨_, _, rfl, rfl, ⟨by decide, by decide, by decide⟩, _, _, rfl, rfl, (by show (0 : Int) < 10 ^ 60; decide), _, _, rfl, rfl, ?_⟩⟩
    -- looms that must be refused
    refine ⟨_, rfl, _, rfl, _, _, rfl, rfl, _, rfl, _, rfl, by show 5 ≤ sizeLine; decide, fun tp ntp => ?_⟩
    have s0 : Same H (upd H tp (.tup [.int 0, .int 8, .int (-1), .int (8 + (farOf z1)), .int (-(farOf z1))])) := Same.new ntp
    have htp : ∀ H', Same (upd H tp (.tup [.int 0, .int 8, .int (-1), .int (8 + (farOf z1)), .int (-(farOf z1))])) H' → H' tp = some (.tup ([0, 8, -1, 8 + (farOf z1), -(farOf z1)].map V.int)) := fun H' s => s _ _ upd_same
    refine ⟨tp, rfl, ⟨_, SqT.of upd_same⟩, for_tup (K := K) (a := tp) (xs := [0, 8, -1, 8 + (farOf z1), -(farOf z1)].map V.int) (fun i σ H' => Same (upd H tp (.tup [.int 0, .int 8, .int (-1), .int (8 + (farOf z1)), .int (-(farOf z1))])) H' ∧ ∃ sd v : Option V, σ = [some (.ref a), sd, some (.int n), some (.int (farOf z1)), v, none, none, none, none, none, none, none, none])
      ⟨Same.refl _, _, _, rfl⟩ (fun i σ H' _ ⟨s, _⟩ => SqT.of (htp H' s)) ?_ ?_⟩
    · rintro i y σ H' hi ⟨s, sd, v, rfl⟩
      obtain ⟨m, hm, rfl⟩ := item_of hi
      refine ⟨_, rfl, .inl ⟨m, rfl, bad_far (farOf_pos z1) m (List.mem_of_getElem? hm), fun H2 s2 => ⟨rfl, _, rfl, if_f (ne_str rfl) ⟨s.trans s2, _, _, rfl⟩⟩⟩⟩
    rintro σ H1 ⟨s1, v1, v4, rfl⟩
    have hS1 : SqL K H1 a (ns.map V.int) := (s0.trans s1).seq hS
    clear htp
    -- loom = Loom(n)
    refine ⟨_, rfl, fun x dx nx ndx ne => ⟨x, dx, n, rfl, upd_same, fun _ H2 l nl keep LA => ⟨rfl, ?_⟩, fun z => absurd ⟨n1, n7⟩ z⟩⟩
    have s2 : Same H1 H2 := fun b o e => keep b o (by rw [upd_ne (ne_of_none e nx), upd_ne (ne_of_none e ndx)]; exact e) (ne_of_none e nx)
    -- past = [[]]
    refine ⟨Nat.zero_le _, fun p np => ⟨by show 1 ≤ sizeLine; decide, fun q nq => ?_⟩⟩
    have s3 : Same H2 (upd (upd H2 p (.lst [])) q (.lst [.ref p])) := (Same.new np).trans (Same.new nq)
    have LA3 := LA.same s3
    obtain ⟨_, _, hx2, hl2, _⟩ := id LA.ex
    have npl : p ≠ l := (ne_of_none hl2 np).symm
    have nqx : q ≠ x := (ne_of_none (Same.new np _ _ hx2) nq).symm
    have nql : q ≠ l := (ne_of_none (Same.new np _ _ hl2) nq).symm
    have PA3 : PastAt q l ([] ++ [[]]) (upd (upd H2 p (.lst [])) q (.lst [.ref p])) :=
      ⟨[p], upd_same, .cons (up_same upd_same nq) .nil, fun r hr => by
        have e : r = p := by simpa using hr
        rw [e]
        exact npl⟩
    have hS3 : SqL K (upd (upd H2 p (.lst [])) q (.lst [.ref p])) a (ns.map V.int) := (s2.trans s3).seq hS1
    generalize upd (upd H2 p (.lst [])) q (.lst [.ref p]) = H3 at s3 LA3 PA3 hS3
    -- for k, cell in enumerate(script[1:40])
    refine ⟨_, rfl, 1, rfl, 40, rfl, a, _, rfl, hS3, fun sl nsl => ?_⟩
    rw [cutV_int]
    have hcl : (cutI ns (some 1) (some 40)).length ≤ 63 := Nat.le_trans (cutI_length _ _ _) hlen
    generalize cutI ns (some 1) (some 40) = cells at hcl
    have s4 : Same H3 (upd H3 sl (.lst (cells.map V.int))) := Same.new nsl
    obtain ⟨_, _, hx3, hl3, _⟩ := id LA3.ex
    have nsx : sl ≠ x := (ne_of_none hx3 nsl).symm
    have nsql : sl ≠ l := (ne_of_none hl3 nsl).symm
    have nsq : sl ≠ q := by
      obtain ⟨_, hq, _⟩ := id PA3
      exact (ne_of_none hq nsl).symm
    have G4 : TurnOk C x dx l q sl n cells 0 [] [] (upd H3 sl (.lst (cells.map V.int))) := ⟨LA3.same s4, PA3.same s4, upd_same, rfl, by simp, by simp, by simp, rfl⟩
    refine ⟨sl, _, rfl, SqL.of upd_same, for_enum (K := K) (a := sl) (xs := cells.map V.int) (fun i σ H' => ∃ (ps : List (List Int)) (wd : List Int) (v7 v8 v9 v10 v11 : Option V),
        σ = [some (.ref a), v1, some (.int n), some (.int (farOf z1)), v4, some (.ref x), some (.ref q), v7, v8, v9, v10, v11, none] ∧ TurnOk C x dx l q sl n cells i ps wd H')
      ⟨[], [], none, none, none, none, none, rfl, G4⟩ (fun i σ H' _ ⟨_, _, _, _, _, _, _, _, G⟩ => SqL.of G.slice) ?_ ?_⟩
    · -- a turn
      rintro i y T σ H5 hi ⟨ps, wd, v7, v8, v9, v10, v11, rfl, G5⟩ nT
      obtain ⟨cell, hc, rfl⟩ := item_of hi
      have hi63 : i < 63 := Nat.lt_of_lt_of_le (List.getElem?_eq_some_iff.mp hc).1 hcl
      refine ⟨T, _, rfl, SqT.of upd_same, rfl, _, _, rfl, _, _, rfl, rfl, ?_⟩
      have G6 := G5.same (Same.new nT (o := .tup [.int (i : Nat), .int cell]))
      generalize upd H5 T (.tup [.int (i : Nat), .int cell]) = H6 at G6
      have okw := G5.okw
      have hb := ok_small n7 okw
      -- word = past[-1]
      obtain ⟨vs, r, g1, g2, g3, g4⟩ := G6.past.top
      refine ⟨_, rfl, _, rfl, q, vs, _, _, rfl, rfl, SqL.of g1, g2, ?_⟩
      -- deed = deed_by(n, word, mix(cell, k, 69621), far)
      refine ⟨_, rfl, _, rfl, _, rfl, _, rfl, cell, i, 69621, rfl, by omega, by omega, by decide, by decide, fun z => ?_⟩
      refine ⟨_, rfl, r, n, z, farOf z1, wd, rfl, g3, fun H7 t d part s7 ht pn sm => ?_⟩
      obtain ⟨_, _, hx6, hl6, _⟩ := id G6.loom.ex
      have G7 := G6.same s7
      have gr7 := Same.wd s7 g3
      have pa7 : PartAt l H7 d part := pn.at (Same.refl _) hl6
      -- due = due(n, word, deed)
      refine ⟨_, rfl, _, rfl, _, rfl, r, t, l, n, wd, d, part, rfl, gr7, ht, pa7, hb, sm, fun H8 due s8 ed => ?_⟩
      have G8 := G7.same s8
      have ht8 := s8 _ _ ht
      have gr8 := Same.wd s8 gr7
      have pa8 : PartAt l H8 d part := PartAt.same pa7 s8
      have zp := G8.zp
      have zw := G8.zw
      by_cases ok : okD n wd d = true
      · have ed2 : due = "" := ed.trans (if_pos ok)
        subst ed2
        refine ⟨_, rfl, rfl, _, rfl, if_f (ne_str rfl) (iteF ?_)⟩
        refine ⟨_, rfl, rfl, _, rfl, if_f (ne_str rfl) ⟨_, rfl, rd_len gr8 ⟨_, _, rfl, rfl, _, rfl, ?_⟩⟩⟩
        refine iteB (fun c => iteT ?_) (fun c => ⟨_, rfl, rd_tup (j := 0) (v := .str (dkind d)) ht8 rfl rfl ⟨rfl, _, rfl, ?_⟩⟩)
        · have c16 := of_decide_eq_true c
          exact inner_do G8 nqx nql nsx nsql nsq n1 n7 (by omega) gr8 g4 ht8 pa8 sm ok (.inl (by omega)) fun H9 G9 => turn_last rfl rfl rfl G9 nqx nql nsx nsql n7 (by omega) fun H10 G10 => ⟨_, _, _, _, _, _, _, rfl, G10⟩
        · cases dr : isDrop d with
          | true =>
            refine if_t (decide_eq_true (by rw [dkind_drop dr])) ?_
            exact inner_do G8 nqx nql nsx nsql nsq n1 n7 (by omega) gr8 g4 ht8 pa8 sm ok (.inr dr) fun H9 G9 => turn_last rfl rfl rfl G9 nqx nql nsx nsql n7 (by omega) fun H10 G10 => ⟨_, _, _, _, _, _, _, rfl, G10⟩
          | false =>
            refine if_f (decide_eq_false (dkind_not dr)) ?_
            exact turn_last rfl rfl rfl G8.next nqx nql nsx nsql n7 (by omega) fun H10 G10 => ⟨_, _, _, _, _, _, _, rfl, G10⟩
      · have ok2 : okD n wd d = false := by
          rw [Bool.not_eq_true] at ok
          exact ok
        have ed2 : due = badS d := ed.trans (if_neg ok)
        subst ed2
        refine ⟨_, rfl, rfl, _, rfl, if_t (ne_str_t (badS_ne d)) ?_⟩
        refine ⟨_, rfl, _, rfl, rd_tup (j := 0) (v := .str (dkind d)) ht8 rfl rfl ⟨_, rfl, rd_tup (j := 1) (v := part) ht8 rfl rfl (.inr ⟨x, dx, l, n, ps, wd, d, part, rfl, pa8, sm, G8.loom, n1, n7, okw, by omega, by omega, fun e => (by rw [ok2] at e; cases e), fun _ H9 s9 => ?_⟩)⟩⟩
        refine ⟨_, rfl, rfl, _, rfl, if_f (ne_str rfl) ?_⟩
        have G9 := G8.same s9
        refine ⟨_, rfl, rfl, _, rfl, if_t (ne_str_t (badS_ne d)) (iteT ?_)⟩
        exact inner_no G9 n1 n7 (by omega) (s9 _ _ ht8) (PartAt.same pa8 s9) sm ok2 fun H10 s10 => turn_last rfl rfl rfl (G9.same s10).next nqx nql nsx nsql n7 (by omega) fun H11 G11 => ⟨_, _, _, _, _, _, _, rfl, G11⟩
    · -- all deeds taken back
      rintro σ H5 ⟨ps, wd, v7, v8, v9, v10, v11, rfl, G5⟩
      have zp : ps.length ≤ 63 := Nat.le_trans G5.zp (by rw [List.length_map]; exact hcl)
      obtain ⟨rs, hq5, hw5, _⟩ := id G5.past
      have lrs : rs.length = ps.length + 1 := by
        rw [wds_len hw5, List.length_append]
        rfl
      have zall := G5.zall
      have zero := G5.zero
      have e62 : (2 : Int) ^ 62 = 4611686018427387904 := by decide
      refine ⟨_, rfl, q, _, rfl, .inl (SqL.of hq5), _, _, rfl, rfl, _, rfl, _, 0, -1, _, rfl, RgC.neg (by rw [List.length_map]; omega) (by rw [List.length_map]; omega) (by omega) (by omega), ?_⟩
      have em : (((rs.map V.ref).length : Int) - 1 - 0).toNat = ps.length := by
        rw [List.length_map]
        omega
      rw [em]
      refine for_rangeC (lo := ((rs.map V.ref).length : Int) - 1) (c := -1) (n := ps.length) (fun i σ H' => ∃ (u : List Int) (v12 : Option V), σ = [some (.ref a), v1, some (.int n), some (.int (farOf z1)), v4, some (.ref x), some (.ref q), v7, v8, v9, v10, v11, v12] ∧
        i ≤ ps.length ∧ (ps ++ [wd])[ps.length - i]? = some u ∧ LoomAt C x dx l n ((ps ++ [wd]).take (ps.length - i)) u H' ∧ PastAt q l (ps ++ [wd]) H') ?_ ?_ ?_
      · refine ⟨wd, none, rfl, Nat.zero_le _, by simp, ?_, G5.past⟩
        rw [Nat.sub_zero, List.take_left]
        exact G5.loom
      · rintro i σ H6 hi ⟨u, v12, rfl, _, hu, LA6, PA6⟩
        obtain ⟨fs, hx6, _, nu6, nn6⟩ := LA6.there
        have zu : u.length ≤ 20 := zall u (List.mem_of_getElem? hu)
        -- loom.now() against past[at]
        refine ⟨_, rfl, x, dx, fs, rfl, hx6, nn6, x, dx, l, n, _, u, rfl, LA6, fun H7 r s7 nr hr7 => ?_⟩
        obtain ⟨rs7, r7, q1, q2, q3, q4, q5⟩ := (PA6.same s7).get hu
        have ei : ((rs.map V.ref).length : Int) - 1 + (i : Int) * -1 = ((ps.length - i : Nat) : Int) := by
          rw [List.length_map]
          omega
        refine ⟨_, rfl, _, rfl, q, _, _, _, rfl, rfl, SqL.of q1, by rw [ei]; exact atI_nat q2, r, r7, u, rfl, hr7, q3, by omega, _, rfl, iteF ?_⟩
        -- loom.undo() is not True
        have LA7 := LA6.same s7
        obtain ⟨fs7, hx7, _, nu7, _⟩ := LA7.there
        refine ⟨_, rfl, x, dx, fs7, rfl, hx7, nu7, x, dx, l, n, _, u, rfl, LA7, fun e => ?_, fun us w' e H8 k8 LA8 => ?_⟩
        · have z := congrArg List.length e
          rw [List.length_take, List.length_append] at z
          simp only [List.length_cons, List.length_nil] at z
          omega
        refine ⟨true, true, rfl, rfl, _, rfl, if_f (by rw [decide_eq_true rfl]; rfl) ?_⟩
        have hi2 : ps.length - i = (ps.length - (i + 1)) + 1 := by omega
        have hlt : ps.length - (i + 1) < (ps ++ [wd]).length := by
          rw [List.length_append]
          omega
        have tk : (ps ++ [wd]).take (ps.length - i) = (ps ++ [wd]).take (ps.length - (i + 1)) ++ [(ps ++ [wd])[ps.length - (i + 1)]'hlt] := by
          rw [hi2, List.take_add_one, List.getElem?_eq_getElem hlt]
          rfl
        rw [tk] at e
        obtain ⟨e1, e2⟩ := List.append_inj' e rfl
        have e3 : (ps ++ [wd])[ps.length - (i + 1)]'hlt = w' := by simpa using e2
        refine ⟨w', _, rfl, by omega, by rw [List.getElem?_eq_getElem hlt, e3], by rw [e1]; exact LA8, (PA6.same s7).kp k8 hx7 nqx nql⟩
      · rintro σ H6 ⟨u, v12, rfl, _, hu, LA6, PA6⟩
        rw [Nat.sub_self] at hu LA6
        have eu : u = [] := by
          rw [zero] at hu
          exact (Option.some.inj hu).symm
        subst eu
        rw [List.take_zero] at LA6
        obtain ⟨fs, hx6, _, nu6, nn6⟩ := LA6.there
        refine ⟨_, rfl, x, dx, fs, rfl, hx6, nn6, x, dx, l, n, _, _, rfl, LA6, fun H7 r s7 nr hr7 => ?_⟩
        refine ⟨Nat.zero_le _, fun p7 np7 => rd_eqW (w := []) (hr7.up np7) upd_same ⟨_, rfl, if_t (decide_eq_true rfl) ?_⟩⟩
        have LA8 := (LA6.same s7).same (Same.new np7 (o := .lst []))
        obtain ⟨fs8, hx8, _, nu8, _⟩ := LA8.there
        refine ⟨_, rfl, x, dx, fs8, rfl, hx8, nu8, x, dx, l, n, _, _, rfl, LA8, fun _ H9 s9 => ?_, fun us w' e => by simp at e⟩
        refine ⟨false, false, rfl, rfl, ?_⟩
        rw [decide_eq_true rfl]
        exact kQ H9
end
end K82
namespace K82
open PySem PySem.Spec PyProof.Rows L2
/-! ### what the written part says, fact by fact -/
def FnAt (K : PySem.W.Frag) (x : Str) (st : Stmt) : Prop := ∃ (f : Addr) (oc : Value) (od : Option Addr) (kV dc pm : Value) (an : Option Addr) (cd ct : Value) (sl : Array (Option Value)),
  PySem.W.nsIn K mainGlobals x = some (some (.ref f)) ∧ K.lookup f = some ⟨oc, od, .func (PySem.W.fnOf x x (defArgs st) (defBody st) (defScope st) .none kV dc pm an cd ct), sl⟩ ∧ PySem.W.codeIn K cd x = true ∧ PySem.W.keepIn K (.ref f) = true
def MethAt (K : PySem.W.Frag) (C : Addr) (m q : Str) (st : Stmt) : Prop := ∃ (f : Addr) (oc : Value) (od : Option Addr) (kV dc pm : Value) (an : Option Addr) (cd ct : Value) (sl : Array (Option Value)),
  PySem.W.findIn K (.ref C) m = some (some (.ref f)) ∧ PySem.W.isFn K (.ref f) = true ∧ K.lookup f = some ⟨oc, od, .func (PySem.W.fnOf m q (defArgs st) (defBody st) (defScope st) .none kV dc pm an cd ct), sl⟩ ∧ PySem.W.codeIn K cd q = true ∧ PySem.W.keepIn K (.ref f) = true
theorem fn_at {K : PySem.W.Frag} {x : Str} {st : Stmt} {f : Addr} {oc : Value} {od : Option Addr} {kV dc pm : Value} {an : Option Addr} {cd ct : Value} {sl : Array (Option Value)} (h1 : PySem.W.nsIn K mainGlobals x = some (some (.ref f)))
    (h2 : K.lookup f = some ⟨oc, od, .func (PySem.W.fnOf x x (defArgs st) (defBody st) (defScope st) .none kV dc pm an cd ct), sl⟩) (h3 : PySem.W.codeIn K cd x = true) (h4 : PySem.W.keepIn K (.ref f) = true) : FnAt K x st := ⟨_, _, _, _, _, _, _, _, _, _, h1, h2, h3, h4⟩
theorem meth_at {K : PySem.W.Frag} {C : Addr} {m q : Str} {st : Stmt} {f : Addr} {oc : Value} {od : Option Addr} {kV dc pm : Value} {an : Option Addr} {cd ct : Value} {sl : Array (Option Value)} (h1 : PySem.W.findIn K (.ref C) m = some (some (.ref f))) (h2 : PySem.W.isFn K (.ref f) = true)
    (h3 : K.lookup f = some ⟨oc, od, .func (PySem.W.fnOf m q (defArgs st) (defBody st) (defScope st) .none kV dc pm an cd ct), sl⟩) (h4 : PySem.W.codeIn K cd q = true) (h5 : PySem.W.keepIn K (.ref f) = true) : MethAt K C m q st := ⟨_, _, _, _, _, _, _, _, _, _, h1, h2, h3, h4, h5⟩
theorem FnAt.at {K : PySem.W.Frag} {h : Heap} {mg : Str → Option Value} {x : Str} {st : Stmt} (X : K.In h) (G : h.Ns mainGlobals mg) (F : FnAt K x st) : At K mg x st := by
  obtain ⟨f, oc, od, kV, dc, pm, an, cd, ct, sl, h1, h2, h3, h4⟩ := F
  exact ⟨f, _, fun_mk (st := st) h2 h3 h4, PySem.W.mg_of X G h1⟩
theorem MethAt.at {K : PySem.W.Frag} {C : Addr} {m q : Str} {st : Stmt} (F : MethAt K C m q st) : AtM K C m q st := by
  obtain ⟨f, oc, od, kV, dc, pm, an, cd, ct, sl, h1, h2, h3, h4, h5⟩ := F
  exact ⟨f, _, fun_mk (st := st) h3 h4 h5, ⟨h1, h2, h5⟩⟩
/-- the class of the loom -/
structure LoomRaw (K : PySem.W.Frag) (C : Addr) : Prop where
  cl : Cls K C
  made : PySem.W.makesIn K C = true
  kept : PySem.W.keepIn K (.ref C) = true
  nS : PySem.W.findIn K (.ref C) "strings" = some none
  nH : PySem.W.findIn K (.ref C) "hung" = some none
  nP : PySem.W.findIn K (.ref C) "past" = some none
/-- an error class that is raised -/
structure ErrRaw (K : PySem.W.Frag) (D CB : Addr) : Prop where
  kp : PySem.W.keepIn K (.ref D) = true
  sb : PySem.W.subIn K (.ref D) (.type "BaseException") = some true
  ty : PySem.W.typeIn K (.ref D) = some (.type "type")
  ic : PySem.W.isClsIn K D = true
  ss : PySem.W.subIn K (.ref D) (.ref D) = some true
  sB : PySem.W.subIn K (.ref D) (.ref CB) = some true
  sV : PySem.W.subIn K (.ref D) (.type "ValueError") = some true
  xc : ExcC K D
/-- an error class that is never raised here -/
structure OtherRaw (K : PySem.W.Frag) (x : Str) (D CW CM : Addr) : Prop where
  a : PySem.W.nsIn K mainGlobals x = some (some (.ref D))
  ty : PySem.W.typeIn K (.ref D) = some (.type "type")
  ic : PySem.W.isClsIn K D = true
  sW : PySem.W.subIn K (.ref CW) (.ref D) = some false
  sM : PySem.W.subIn K (.ref CM) (.ref D) = some false
structure BltRaw (K : PySem.W.Frag) : Prop where
  len : PySem.W.nsIn K mainGlobals "len" = some none
  abs : PySem.W.nsIn K mainGlobals "abs" = some none
  max : PySem.W.nsIn K mainGlobals "max" = some none
  isi : PySem.W.nsIn K mainGlobals "isinstance" = some none
  enum : PySem.W.nsIn K mainGlobals "enumerate" = some none
  range : PySem.W.nsIn K mainGlobals "range" = some none
  tuple : PySem.W.nsIn K mainGlobals "tuple" = some none
  str : PySem.W.nsIn K mainGlobals "str" = some none
  int : PySem.W.nsIn K mainGlobals "int" = some none
  bool : PySem.W.nsIn K mainGlobals "bool" = some none
  list : PySem.W.nsIn K mainGlobals "list" = some none
  verr : PySem.W.nsIn K mainGlobals "ValueError" = some none
theorem kit_cls_own {K : PySem.W.Frag} {A D : Addr} {b : Bool} (h : PySem.W.subIn K (.ref A) (.ref D) = some b) (hc : PySem.W.isClsIn K D = true) (ht : PySem.W.typeIn K (.ref D) = some (.type "type")) : PySem.W.kitCls K (.ref A) (.ref D) = some b := by
  have e : ((PySem.W.clsIn K D).isSome && PySem.W.typeIn K (.ref D) == some (.type "type")) = true := by
    have hc' : (PySem.W.clsIn K D).isSome = true := hc
    rw [hc', ht] <;> rfl
  show (if ((PySem.W.clsIn K D).isSome && PySem.W.typeIn K (.ref D) == some (.type "type")) = true then PySem.W.subIn K (.ref A) (.ref D) else none) = some b
  rw [if_pos e]
  exact h
theorem kit_own {K : PySem.W.Frag} {A D : Addr} {b : Bool} (h : PySem.W.subIn K (.ref A) (.ref D) = some b) (self : PySem.W.subIn K (.ref A) (.ref A) = some true) (hc : PySem.W.isClsIn K D = true) (ht : PySem.W.typeIn K (.ref D) = some (.type "type")) :
    PySem.W.kitOne K (.ref A) (.ref D) = some b := by
  unfold PySem.W.kitOne
  by_cases e : (Value.ref A == Value.ref D) = true
  · rw [if_pos e]
    have e2 : A = D := Value.ref.inj (beq_iff_eq.mp e)
    rw [← e2, self] at h
    exact h
  · rw [if_neg e]
    exact kit_cls_own h hc ht
theorem kit_verr {K : PySem.W.Frag} {A : Addr} (h : PySem.W.subIn K (.ref A) (.type "ValueError") = some true) : PySem.W.kitOne K (.ref A) (.type "ValueError") = some true := by
  unfold PySem.W.kitOne
  have ne : ¬ (Value.ref A == Value.type "ValueError") = true := fun z => by
    have z2 : Value.ref A = Value.type "ValueError" := beq_iff_eq.mp z
    cases z2
  rw [if_neg ne]
  have e : PySem.W.kitMeta "ValueError" = true := by decide +kernel
  show (if PySem.W.kitMeta "ValueError" = true then PySem.W.subIn K (.ref A) (.type "ValueError") else none) = some true
  rw [if_pos e]
  exact h
theorem exm_own {K : PySem.W.Frag} {D CB : Addr} (h : PySem.W.subIn K (.ref D) (.ref CB) = some true) (hs : PySem.W.subIn K (.ref CB) (.type "BaseException") = some true) (hc : PySem.W.isClsIn K CB = true) (ht : PySem.W.typeIn K (.ref CB) = some (.type "type")) :
    PySem.W.exmOne K (.ref D) (.ref CB) = some true := by
  have e1 : (PySem.W.subIn K (.ref CB) (.type "BaseException") == some true) = true := by rw [hs] <;> rfl
  show (if (PySem.W.subIn K (.ref CB) (.type "BaseException") == some true) = true then PySem.W.kitCls K (.ref D) (.ref CB) else none) = some true
  rw [if_pos e1]
  exact kit_cls_own h hc ht
theorem all_mk {P : Program} {w : World} {K : PySem.W.Frag} {h : Heap} {mg : Str → Option Value} {fa C CB CW CM c1 c2 c3 c4 c5 c6 c7 : Addr} {tM : Tok} (X : K.In h) (G : h.Ns mainGlobals mg) (hfa : mg "law" = some (.ref fa))
    (aC : PySem.W.nsIn K mainGlobals "Loom" = some (some (.ref C))) (aB : PySem.W.nsIn K mainGlobals "BraidError" = some (some (.ref CB))) (aW : PySem.W.nsIn K mainGlobals "NoWord" = some (some (.ref CW))) (aM : PySem.W.nsIn K mainGlobals "NoMove" = some (some (.ref CM)))
    (aS : PySem.W.nsIn K mainGlobals "MOST_STRINGS" = some (some (.int 7 tM))) (LR : LoomRaw K C) (BR : BltRaw K) (WR : ErrRaw K CW CB) (MR : ErrRaw K CM CB) (sWM : PySem.W.subIn K (.ref CW) (.ref CM) = some false) (sMW : PySem.W.subIn K (.ref CM) (.ref CW) = some false)
    (xW : PySem.W.excIn K CW [.type "ValueError", .type "Exception", .type "BaseException", .type "object"] "ValueError.__new__" = true) (xM : PySem.W.excIn K CM [.type "ValueError", .type "Exception", .type "BaseException", .type "object"] "ValueError.__new__" = true)
    (sbB : PySem.W.subIn K (.ref CB) (.type "BaseException") = some true) (icB : PySem.W.isClsIn K CB = true) (tyB : PySem.W.typeIn K (.ref CB) = some (.type "type"))
    (o1 : OtherRaw K "BadPicture" c1 CW CM) (o2 : OtherRaw K "BadText" c2 CW CM) (o3 : OtherRaw K "NoForm" c3 CW CM) (o4 : OtherRaw K "NoRow" c4 CW CM) (o5 : OtherRaw K "NoString" c5 CW CM) (o6 : OtherRaw K "TooMany" c6 CW CM) (o7 : OtherRaw K "Unlike" c7 CW CM)
    (m1 : MethAt K C "__init__" "Loom.__init__" sInit) (m2 : MethAt K C "hang" "Loom.hang" sHang) (m3 : MethAt K C "drop" "Loom.drop" sDrop) (m4 : MethAt K C "go" "Loom.go" sGo) (m5 : MethAt K C "undo" "Loom.undo" sUndo) (m6 : MethAt K C "now" "Loom.now" sNow)
    (f1 : FnAt K "checked" sChecked) (f2 : FnAt K "move_at" sMoveAt) (f3 : FnAt K "can_move" sCanMove) (f4 : FnAt K "moved" sMoved) (f5 : FnAt K "_law_mix" sMix) (f6 : FnAt K "_law_cell_at" sCellAt) (f7 : FnAt K "_law_strings" sStrings) (f8 : FnAt K "_law_crossing" sCrossing)
    (f9 : FnAt K "_law_piece" sPiece) (f10 : FnAt K "_law_drawn" sDrawn) (f11 : FnAt K "_law_done" sDone) (f12 : FnAt K "_law_can" sCan) (f13 : FnAt K "_law_number" sNumber) (f14 : FnAt K "_law_equal" sEqual) (f15 : FnAt K "_law_refused" sRefused)
    (f16 : FnAt K "_law_deed_by" sDeedBy) (f17 : FnAt K "_law_due" sDue) (f18 : FnAt K "_law_behind" sBehind) (f19 : FnAt K "_law_made_good" sMadeGood) (f20 : FnAt K "law" sLaw) :
    ∃ fd : FuncData, (∀ (s : Shared) (u : Value), BindsTo s fd ⟨[u], []⟩ [("_law_script", u)]) ∧ ∀ base : Heap, K.In base → base.Ns mainGlobals mg → FnOk P w K mg base CX0 7 fa fd ["_law_script"] (spLaw K) := by
  obtain ⟨fl, oc, od, kV, dc, pm, an, cd, ct, sl, l1, l2, l3, l4⟩ := f20
  have e := hfa.symm.trans (PySem.W.mg_of X G l1)
  cases e
  have B : Blt mg := ⟨PySem.W.mg_none_of X G BR.len, PySem.W.mg_none_of X G BR.abs, PySem.W.mg_none_of X G BR.max, PySem.W.mg_none_of X G BR.isi, PySem.W.mg_none_of X G BR.enum, PySem.W.mg_none_of X G BR.range, PySem.W.mg_none_of X G BR.tuple, PySem.W.mg_none_of X G BR.str,
    PySem.W.mg_none_of X G BR.int, PySem.W.mg_none_of X G BR.bool, PySem.W.mg_none_of X G BR.list, PySem.W.mg_none_of X G BR.verr⟩
  have L : LoomC K mg C := ⟨LR.cl, LR.nS, LR.nH, LR.nP, PySem.W.mg_of X G aC⟩
  have EW : ErrC K mg "NoWord" CW := ⟨PySem.W.mg_of X G aW, xW, WR.kp, WR.sb, WR.ty⟩
  have EM : ErrC K mg "NoMove" CM := ⟨PySem.W.mg_of X G aM, xM, MR.kp, MR.sb, MR.ty⟩
  have seven : ∀ (D : Addr), PySem.W.subIn K (.ref D) (.ref D) = some true → PySem.W.subIn K (.ref D) (.ref c1) = some false → PySem.W.subIn K (.ref D) (.ref c2) = some false → PySem.W.subIn K (.ref D) (.ref c3) = some false → PySem.W.subIn K (.ref D) (.ref c4) = some false →
      PySem.W.subIn K (.ref D) (.ref c5) = some false → PySem.W.subIn K (.ref D) (.ref c6) = some false → PySem.W.subIn K (.ref D) (.ref c7) = some false → PySem.W.kitAny K (.ref D) [.ref c1, .ref c2, .ref c3, .ref c4, .ref c5, .ref c6, .ref c7] = some false := by
    intro D s s1 s2 s3 s4 s5 s6 s7
    refine kitAny_cons (kit_own s1 s o1.ic o1.ty) (fun _ => ?_) (fun z => nomatch z)
    refine kitAny_cons (kit_own s2 s o2.ic o2.ty) (fun _ => ?_) (fun z => nomatch z)
    refine kitAny_cons (kit_own s3 s o3.ic o3.ty) (fun _ => ?_) (fun z => nomatch z)
    refine kitAny_cons (kit_own s4 s o4.ic o4.ty) (fun _ => ?_) (fun z => nomatch z)
    refine kitAny_cons (kit_own s5 s o5.ic o5.ty) (fun _ => ?_) (fun z => nomatch z)
    refine kitAny_cons (kit_own s6 s o6.ic o6.ty) (fun _ => ?_) (fun z => nomatch z)
    exact kitAny_cons (kit_own s7 s o7.ic o7.ty) (fun _ => kitAny_nil) (fun z => nomatch z)
  have S : Errs K mg CB CW CM c1 c2 c3 c4 c5 c6 c7 := {
    eW := EW
    eM := EM
    gB := PySem.W.mg_of X G aB
    tW := exm_own WR.sB sbB icB tyB
    tM := exm_own MR.sB sbB icB tyB
    xW := WR.xc
    xM := MR.xc
    g1 := PySem.W.mg_of X G o1.a
    g2 := PySem.W.mg_of X G o2.a
    g3 := PySem.W.mg_of X G o3.a
    g4 := PySem.W.mg_of X G o4.a
    g5 := PySem.W.mg_of X G o5.a
    g6 := PySem.W.mg_of X G o6.a
    g7 := PySem.W.mg_of X G o7.a
    aW := seven CW WR.ss o1.sW o2.sW o3.sW o4.sW o5.sW o6.sW o7.sW
    aM := seven CM MR.ss o1.sM o2.sM o3.sM o4.sM o5.sM o6.sM o7.sM
    kWW := kit_own WR.ss WR.ss WR.ic WR.ty
    kWM := kit_own sWM WR.ss MR.ic MR.ty
    kMW := kit_own sMW MR.ss WR.ic WR.ty
    kMM := kit_own MR.ss MR.ss MR.ic MR.ty
    kWV := kit_verr WR.sV
    kMV := kit_verr MR.sV }
  obtain ⟨g1, gd1, F1, q1⟩ := m1.at
  obtain ⟨g2, gd2, F2, q2⟩ := m2.at
  obtain ⟨g3, gd3, F3, q3⟩ := m3.at
  obtain ⟨g4, gd4, F4, q4⟩ := m4.at
  obtain ⟨g5, gd5, F5, q5⟩ := m5.at
  obtain ⟨g6, gd6, F6, q6⟩ := m6.at
  have bI : Binds K gd1 ["self", "n"] [] := F1.binds (ps := ["self", "n"]) fun _ _ _ _ _ _ us hl => match us, hl with | [_, _], _ => rfl
  have M : Mk K C g1 := ⟨LR.made, q1.at_, q1.fn, LR.kept⟩
  refine ⟨PySem.W.fnOf "law" "law" (defArgs sLaw) (defBody sLaw) (defScope sLaw) .none kV dc pm an cd ct, fun s u => .of_eq rfl, fun base _ _ => ?_⟩
  · have CC := cal_checked (P := P) (w := w) (base := base) (f1.at X G) EW B ⟨tM, PySem.W.mg_of X G aS⟩
    have GI : FnOk P w K mg base (L2.CX P w) 2 g1 gd1 ["self", "n"] (spInit C CW) := calM_init F1 L CC
    have MH : CalM P w K mg base (L2.CX P w) 2 C "hang" ["self", "word"] (spHang C CW) := ⟨g2, gd2, calM_hang F2 L CC, q2, F2.binds (ps := ["self", "word"]) fun _ _ _ _ _ _ us hl => match us, hl with | [_, _], _ => rfl⟩
    have MD : CalM P w K mg base (L2.CX P w) 1 C "drop" ["self", "many"] (spDrop C CM) := ⟨g3, gd3, calM_drop F3 L B EM, q3, F3.binds (ps := ["self", "many"]) fun _ _ _ _ _ _ us hl => match us, hl with | [_, _], _ => rfl⟩
    have MG : CalM P w K mg base (L2.CX P w) 4 C "go" ["self", "move"] (spGo C CM) := ⟨g4, gd4, calM_go F4 L (cal_moved (f4.at X G) EM B (f3.at X G) (f2.at X G)), q4, F4.binds (ps := ["self", "move"]) fun _ _ _ _ _ _ us hl => match us, hl with | [_, _], _ => rfl⟩
    have MU : CalM P w K mg base CX0 1 C "undo" ["self"] (spUndo C) := ⟨g5, gd5, calM_undo F5 L, q5, F5.binds (ps := ["self"]) fun _ _ _ _ _ _ us hl => match us, hl with | [_], _ => rfl⟩
    have MN : CalM P w K mg base CX0 1 C "now" ["self"] (spNow C) := ⟨g6, gd6, calM_now F6 L B, q6, F6.binds (ps := ["self"]) fun _ _ _ _ _ _ us hl => match us, hl with | [_], _ => rfl⟩
    have CMx := cal_mix (P := P) (w := w) (base := base) (f5.at X G)
    have CP := cal_piece (P := P) (w := w) (base := base) (f9.at X G) B (f8.at X G)
    have CR := cal_drawn (f10.at X G) B CP CMx
    have CF := cal_refused (f15.at X G) B L S M GI bI MH MD MG
    exact ok_law (fun_mk (st := sLaw) l2 l3 l4) B L M GI bI MU MN (cal_cellAt (f6.at X G) B) (cal_strings (f7.at X G) B) CF (cal_deedBy (f16.at X G) B CR) CMx (cal_due (f17.at X G) B (f12.at X G)) (cal_behind (f18.at X G) B (f11.at X G))
      (cal_eqW (f14.at X G) B (f13.at X G)) (cal_madeGood (f19.at X G) B L CF MH MU MN)
theorem walk {l : PySem.W.OpenLaw} {q : Program} {loose : List Str} {XP : (Str → Option Value) → Heap → Prop} {YP : World → Heap → Prop} {d : DefRec} {K : Params → PySem.W.Frag} (hn : l.most = some 63) (hdf : d.params.defaults = [])
    (hY : ∀ (w : World) (h : Heap), YP w h → (K w.params).In h)
    (F : ∀ (w : World) (mg : Str → Option Value) (fa : Addr) (h : Heap), (K w.params).In h → h.Ns mainGlobals mg → mg d.name = some (.ref fa) →
      ∃ fd : FuncData, (∀ (s : Shared) (u : Value), BindsTo s fd ⟨[u], []⟩ [("_law_script", u)]) ∧ ∀ base : Heap, (K w.params).In base → base.Ns mainGlobals mg → FnOk l.prog w (K w.params) mg base CX0 7 fa fd ["_law_script"] (spLaw (K w.params))) :
    PySem.W.WalkO q loose XP YP l.row.toRowW d [] (fun f vs => PySem.call f vs) :=
  L2.walk_of (n := 63) (k := 7) (x := "_law_script") (CX := fun _ => CX0) (sp := fun w => spLaw (K w.params)) hn (by decide) hdf ⟨rfl, by decide, by decide⟩ hY F (fun _ _ a ns hl _ hS => ⟨a, ns, rfl, hS, hl, fun _ => rfl⟩) fun _ _ _ _ _ z => z
end K82
open PySem PySem.W PyProof.Rows in
set_option maxRecDepth 100000 in
set_option maxHeartbeats 0 in
theorem PySem.Challenge.cw_braidcomb_k82_refused_changes_nothing_holds : PySem.Challenge.rw_braidcomb_k82_refused_changes_nothing.Holds := by
  w_on; o_law; k_head; (case hw => w_witness2)
  k_fill
  refine K82.walk (l := PySem.Challenge.rw_braidcomb_k82_refused_changes_nothing) rfl rfl (fun w h Y => PySem.W.kIn_of Y) ?F
  case F =>
    intro w mg fa h KX G hmg
    refine' K82.all_mk KX G hmg ?aC ?aB ?aW ?aM ?aS ?LR ?BR ?WR ?MR ?sWM ?sMW ?xW ?xM ?sbB ?icB ?tyB ?o1 ?o2 ?o3 ?o4 ?o5 ?o6 ?o7 ?m1 ?m2 ?m3 ?m4 ?m5 ?m6 ?f1 ?f2 ?f3 ?f4 ?f5 ?f6 ?f7 ?f8 ?f9 ?f10 ?f11 ?f12 ?f13 ?f14 ?f15 ?f16 ?f17 ?f18 ?f19 ?f20
    (case aC => k_is); (case aB => k_is); (case aW => k_is); (case aM => k_is); (case aS => k_is)
    (case LR => refine' ⟨⟨?_, ?_, ?_, ?_⟩, ?_, ?_, ?_, ?_, ?_⟩ <;> k_is)
    (case BR => refine' ⟨?_, ?_, ?_, ?_, ?_, ?_, ?_, ?_, ?_, ?_, ?_, ?_⟩ <;> k_is)
    (case WR => refine' ⟨?_, ?_, ?_, ?_, ?_, ?_, ?_, ⟨?_, ?_, ?_, ?_, ?_, ?_, ?_, ?_⟩⟩ <;> k_is)
    (case MR => refine' ⟨?_, ?_, ?_, ?_, ?_, ?_, ?_, ⟨?_, ?_, ?_, ?_, ?_, ?_, ?_, ?_⟩⟩ <;> k_is)
    (case sWM => k_is); (case sMW => k_is); (case xW => k_exc); (case xM => k_exc); (case sbB => k_is); (case icB => k_is); (case tyB => k_is)
    (case o1 => refine' ⟨?a, ?b, ?c, ?d, ?e⟩; (case a => k_is); (case b => k_is); (case c => k_is); (case d => k_is); (case e => k_is))
    (case o2 => refine' ⟨?a, ?b, ?c, ?d, ?e⟩; (case a => k_is); (case b => k_is); (case c => k_is); (case d => k_is); (case e => k_is))
    (case o3 => refine' ⟨?a, ?b, ?c, ?d, ?e⟩; (case a => k_is); (case b => k_is); (case c => k_is); (case d => k_is); (case e => k_is))
    (case o4 => refine' ⟨?a, ?b, ?c, ?d, ?e⟩; (case a => k_is); (case b => k_is); (case c => k_is); (case d => k_is); (case e => k_is))
    (case o5 => refine' ⟨?a, ?b, ?c, ?d, ?e⟩; (case a => k_is); (case b => k_is); (case c => k_is); (case d => k_is); (case e => k_is))
    (case o6 => refine' ⟨?a, ?b, ?c, ?d, ?e⟩; (case a => k_is); (case b => k_is); (case c => k_is); (case d => k_is); (case e => k_is))
    (case o7 => refine' ⟨?a, ?b, ?c, ?d, ?e⟩; (case a => k_is); (case b => k_is); (case c => k_is); (case d => k_is); (case e => k_is))
    (case m1 => refine' K82.meth_at ?a ?b ?c ?d ?e; (case a => k_is); (case b => k_is); (case c => k_is); (case d => k_is); (case e => k_is))
    (case m2 => refine' K82.meth_at ?a ?b ?c ?d ?e; (case a => k_is); (case b => k_is); (case c => k_is); (case d => k_is); (case e => k_is))
    (case m3 => refine' K82.meth_at ?a ?b ?c ?d ?e; (case a => k_is); (case b => k_is); (case c => k_is); (case d => k_is); (case e => k_is))
    (case m4 => refine' K82.meth_at ?a ?b ?c ?d ?e; (case a => k_is); (case b => k_is); (case c => k_is); (case d => k_is); (case e => k_is))
    (case m5 => refine' K82.meth_at ?a ?b ?c ?d ?e; (case a => k_is); (case b => k_is); (case c => k_is); (case d => k_is); (case e => k_is))
    (case m6 => refine' K82.meth_at ?a ?b ?c ?d ?e; (case a => k_is); (case b => k_is); (case c => k_is); (case d => k_is); (case e => k_is))
    (case f1 => refine' K82.fn_at ?a ?b ?c ?d; (case a => k_is); (case b => k_is); (case c => k_is); (case d => k_is))
    (case f2 => refine' K82.fn_at ?a ?b ?c ?d; (case a => k_is); (case b => k_is); (case c => k_is); (case d => k_is))
    (case f3 => refine' K82.fn_at ?a ?b ?c ?d; (case a => k_is); (case b => k_is); (case c => k_is); (case d => k_is))
    (case f4 => refine' K82.fn_at ?a ?b ?c ?d; (case a => k_is); (case b => k_is); (case c => k_is); (case d => k_is))
    (case f5 => refine' K82.fn_at ?a ?b ?c ?d; (case a => k_is); (case b => k_is); (case c => k_is); (case d => k_is))
    (case f6 => refine' K82.fn_at ?a ?b ?c ?d; (case a => k_is); (case b => k_is); (case c => k_is); (case d => k_is))
    (case f7 => refine' K82.fn_at ?a ?b ?c ?d; (case a => k_is); (case b => k_is); (case c => k_is); (case d => k_is))
    (case f8 => refine' K82.fn_at ?a ?b ?c ?d; (case a => k_is); (case b => k_is); (case c => k_is); (case d => k_is))
    (case f9 => refine' K82.fn_at ?a ?b ?c ?d; (case a => k_is); (case b => k_is); (case c => k_is); (case d => k_is))
    (case f10 => refine' K82.fn_at ?a ?b ?c ?d; (case a => k_is); (case b => k_is); (case c => k_is); (case d => k_is))
    (case f11 => refine' K82.fn_at ?a ?b ?c ?d; (case a => k_is); (case b => k_is); (case c => k_is); (case d => k_is))
    (case f12 => refine' K82.fn_at ?a ?b ?c ?d; (case a => k_is); (case b => k_is); (case c => k_is); (case d => k_is))
    (case f13 => refine' K82.fn_at ?a ?b ?c ?d; (case a => k_is); (case b => k_is); (case c => k_is); (case d => k_is))
    (case f14 => refine' K82.fn_at ?a ?b ?c ?d; (case a => k_is); (case b => k_is); (case c => k_is); (case d => k_is))
    (case f15 => refine' K82.fn_at ?a ?b ?c ?d; (case a => k_is); (case b => k_is); (case c => k_is); (case d => k_is))
    (case f16 => refine' K82.fn_at ?a ?b ?c ?d; (case a => k_is); (case b => k_is); (case c => k_is); (case d => k_is))
    (case f17 => refine' K82.fn_at ?a ?b ?c ?d; (case a => k_is); (case b => k_is); (case c => k_is); (case d => k_is))
    (case f18 => refine' K82.fn_at ?a ?b ?c ?d; (case a => k_is); (case b => k_is); (case c => k_is); (case d => k_is))
    (case f19 => refine' K82.fn_at ?a ?b ?c ?d; (case a => k_is); (case b => k_is); (case c => k_is); (case d => k_is))
    (case f20 => refine' K82.fn_at ?a ?b ?c ?d; (case a => k_is); (case b => k_is); (case c => k_is); (case d => k_is))
