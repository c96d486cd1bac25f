import PyProof.Rows.All
import Wide.All
import OpenK.AllK
import Wide.FinOn
import PyProof.Rows.StrDigitsNeg
import KE.IntTextLaws
import HandS.ForMost
import HandS.Codes
import HandS.StrMore
import HandS.ReplaceList
import HandS.ReplaceLit
import HandS.Defaults
import HandS.HeadHook1
import HandS.HeadHook2
import PySem.Challenge.RW_deducehall_k46_values_written_and_read
import KE.KStateDown
import Lean
import HandS.Ends
import HandS.Head0
import HandS.Head1
import HandS.Head2
import HandS.HeadEnd
import PyProof.EqAt
import HandS.Style
import HandS.Exc
import HandS.IsInst
import HandS.ReplaceDef
import HandS.Steps
import PyProof.NeKinds
import HandS.Walk
set_option Elab.async false
set_option linter.all false
set_option maxRecDepth 100000
set_option maxHeartbeats 1000000
/-! The plain law: texts as lists of signs, no program in sight. -/
namespace K46
open PySem PySem.Builtin PySem.Builtin.Str SX
/-! ### signs -/
def figs : List Nat := [48, 49, 50, 51, 52, 53, 54, 55, 56, 57]
def smalls : List Nat := [97, 98, 99, 100, 101, 102, 103, 104, 105, 106, 107, 108, 109, 110, 111, 112, 113, 114, 115, 116, 117, 118, 119, 120, 121, 122]
def greats : List Nat := [65, 66, 67, 68, 69, 70, 71, 72, 73, 74, 75, 76, 77, 78, 79, 80, 81, 82, 83, 84, 85, 86, 87, 88, 89, 90]
def inner : List Nat := smalls ++ (greats ++ (figs ++ [95]))
theorem lit_figs : ("0123456789" : Str) = S figs := by decide +kernel
theorem lit_smalls : ("abcdefghijklmnopqrstuvwxyz" : Str) = S smalls := by decide +kernel
theorem lit_greats : ("ABCDEFGHIJKLMNOPQRSTUVWXYZ" : Str) = S greats := by decide +kernel
theorem lit_inner : ("abcdefghijklmnopqrstuvwxyzABCDEFGHIJKLMNOPQRSTUVWXYZ0123456789_" : Str) = S inner := by decide +kernel
theorem S_mem {c : Nat} {l : List Nat} : (c ∈ (S l).cps.toList) = (c ∈ l) := rfl
theorem figs_iff {c : Nat} : c ∈ figs ↔ 48 ≤ c ∧ c ≤ 57 := by
  simp only [figs, List.mem_cons, List.not_mem_nil, or_false]
  omega
/-! ### words in marks -/
def esc (c : Nat) : List Nat := if c = 92 then [92, 92] else if c = 39 then [92, 39] else if c = 10 then [92, 110] else [c]
def enc (w : List Nat) : List Nat := w.flatMap esc
theorem enc_cons (c : Nat) (w : List Nat) : enc (c :: w) = esc c ++ enc w := List.flatMap_cons
theorem enc_nil : enc [] = [] := rfl
theorem esc_len (c : Nat) : (esc c).length ≤ 2 := by
  unfold esc
  split
  · exact Nat.le_refl _
  · split
    · exact Nat.le_refl _
    · split
      · exact Nat.le_refl _
      · exact Nat.le_succ _
theorem enc_len : ∀ w : List Nat, (enc w).length ≤ 2 * w.length
  | [] => Nat.le_refl _
  | c :: w => by
    have h1 := enc_len w
    have h2 := esc_len c
    rw [enc_cons, List.length_append, List.length_cons]
    omega
theorem repl1 (a : Nat) (z : List Nat) : ∀ w : List Nat, StrLaws.replL [a] z w = w.flatMap fun c => if c = a then z else [c]
  | [] => StrLaws.replL_nil
  | c :: w => by
    have ih := repl1 a z w
    rw [List.flatMap_cons]
    by_cases h : c = a
    · rw [if_pos h, StrLaws.replL_hit (List.cons_ne_nil _ _) (by rw [h]; rfl)]
      show z ++ StrLaws.replL [a] z w = _
      rw [ih]
    · rw [if_neg h, StrLaws.replL_miss (y := [a]) (fun e => h (List.cons.inj (show [c] = [a] from e)).1), ih]
      rfl
theorem enc_repl (w : List Nat) : StrLaws.replL [10] [92, 110] (StrLaws.replL [39] [92, 39] (StrLaws.replL [92] [92, 92] w)) = enc w := by
  rw [repl1, repl1, repl1, List.flatMap_assoc, List.flatMap_assoc]
  unfold enc
  congr 1
  funext c
  unfold esc
  by_cases h1 : c = 92
  · subst h1; decide
  · rw [if_neg h1, if_neg h1]
    by_cases h2 : c = 39
    · subst h2; decide
    · by_cases h3 : c = 10
      · subst h3; decide
      · simp [h2, h3]
theorem replace_S (w y z : List Nat) (hy : y ≠ []) : Txt.replace (S w) (S y) (S z) = S (StrLaws.replL y z w) := by
  refine TL.ext_tl ?_
  have h : 1 ≤ (S y).length := by
    rw [S_len]
    exact List.length_pos_iff.mpr hy
  exact StrLaws.replace_list h
theorem marks3 (w : List Nat) : Txt.replace (Txt.replace (Txt.replace (S w) (S [92]) (S [92, 92])) (S [39]) (S [92, 39])) (S [10]) (S [92, 110]) = S (enc w) := by
  rw [replace_S _ _ _ (by decide), replace_S _ _ _ (by decide), replace_S _ _ _ (by decide), enc_repl]
theorem repl1_len (a : Nat) (z : List Nat) (h : 1 ≤ z.length) : ∀ w : List Nat, (StrLaws.replL [a] z w).length ≤ z.length * w.length
  | [] => by rw [StrLaws.replL_nil]; exact Nat.zero_le _
  | c :: w => by
    have ih := repl1_len a z h w
    have e : StrLaws.replL [a] z (c :: w) = (if c = a then z else [c]) ++ StrLaws.replL [a] z w := by rw [repl1, repl1, List.flatMap_cons]
    have h2 : (if c = a then z else [c]).length ≤ z.length := by
      split
      · exact Nat.le_refl _
      · exact h
    rw [e, List.length_append, List.length_cons, Nat.mul_succ]
    omega
/-! ### strip -/
theorem takeWhile_all {p : Nat → Bool} : ∀ {l : List Nat}, (∀ c ∈ l, p c = true) → l.takeWhile p = l
  | [], _ => rfl
  | c :: r, h => by
    rw [List.takeWhile_cons, if_pos (h c (List.mem_cons_self ..)), takeWhile_all fun x hx => h x (List.mem_cons_of_mem _ hx)]
theorem takeWhile_le {p : Nat → Bool} : ∀ l : List Nat, (l.takeWhile p).length ≤ l.length
  | [] => Nat.le_refl _
  | c :: r => by
    rw [List.takeWhile_cons]
    split
    · exact Nat.succ_le_succ (takeWhile_le r)
    · exact Nat.zero_le _
theorem takeWhile_len {p : Nat → Bool} : ∀ {l : List Nat}, (l.takeWhile p).length = l.length → ∀ c ∈ l, p c = true
  | [], _, _, hc => by cases hc
  | d :: r, h, c, hc => by
    rw [List.takeWhile_cons] at h
    by_cases hd : p d = true
    · rw [if_pos hd] at h
      rcases List.mem_cons.mp hc with rfl | hc
      · exact hd
      · exact takeWhile_len (Nat.succ.inj h) c hc
    · rw [if_neg hd] at h
      cases h
theorem contains_S (g : List Nat) (c : Nat) : (S g).cps.contains c = decide (c ∈ g) := by
  show (g.toArray).contains c = _
  rw [List.contains_toArray, List.contains_eq_mem]
/-- nothing is left behind the strip: all signs are among the good ones -/
theorem strip_empty (w g : List Nat) : decide (Txt.stripChars (S w) (S g) = S []) = w.all fun c => decide (c ∈ g) := by
  rw [Bool.eq_iff_iff, decide_eq_true_eq, List.all_eq_true]
  generalize hp : (S g).cps.contains = p
  have hpc : ∀ c, p c = decide (c ∈ g) := fun c => by rw [← hp]; exact contains_S g c
  have e0 : Txt.stripChars (S w) (S g) = if stripSame p true true (S w) then S w else stripped p true true (S w) := by
    unfold Txt.stripChars Txt.stripBy
    rw [hp]
  have elo : stripLo p true (S w) = (w.takeWhile p).length := rfl
  have hl : (S w).length = w.length := S_len w
  have hle := takeWhile_le (p := p) w
  constructor
  · intro h c hc
    rw [e0] at h
    rw [← hpc]
    by_cases hs : stripSame p true true (S w) = true
    · rw [if_pos hs] at h
      have ew : w = [] := S_inj h
      rw [ew] at hc
      cases hc
    · rw [if_neg hs] at h
      unfold stripped at h
      rw [elo] at h
      have h2 : TL.tl (strSub (S w) (w.takeWhile p).length (stripHi p true (S w) (w.takeWhile p).length)) = [] := congrArg TL.tl h
      rw [TL.tl_strSub] at h2
      have h3 : (w.drop (w.takeWhile p).length).take (stripHi p true (S w) (w.takeWhile p).length - (w.takeWhile p).length) = [] := h2
      have ehi : stripHi p true (S w) (w.takeWhile p).length = w.length - ((w.drop (w.takeWhile p).length).reverse.takeWhile p).length := by
        unfold stripHi
        rw [if_pos rfl, hl]
      have hle2 := takeWhile_le (p := p) (w.drop (w.takeWhile p).length).reverse
      rw [List.length_reverse, List.length_drop] at hle2
      have h4 := congrArg List.length h3
      rw [List.length_take, List.length_drop, List.length_nil, ehi] at h4
      by_cases hd : (w.takeWhile p).length = w.length
      · exact takeWhile_len hd c hc
      · have h5 : ((w.drop (w.takeWhile p).length).reverse.takeWhile p).length = (w.drop (w.takeWhile p).length).reverse.length := by
          rw [List.length_reverse, List.length_drop]
          omega
        have h6 := takeWhile_len h5
        -- the first sign behind the taken ones is among the good ones: a contradiction
        have h7 : ∀ (l : List Nat), (l.takeWhile p).length < l.length → (∀ x ∈ l.drop (l.takeWhile p).length, p x = true) → False := by
          intro l
          induction l with
          | nil => intro h _; exact absurd h (Nat.lt_irrefl _)
          | cons d r ih =>
            intro h1 h2
            rw [List.takeWhile_cons] at h1 h2
            by_cases hd : p d = true
            · rw [if_pos hd] at h1 h2
              rw [List.length_cons, List.length_cons] at h1
              rw [List.length_cons, List.drop_succ_cons] at h2
              exact ih (Nat.lt_of_succ_lt_succ h1) h2
            · rw [if_neg hd] at h2
              exact hd (h2 d (by rw [List.length_nil, List.drop_zero]; exact List.mem_cons_self ..))
        exact (h7 w (by omega) fun x hx => h6 x (List.mem_reverse.mpr hx)).elim
  · intro h
    have hall : ∀ c ∈ w, p c = true := fun c hc => by rw [hpc]; exact h c hc
    have etw : w.takeWhile p = w := takeWhile_all hall
    rw [e0]
    by_cases hw : w = []
    · subst hw
      have hs : stripSame p true true (S []) = true := by
        unfold stripSame stripLo stripHi
        rfl
      rw [if_pos hs]
    · have hs : ¬ stripSame p true true (S w) = true := by
        unfold stripSame
        rw [elo, etw]
        intro q
        have q1 := (Bool.and_eq_true_iff.mp q).1
        have q2 : w.length = 0 := eq_of_beq q1
        exact hw (List.length_eq_zero_iff.mp q2)
      rw [if_neg hs]
      refine TL.ext_tl ?_
      unfold stripped
      rw [elo, etw, TL.tl_strSub]
      show (w.drop w.length).take _ = []
      rw [List.drop_length, List.take_nil]
theorem lstrip_len (w g : List Nat) : ((Txt.lstripChars (S w) (S g)).length : Nat) = (w.dropWhile fun c => decide (c ∈ g)).length := by
  generalize hp : (S g).cps.contains = p
  have hpc : p = fun c => decide (c ∈ g) := funext fun c => by rw [← hp]; exact contains_S g c
  have e0 : Txt.lstripChars (S w) (S g) = if stripSame p true false (S w) then S w else stripped p true false (S w) := by
    unfold Txt.lstripChars Txt.stripBy
    rw [hp]
  have elo : stripLo p true (S w) = (w.takeWhile p).length := rfl
  have hl : (S w).length = w.length := S_len w
  have ed : ∀ l : List Nat, (l.dropWhile p).length = l.length - (l.takeWhile p).length := by
    intro l
    induction l with
    | nil => rfl
    | cons d r ih =>
      rw [List.takeWhile_cons, List.dropWhile_cons]
      by_cases hd : p d = true
      · rw [if_pos hd, if_pos hd, ih, List.length_cons, List.length_cons, Nat.add_sub_add_right]
      · rw [if_neg hd, if_neg hd, List.length_nil, Nat.sub_zero]
  rw [← hpc, ed, e0]
  by_cases hs : stripSame p true false (S w) = true
  · rw [if_pos hs, hl]
    unfold stripSame at hs
    have q1 := (Bool.and_eq_true_iff.mp hs).1
    rw [elo] at q1
    have q2 : (w.takeWhile p).length = 0 := eq_of_beq q1
    rw [q2, Nat.sub_zero]
  · rw [if_neg hs, TL.len_tl]
    unfold stripped
    rw [elo, TL.tl_strSub]
    have ehi : stripHi p false (S w) (w.takeWhile p).length = w.length := by
      unfold stripHi
      rw [if_neg Bool.false_ne_true, hl]
    rw [ehi]
    show ((w.drop _).take _).length = _
    rw [List.length_take, List.length_drop, Nat.min_self]
end K46
set_option Elab.async false
set_option linter.all false
set_option maxRecDepth 100000
set_option maxHeartbeats 1000000
/-! Tokens, values, what is written, what it is cut into. -/
namespace K46
open PySem PySem.Builtin PySem.Builtin.Str SX
/-! ### numbers -/
def digits (n : Int) : List Nat := if n < 0 then 45 :: TL.numL n.natAbs else TL.numL n.natAbs
theorem str_digits (n : Int) : Str.ofString (toString n) = S (digits n) := by
  unfold digits
  by_cases h : n < 0
  · rw [if_pos h]
    have e : (0 : Int) - n = ((n.natAbs : Nat) : Int) := by omega
    refine TL.ext_tl ?_
    rw [PyProof.Rows.toString_neg h, e, TL.tl_ofString, String.toList_append, List.map_append, ← TL.tl_ofString (toString ((n.natAbs : Nat) : Int)), TL.tl_num]
    rfl
  · rw [if_neg h]
    have e : n = ((n.natAbs : Nat) : Int) := by omega
    rw [e]
    exact num_S _
theorem digits_len {n : Int} (h : n.natAbs < 10 ^ 18) : (digits n).length ≤ 19 := by
  have h2 := TL.numL_len (k := 18) (by decide) h
  unfold digits
  split
  · rw [List.length_cons]
    omega
  · omega
theorem numL_figs (n : Nat) : ∀ c ∈ TL.numL n, c ∈ figs := fun c hc => figs_iff.mpr (TL.numL_digits n c hc)
theorem int_digits {n : Int} (h : n.natAbs < 10 ^ 18) : intText? (S (digits n)) = some n := by
  have h2 := TL.numL_len (k := 18) (by decide) h
  unfold digits
  by_cases h0 : n < 0
  · rw [if_pos h0]
    have e := intText_neg (x := S (45 :: TL.numL n.natAbs)) (cs := TL.numL n.natAbs) rfl (TL.numL_digits _) (TL.numL_ne _) (by rw [S_len, List.length_cons]; omega)
    rw [e, TL.numL_val]
    congr 1
    omega
  · rw [if_neg h0]
    have e := intText_digits (x := S (TL.numL n.natAbs)) (TL.numL_digits _) (TL.numL_ne _) (by rw [S_len]; omega)
    rw [e]
    show some (((NumText.digitsVal (TL.numL n.natAbs) : Nat)) : Int) = some n
    rw [TL.numL_val]
    congr 1
    omega
/-- the signs of a number: a first one, figures behind it; few figures -/
theorem digits_cons {n : Int} (h : n.natAbs < 10 ^ 18) : ∃ c w, digits n = c :: w ∧ (∀ x ∈ w, x ∈ figs) ∧ ((n < 0 ∧ c = 45 ∧ w ≠ []) ∨ (¬ n < 0 ∧ c ∈ figs)) ∧ ((digits n).dropWhile fun c => decide (c ∈ ([45] : List Nat))).length ≤ 18 := by
  have h2 := TL.numL_len (k := 18) (by decide) h
  obtain ⟨c, w, e⟩ := List.exists_cons_of_ne_nil (TL.numL_ne n.natAbs)
  have hc : c ∈ figs := numL_figs n.natAbs c (by rw [e]; exact List.mem_cons_self ..)
  have hw : ∀ x ∈ w, x ∈ figs := fun x hx => numL_figs n.natAbs x (by rw [e]; exact List.mem_cons_of_mem _ hx)
  have hc45 : ¬ (decide (c ∈ ([45] : List Nat)) = true) := by
    have := figs_iff.mp hc
    simp only [List.mem_singleton, decide_eq_true_eq]
    omega
  have hdw : ((TL.numL n.natAbs).dropWhile fun c => decide (c ∈ ([45] : List Nat))) = TL.numL n.natAbs := by rw [e, List.dropWhile_cons, if_neg hc45]
  unfold digits
  by_cases h0 : n < 0
  · rw [if_pos h0]
    refine ⟨45, TL.numL n.natAbs, rfl, numL_figs _, .inl ⟨h0, rfl, TL.numL_ne _⟩, ?_⟩
    rw [List.dropWhile_cons, if_pos (by decide), hdw]
    exact h2
  · rw [if_neg h0]
    refine ⟨c, w, e, hw, .inr ⟨h0, hc⟩, ?_⟩
    rw [hdw]
    exact h2
/-! ### tokens -/
inductive Tok where
  | word (w : List Nat)
  | num (n : Int)
  | quo (w : List Nat)
  | mk (c : Nat)
def Tok.kd : Tok → Str
  | .word _ => "word"
  | .num _ => "number"
  | .quo _ => "quoted"
  | .mk _ => "mark"
def Tok.sd : Tok → List Nat
  | .word w => w
  | .num n => digits n
  | .quo w => w
  | .mk c => [c]
def Tok.tx : Tok → List Nat
  | .word w => w
  | .num n => digits n
  | .quo w => 39 :: (enc w ++ [39])
  | .mk c => [c]
def Tok.neg : Tok → Bool
  | .num n => decide (n < 0)
  | _ => false
def Tok.lets : Tok → Bool
  | .mk c => decide (c ≠ 41)
  | _ => false
def Tok.isMk (t : Tok) (c : Nat) : Bool := match t with
  | .mk d => decide (d = c)
  | _ => false
def Fits : Tok → List Nat → Prop
  | .word w, r => (∃ c w', w = c :: w' ∧ c ∈ smalls ∧ ∀ x ∈ w', x ∈ inner) ∧ ∀ c r', r = c :: r' → c ∉ inner
  | .num n, r => n.natAbs < 10 ^ 18 ∧ ∀ c r', r = c :: r' → c ∉ figs
  | .quo _, _ => True
  | .mk c, _ => c = 40 ∨ c = 41 ∨ c = 44 ∨ c = 46
inductive Cuts : Bool → List Nat → List Tok → Prop
  | nil {ok : Bool} : Cuts ok [] []
  | cons {ok : Bool} {k : Nat} {t : Tok} {r : List Nat} {ts : List Tok} : Fits t r → (t.neg = true → ok = true) → Cuts t.lets r ts → Cuts ok (List.replicate k 32 ++ (t.tx ++ r)) (t :: ts)
theorem smalls_iff {c : Nat} : c ∈ smalls ↔ 97 ≤ c ∧ c ≤ 122 := by
  simp only [smalls, List.mem_cons, List.not_mem_nil, or_false]
  omega
theorem greats_iff {c : Nat} : c ∈ greats ↔ 65 ≤ c ∧ c ≤ 90 := by
  simp only [greats, List.mem_cons, List.not_mem_nil, or_false]
  omega
theorem inner_iff {c : Nat} : c ∈ inner ↔ (97 ≤ c ∧ c ≤ 122) ∨ (65 ≤ c ∧ c ≤ 90) ∨ (48 ≤ c ∧ c ≤ 57) ∨ c = 95 := by
  unfold inner
  rw [List.mem_append, List.mem_append, List.mem_append, smalls_iff, greats_iff, figs_iff, List.mem_singleton]
/-- what a token's text begins with -/
theorem Fits.head {t : Tok} {r : List Nat} (h : Fits t r) : ∃ c x, t.tx = c :: x ∧ c ≠ 10 ∧ c ≠ 35 ∧ c ≠ 32 ∧ c ≠ 9 := by
  cases t with
  | word w =>
    obtain ⟨⟨c, w', e, hc, _⟩, _⟩ := h
    have := smalls_iff.mp hc
    exact ⟨c, w', e, by omega, by omega, by omega, by omega⟩
  | num n =>
    obtain ⟨c, w, e, _, hc, _⟩ := digits_cons h.1
    refine ⟨c, w, e, ?_⟩
    rcases hc with ⟨_, hc, _⟩ | ⟨_, hc⟩
    · omega
    · have := figs_iff.mp hc
      omega
  | quo w => exact ⟨39, enc w ++ [39], rfl, by decide, by decide, by decide, by decide⟩
  | mk c =>
    have h' : c = 40 ∨ c = 41 ∨ c = 44 ∨ c = 46 := h
    exact ⟨c, [], rfl, by omega, by omega, by omega, by omega⟩
/-! ### values -/
inductive Vl where
  | int (n : Int)
  | str (w : List Nat)
  deriving DecidableEq
def kws : List (List Nat) := [[110, 111, 116], [99, 111, 117, 110, 116], [115, 117, 109], [108, 101, 97, 115, 116], [109, 111, 115, 116]]
def plainB : List Nat → Bool
  | [] => false
  | c :: w => decide (c ∈ smalls) && (c :: w).all fun x => decide (x ∈ inner)
/-- written bare -/
def bareB (w : List Nat) : Bool := plainB w && !decide (w ∈ kws)
def Vl.v : Vl → L2.V
  | .int n => .int n
  | .str w => .str (S w)
def Vl.told : Vl → List Nat
  | .int n => digits n
  | .str w => if bareB w = true then w else 39 :: (enc w ++ [39])
def Vl.tok : Vl → Tok
  | .int n => .num n
  | .str w => if bareB w = true then .word w else .quo w
/-- the signs that the law takes for plain -/
def lets : List Nat := [97, 98, 90, 95, 57, 110, 111, 116, 99, 117, 115, 108, 101, 109]
def Dom (w : List Nat) : Prop := (∀ c ∈ w, c ∈ lets ↔ c ∈ inner) ∨ w = [86, 49]
def Vl.Ok : Vl → Prop
  | .int n => n.natAbs < 10 ^ 18
  | .str w => w.length ≤ 5 ∧ Dom w ∧ ∀ c ∈ w, c < 128
theorem tok_tx (v : Vl) : v.tok.tx = v.told := by
  cases v with
  | int n => rfl
  | str w =>
    show (if bareB w = true then Tok.word w else Tok.quo w).tx = if bareB w = true then w else 39 :: (enc w ++ [39])
    split
    · rfl
    · rfl
theorem plain_cons {w : List Nat} (h : plainB w = true) : ∃ c w', w = c :: w' ∧ c ∈ smalls ∧ ∀ x ∈ c :: w', x ∈ inner := by
  cases w with
  | nil => cases h
  | cons c w' =>
    have h' : (decide (c ∈ smalls) && (c :: w').all fun x => decide (x ∈ inner)) = true := h
    rw [Bool.and_eq_true, decide_eq_true_eq, List.all_eq_true] at h'
    exact ⟨c, w', rfl, h'.1, fun x hx => of_decide_eq_true (h'.2 x hx)⟩
theorem bare_plain {w : List Nat} (h : bareB w = true) : plainB w = true ∧ w ∉ kws := by
  unfold bareB at h
  rw [Bool.and_eq_true, Bool.not_eq_true', decide_eq_false_iff_not] at h
  exact h
theorem told_len {v : Vl} (h : v.Ok) : v.told.length ≤ 19 := by
  cases v with
  | int n => exact digits_len h
  | str w =>
    have h1 := enc_len w
    have h2 := h.1
    show (if bareB w = true then w else 39 :: (enc w ++ [39])).length ≤ 19
    split
    · omega
    · rw [List.length_cons, List.length_append, List.length_singleton]
      omega
/-- a written value, followed by no sign that would go on -/
theorem tok_fits {v : Vl} (h : v.Ok) {r : List Nat} (hr : ∀ c r', r = c :: r' → c ∉ inner) : Fits v.tok r := by
  cases v with
  | int n =>
    refine ⟨h, fun c r' e hc => hr c r' e ?_⟩
    have := figs_iff.mp hc
    exact inner_iff.mpr (by omega)
  | str w =>
    show Fits (if bareB w = true then Tok.word w else Tok.quo w) r
    by_cases hb : bareB w = true
    · rw [if_pos hb]
      obtain ⟨c, w', e, hc, hw⟩ := plain_cons (bare_plain hb).1
      exact ⟨⟨c, w', e, hc, fun x hx => hw x (List.mem_cons_of_mem _ hx)⟩, hr⟩
    · rw [if_neg hb]
      exact True.intro
theorem tok_lets (v : Vl) : v.tok.lets = false := by
  cases v with
  | int n => rfl
  | str w =>
    show (if bareB w = true then Tok.word w else Tok.quo w).lets = false
    split
    · rfl
    · rfl
/-- one value alone -/
theorem cuts_one {v : Vl} (h : v.Ok) : Cuts true v.told [v.tok] := by
  have c := Cuts.cons (ok := true) (k := 0) (tok_fits (r := []) h (fun _ _ e => nomatch e)) (fun _ => rfl) (Cuts.nil (ok := v.tok.lets))
  rw [tok_tx, List.append_nil] at c
  exact c
/-! ### rows and facts -/
def rowL (vs : List Vl) : List Nat := TL.joinL [44, 32] (vs.map Vl.told)
def atomL (nm : List Nat) (vs : List Vl) : List Nat := if vs = [] then nm else nm ++ (40 :: (rowL vs ++ [41]))
def factL (nm : List Nat) (vs : List Vl) : List Nat := atomL nm vs ++ [46]
def argToks : List Vl → List Tok
  | [] => []
  | [v] => [v.tok]
  | v :: u :: r => v.tok :: .mk 44 :: argToks (u :: r)
def factToks (nm : List Nat) (vs : List Vl) : List Tok := .word nm :: (if vs = [] then [.mk 46] else .mk 40 :: (argToks vs ++ [.mk 41, .mk 46]))
theorem out_mk {c : Nat} (h : c = 41 ∨ c = 44 ∨ c = 40 ∨ c = 46) : c ∉ inner := fun hm => by
  have := inner_iff.mp hm
  omega
theorem cuts_args : ∀ (vs : List Vl) (k : Nat) (r : List Nat) (ts : List Tok), vs ≠ [] → (∀ v ∈ vs, v.Ok) → Cuts false r ts → Cuts true (List.replicate k 32 ++ (rowL vs ++ 41 :: r)) (argToks vs ++ .mk 41 :: ts)
  | [], _, _, _, h, _, _ => absurd rfl h
  | [v], k, r, ts, _, hv, c => by
    have hv0 := hv v (List.mem_cons_self ..)
    have c1 : Cuts v.tok.lets (41 :: r) (.mk 41 :: ts) := Cuts.cons (k := 0) (t := .mk 41) (r := r) (.inr (.inl rfl)) (fun e => nomatch e) c
    have c2 := Cuts.cons (ok := true) (k := k) (tok_fits (r := 41 :: r) hv0 fun c r' e => by
      rw [← (List.cons.inj e).1]
      exact out_mk (.inl rfl)) (fun _ => rfl) c1
    rw [tok_tx] at c2
    exact c2
  | v :: u :: vs, k, r, ts, _, hv, c => by
    have hv0 := hv v (List.mem_cons_self ..)
    have ih := cuts_args (u :: vs) 1 r ts (List.cons_ne_nil _ _) (fun x hx => hv x (List.mem_cons_of_mem _ hx)) c
    have c1 : Cuts v.tok.lets (44 :: (List.replicate 1 32 ++ (rowL (u :: vs) ++ 41 :: r))) (.mk 44 :: (argToks (u :: vs) ++ .mk 41 :: ts)) :=
      Cuts.cons (k := 0) (t := .mk 44) (.inr (.inr (.inl rfl))) (fun e => nomatch e) ih
    have c2 := Cuts.cons (ok := true) (k := k) (tok_fits (r := 44 :: (List.replicate 1 32 ++ (rowL (u :: vs) ++ 41 :: r))) hv0 fun c r' e => by
      rw [← (List.cons.inj e).1]
      exact out_mk (.inr (.inl rfl))) (fun _ => rfl) c1
    rw [tok_tx] at c2
    have e : rowL (v :: u :: vs) ++ 41 :: r = v.told ++ 44 :: (List.replicate 1 32 ++ (rowL (u :: vs) ++ 41 :: r)) := by
      show (v.told ++ ([44, 32] ++ rowL (u :: vs))) ++ 41 :: r = _
      rw [List.append_assoc, List.append_assoc]
      rfl
    rw [e]
    exact c2
/-- a fact's text is cut into its tokens -/
theorem cuts_fact {nm : List Nat} (hn : ∃ c w', nm = c :: w' ∧ c ∈ smalls ∧ ∀ x ∈ w', x ∈ inner) {vs : List Vl} (hv : ∀ v ∈ vs, v.Ok) : Cuts true (factL nm vs) (factToks nm vs) := by
  have dot : ∀ {ok : Bool}, Cuts ok [46] [.mk 46] := fun {ok} => Cuts.cons (ok := ok) (k := 0) (t := .mk 46) (r := []) (.inr (.inr (.inr rfl))) (fun e => nomatch e) .nil
  unfold factL atomL factToks
  by_cases h : vs = []
  · rw [if_pos h, if_pos h]
    exact Cuts.cons (ok := true) (k := 0) (t := .word nm) (r := [46]) ⟨hn, fun c r' e => by
      rw [← (List.cons.inj e).1]
      exact out_mk (by omega)⟩ (fun e => nomatch e) dot
  · rw [if_neg h, if_neg h]
    have c1 := cuts_args vs 0 [46] [.mk 46] h hv dot
    have c2 : Cuts false (40 :: (List.replicate 0 32 ++ (rowL vs ++ 41 :: [46]))) (.mk 40 :: (argToks vs ++ .mk 41 :: [.mk 46])) := Cuts.cons (ok := false) (k := 0) (t := .mk 40) (.inl rfl) (fun e => nomatch e) c1
    have c3 := Cuts.cons (ok := true) (k := 0) (t := .word nm) ⟨hn, fun c r' e => by
      rw [← (List.cons.inj e).1]
      exact out_mk (by omega)⟩ (fun e => nomatch e) c2
    have e : nm ++ (40 :: (rowL vs ++ [41])) ++ [46] = nm ++ 40 :: (List.replicate 0 32 ++ (rowL vs ++ 41 :: [46])) := by
      rw [List.append_assoc, List.cons_append, List.append_assoc]
      rfl
    rw [e]
    exact c3
theorem rowL_len : ∀ {vs : List Vl}, (∀ v ∈ vs, v.Ok) → (rowL vs).length ≤ 21 * vs.length
  | [], _ => Nat.le_refl _
  | [v], h => by
    have := told_len (h v (List.mem_cons_self ..))
    show v.told.length ≤ 21
    omega
  | v :: u :: r, h => by
    have h1 := told_len (h v (List.mem_cons_self ..))
    have h2 := rowL_len (vs := u :: r) fun x hx => h x (List.mem_cons_of_mem _ hx)
    show (v.told ++ ([44, 32] ++ rowL (u :: r))).length ≤ 21 * (r.length + 1 + 1)
    rw [List.length_append, List.length_append]
    rw [List.length_cons] at h2
    show _ + (2 + _) ≤ _
    omega
/-! ### the tokens of a fact by their places -/
theorem argToks_len : ∀ vs : List Vl, vs ≠ [] → (argToks vs).length = 2 * vs.length - 1
  | [], h => absurd rfl h
  | [_], _ => rfl
  | v :: u :: r, _ => by
    have ih := argToks_len (u :: r) (List.cons_ne_nil _ _)
    show (argToks (u :: r)).length + 1 + 1 = _
    rw [ih]
    simp only [List.length_cons]
    omega
theorem argToks_val : ∀ (vs : List Vl) (j : Nat), (argToks vs)[2 * j]? = vs[j]?.map Vl.tok
  | [], j => by simp [argToks]
  | [v], 0 => rfl
  | [v], j + 1 => by
    show ([v.tok] : List Tok)[2 * (j + 1)]? = _
    simp
  | v :: u :: r, 0 => rfl
  | v :: u :: r, j + 1 => argToks_val (u :: r) j
theorem argToks_sep : ∀ (vs : List Vl) (j : Nat), j + 1 < vs.length → (argToks vs)[2 * j + 1]? = some (.mk 44)
  | [], _, h => by simp at h
  | [_], _, h => by simp at h
  | v :: u :: r, 0, _ => rfl
  | v :: u :: r, j + 1, h => argToks_sep (u :: r) j (by simp at h; simp; omega)
section
variable {nm : List Nat} {vs : List Vl}
theorem ft_len (h : vs ≠ []) : (factToks nm vs).length = 2 * vs.length + 3 := by
  have hl := argToks_len vs h
  have hp := List.length_pos_iff.mpr h
  unfold factToks
  rw [if_neg h, List.length_cons, List.length_cons, List.length_append, hl]
  show _ - 1 + 2 + 1 + 1 = _
  omega
theorem ft_val (h : vs ≠ []) {j : Nat} {v : Vl} (hj : vs[j]? = some v) : (factToks nm vs)[2 * j + 2]? = some v.tok := by
  have hl := argToks_len vs h
  have hlt : j < vs.length := (List.getElem?_eq_some_iff.mp hj).1
  unfold factToks
  rw [if_neg h]
  show (argToks vs ++ [.mk 41, .mk 46])[2 * j]? = _
  rw [List.getElem?_append_left (by omega), argToks_val, hj]
  rfl
theorem ft_sep (h : vs ≠ []) {j : Nat} (hj : j + 1 < vs.length) : (factToks nm vs)[2 * j + 3]? = some (.mk 44) := by
  have hl := argToks_len vs h
  unfold factToks
  rw [if_neg h]
  show (argToks vs ++ [.mk 41, .mk 46])[2 * j + 1]? = _
  rw [List.getElem?_append_left (by omega), argToks_sep vs j hj]
theorem ft_close (h : vs ≠ []) : (factToks nm vs)[2 * vs.length + 1]? = some (.mk 41) := by
  have hl := argToks_len vs h
  have hp := List.length_pos_iff.mpr h
  unfold factToks
  rw [if_neg h, show 2 * vs.length + 1 = (2 * vs.length - 1) + 1 + 1 by omega]
  show (argToks vs ++ [.mk 41, .mk 46])[2 * vs.length - 1]? = _
  rw [List.getElem?_append_right (by omega), hl, Nat.sub_self]
  rfl
theorem ft_dot (h : vs ≠ []) : (factToks nm vs)[2 * vs.length + 2]? = some (.mk 46) := by
  have hl := argToks_len vs h
  have hp := List.length_pos_iff.mpr h
  unfold factToks
  rw [if_neg h, show 2 * vs.length + 2 = 2 * vs.length + 1 + 1 by omega]
  show (argToks vs ++ [.mk 41, .mk 46])[2 * vs.length]? = _
  rw [List.getElem?_append_right (by omega), hl, show 2 * vs.length - (2 * vs.length - 1) = 1 by omega]
  rfl
theorem ft_open (h : vs ≠ []) : (factToks nm vs)[1]? = some (.mk 40) := by
  unfold factToks
  rw [if_neg h]
  rfl
theorem ft_name : (factToks nm vs)[0]? = some (.word nm) := rfl
end
/-! ### what the law reckons -/
def nowB : List Nat → Bool
  | [] => false
  | c :: w => (decide (97 ≤ c) && decide (c ≤ 122)) && (c :: w).all fun x => decide (x ∈ lets)
theorem now_plain {w : List Nat} (h : Dom w) : nowB w = plainB w := by
  rcases h with h | h
  · cases w with
    | nil => rfl
    | cons c w =>
      show ((decide (97 ≤ c) && decide (c ≤ 122)) && (c :: w).all fun x => decide (x ∈ lets)) = (decide (c ∈ smalls) && (c :: w).all fun x => decide (x ∈ inner))
      have e1 : (decide (97 ≤ c) && decide (c ≤ 122)) = decide (c ∈ smalls) := by
        rw [Bool.eq_iff_iff, Bool.and_eq_true, decide_eq_true_eq, decide_eq_true_eq, decide_eq_true_eq, smalls_iff]
      have e2 : ((c :: w).all fun x => decide (x ∈ lets)) = (c :: w).all fun x => decide (x ∈ inner) := by
        rw [Bool.eq_iff_iff, List.all_eq_true, List.all_eq_true]
        constructor
        · intro g x hx
          exact decide_eq_true ((h x hx).mp (of_decide_eq_true (g x hx)))
        · intro g x hx
          exact decide_eq_true ((h x hx).mpr (of_decide_eq_true (g x hx)))
      rw [e1, e2]
  · subst h
    decide
def alpha : List Nat := [97, 98, 90, 95, 57, 32, 39, 92, 10, 44, 46, 40, 58, 45, 35, 42]
theorem alpha_dom {w : List Nat} (h : ∀ c ∈ w, c ∈ alpha) : Dom w := .inl fun c hc => by
  have hm := h c hc
  have hall : ∀ c ∈ alpha, (c ∈ lets ↔ c ∈ inner) := by decide
  exact hall c hm
theorem alpha_ok {w : List Nat} (hl : w.length ≤ 5) (h : ∀ c ∈ w, c ∈ alpha) : (Vl.str w).Ok := ⟨hl, alpha_dom h, fun c hc => by
  have hall : ∀ c ∈ alpha, c < 128 := by decide
  exact hall c (h c hc)⟩
def specials : List (List Nat) := [[110, 111, 116], [99, 111, 117, 110, 116], [115, 117, 109], [108, 101, 97, 115, 116], [109, 111, 115, 116], [], [101], [95], [86, 49]]
theorem special_ok {w : List Nat} (h : w ∈ specials) : (Vl.str w).Ok := by
  have hall : ∀ w ∈ specials, w.length ≤ 5 ∧ ((∀ c ∈ w, c ∈ lets ↔ c ∈ inner) ∨ w = [86, 49]) ∧ ∀ c ∈ w, c < 128 := by decide
  exact hall w h
theorem kws_told {w : List Nat} (h : w ∈ kws) : (Vl.str w).told ≠ w := by
  have hall : ∀ w ∈ kws, (Vl.str w).told ≠ w := by decide
  exact hall w h
end K46
set_option Elab.async false
set_option linter.all false
set_option maxRecDepth 100000
set_option maxHeartbeats 2000000
/-! The defs by their places, what the top leaves of them. Printed by gen.py. -/
namespace K46
open PySem PySem.Spec PyProof.Rows L2 SX
def top (i : Nat) : Stmt := PySem.Challenge.pw_deducehall_k46_values_written_and_read.main.body.getD i (.Pass ⟨0, 0, 0, 0⟩)
abbrev s_Sign_init : Stmt := L2.inClass (top 13) 0
abbrev s_Sign_is_mark : Stmt := L2.inClass (top 13) 2
abbrev s_Cutter_init : Stmt := L2.inClass (top 14) 0
abbrev s_Cutter_at_end : Stmt := L2.inClass (top 14) 1
abbrev s_Cutter_run : Stmt := L2.inClass (top 14) 2
abbrev s_Cutter_quoted : Stmt := L2.inClass (top 14) 3
abbrev s_Cutter_signed : Stmt := L2.inClass (top 14) 4
abbrev s_Cutter_take_number : Stmt := L2.inClass (top 14) 5
abbrev s_Cutter_mark : Stmt := L2.inClass (top 14) 6
abbrev s_Cutter_cut_one : Stmt := L2.inClass (top 14) 7
abbrev s_cut : Stmt := top 16
abbrev s_marked : Stmt := top 17
abbrev s_Term_init : Stmt := L2.inClass (top 19) 0
abbrev s_Term_is_variable : Stmt := L2.inClass (top 19) 1
abbrev s_var : Stmt := top 20
abbrev s_val : Stmt := top 21
abbrev s_is_number : Stmt := top 22
abbrev s_names_in : Stmt := top 23
abbrev s_is_plain : Stmt := top 25
abbrev s_told_value : Stmt := top 26
abbrev s_is_kept : Stmt := top 27
abbrev s_told_term : Stmt := top 28
abbrev s_Rule_init : Stmt := L2.inClass (top 34) 0
abbrev s_is_fact : Stmt := top 41
abbrev s_row_of : Stmt := top 42
abbrev s_is_name : Stmt := top 43
abbrev s_Clause_init : Stmt := L2.inClass (top 45) 0
abbrev s_Reader_init : Stmt := L2.inClass (top 46) 0
abbrev s_Reader_at_end : Stmt := L2.inClass (top 46) 1
abbrev s_Reader_here : Stmt := L2.inClass (top 46) 2
abbrev s_Reader_is_here : Stmt := L2.inClass (top 46) 3
abbrev s_Reader_take : Stmt := L2.inClass (top 46) 4
abbrev s_Reader_word : Stmt := L2.inClass (top 46) 5
abbrev s_Reader_term : Stmt := L2.inClass (top 46) 6
abbrev s_Reader_summed_here : Stmt := L2.inClass (top 46) 8
abbrev s_Reader_head : Stmt := L2.inClass (top 46) 9
abbrev s_Reader_clause : Stmt := L2.inClass (top 46) 13
abbrev s_read : Stmt := top 47
abbrev s_read_rule : Stmt := top 48
abbrev s_told_atom : Stmt := top 49
abbrev s_told_rule : Stmt := top 52
abbrev s_fact_text : Stmt := top 54
abbrev s_read_fact : Stmt := top 55
abbrev s_law_dice : Stmt := top 57
abbrev s_law_roll : Stmt := top 58
abbrev s_law_rounds : Stmt := top 59
abbrev s_law : Stmt := top 60
theorem sc_Sign_init : FnScope ["self", "kind", "said", "row", "column"] ["self", "kind", "said", "row", "column"] (C8.fnScope s_Sign_init) := C8.fnScope_by (by decide +kernel)
theorem sc_Sign_is_mark : FnScope ["self", "said"] ["self", "said"] (C8.fnScope s_Sign_is_mark) := C8.fnScope_by (by decide +kernel)
theorem sc_Cutter_init : FnScope ["self", "text"] ["self", "text"] (C8.fnScope s_Cutter_init) := C8.fnScope_by (by decide +kernel)
theorem sc_Cutter_at_end : FnScope ["self", "sign", "end"] ["self"] (C8.fnScope s_Cutter_at_end) := C8.fnScope_by (by decide +kernel)
theorem sc_Cutter_run : FnScope ["self", "good", "start"] ["self", "good"] (C8.fnScope s_Cutter_run) := C8.fnScope_by (by decide +kernel)
theorem sc_Cutter_quoted : FnScope ["self", "said", "place", "sign"] ["self"] (C8.fnScope s_Cutter_quoted) := C8.fnScope_by (by decide +kernel)
theorem sc_Cutter_signed : FnScope ["self", "after", "last"] ["self"] (C8.fnScope s_Cutter_signed) := C8.fnScope_by (by decide +kernel)
theorem sc_Cutter_take_number : FnScope ["self", "said"] ["self"] (C8.fnScope s_Cutter_take_number) := C8.fnScope_by (by decide +kernel)
theorem sc_Cutter_mark : FnScope ["self", "said"] ["self"] (C8.fnScope s_Cutter_mark) := C8.fnScope_by (by decide +kernel)
theorem sc_Cutter_cut_one : FnScope ["self", "column", "first", "kind", "said"] ["self"] (C8.fnScope s_Cutter_cut_one) := C8.fnScope_by (by decide +kernel)
theorem sc_cut : FnScope ["text", "cutter"] ["text"] (C8.fnScope s_cut) := C8.fnScope_by (by decide +kernel)
theorem sc_marked : FnScope ["said"] ["said"] (C8.fnScope s_marked) := C8.fnScope_by (by decide +kernel)
theorem sc_Term_init : FnScope ["self", "name", "value"] ["self", "name", "value"] (C8.fnScope s_Term_init) := C8.fnScope_by (by decide +kernel)
theorem sc_Term_is_variable : FnScope ["self"] ["self"] (C8.fnScope s_Term_is_variable) := C8.fnScope_by (by decide +kernel)
theorem sc_var : FnScope ["name"] ["name"] (C8.fnScope s_var) := C8.fnScope_by (by decide +kernel)
theorem sc_val : FnScope ["value"] ["value"] (C8.fnScope s_val) := C8.fnScope_by (by decide +kernel)
theorem sc_is_number : FnScope ["value"] ["value"] (C8.fnScope s_is_number) := C8.fnScope_by (by decide +kernel)
theorem sc_names_in : FnScope ["terms", "found", "term"] ["terms"] (C8.fnScope s_names_in) := C8.fnScope_by (by decide +kernel)
theorem sc_is_plain : FnScope ["word"] ["word"] (C8.fnScope s_is_plain) := C8.fnScope_by (by decide +kernel)
theorem sc_told_value : FnScope ["value"] ["value"] (C8.fnScope s_told_value) := C8.fnScope_by (by decide +kernel)
theorem sc_is_kept : FnScope ["name"] ["name"] (C8.fnScope s_is_kept) := C8.fnScope_by (by decide +kernel)
theorem sc_told_term : FnScope ["term"] ["term"] (C8.fnScope s_told_term) := C8.fnScope_by (by decide +kernel)
theorem sc_Rule_init : FnScope ["self", "name", "terms", "body", "summed", "literal"] ["self", "name", "terms", "body", "summed"] (C8.fnScope s_Rule_init) := C8.fnScope_by (by decide +kernel)
theorem sc_is_fact : FnScope ["rule"] ["rule"] (C8.fnScope s_is_fact) := C8.fnScope_by (by decide +kernel)
theorem sc_row_of : FnScope ["rule", "term"] ["rule"] (C8.fnScope s_row_of) := C8.fnScope_by (by decide +kernel)
theorem sc_is_name : FnScope ["name"] ["name"] (C8.fnScope s_is_name) := C8.fnScope_by (by decide +kernel)
theorem sc_Clause_init : FnScope ["self", "kind", "rule", "body"] ["self", "kind", "rule", "body"] (C8.fnScope s_Clause_init) := C8.fnScope_by (by decide +kernel)
theorem sc_Reader_init : FnScope ["self", "signs"] ["self", "signs"] (C8.fnScope s_Reader_init) := C8.fnScope_by (by decide +kernel)
theorem sc_Reader_at_end : FnScope ["self"] ["self"] (C8.fnScope s_Reader_at_end) := C8.fnScope_by (by decide +kernel)
theorem sc_Reader_here : FnScope ["self"] ["self"] (C8.fnScope s_Reader_here) := C8.fnScope_by (by decide +kernel)
theorem sc_Reader_is_here : FnScope ["self", "said"] ["self", "said"] (C8.fnScope s_Reader_is_here) := C8.fnScope_by (by decide +kernel)
theorem sc_Reader_take : FnScope ["self", "said"] ["self", "said"] (C8.fnScope s_Reader_take) := C8.fnScope_by (by decide +kernel)
theorem sc_Reader_word : FnScope ["self", "sign"] ["self"] (C8.fnScope s_Reader_word) := C8.fnScope_by (by decide +kernel)
theorem sc_Reader_term : FnScope ["self", "sign", "one"] ["self"] (C8.fnScope s_Reader_term) := C8.fnScope_by (by decide +kernel)
theorem sc_Reader_summed_here : FnScope ["self", "sign"] ["self"] (C8.fnScope s_Reader_summed_here) := C8.fnScope_by (by decide +kernel)
theorem sc_Reader_head : FnScope ["self", "name", "terms", "summed"] ["self"] (C8.fnScope s_Reader_head) := C8.fnScope_by (by decide +kernel)
theorem sc_Reader_clause : FnScope ["self", "kind", "body", "name", "terms", "summed"] ["self"] (C8.fnScope s_Reader_clause) := C8.fnScope_by (by decide +kernel)
theorem sc_read : FnScope ["text", "reader", "found"] ["text"] (C8.fnScope s_read) := C8.fnScope_by (by decide +kernel)
theorem sc_read_rule : FnScope ["text", "found"] ["text"] (C8.fnScope s_read_rule) := C8.fnScope_by (by decide +kernel)
theorem sc_told_atom : FnScope ["name", "terms", "term"] ["name", "terms"] (C8.fnScope s_told_atom) := C8.fnScope_by (by decide +kernel)
theorem sc_told_rule : FnScope ["rule", "words", "term", "place", "kind", "head"] ["rule"] (C8.fnScope s_told_rule) := C8.fnScope_by (by decide +kernel)
theorem sc_fact_text : FnScope ["name", "row", "value"] ["name", "row"] (C8.fnScope s_fact_text) := C8.fnScope_by (by decide +kernel)
theorem sc_read_fact : FnScope ["text", "rule"] ["text"] (C8.fnScope s_read_fact) := C8.fnScope_by (by decide +kernel)
theorem sc_law_dice : FnScope ["_law_cell"] ["_law_cell"] (C8.fnScope s_law_dice) := C8.fnScope_by (by decide +kernel)
theorem sc_law_roll : FnScope ["_law_dice_here", "_law_many", "_law_found"] ["_law_dice_here", "_law_many"] (C8.fnScope s_law_roll) := C8.fnScope_by (by decide +kernel)
theorem sc_law_rounds : FnScope ["_law_script", "_law_most", "_law_cells", "_law_cell"] ["_law_script", "_law_most"] (C8.fnScope s_law_rounds) := C8.fnScope_by (by decide +kernel)
theorem sc_law : FnScope ["_law_script", "_law_dice_here", "_law_row", "_law_turn", "_law_number", "_law_k", "_law_value", "_law_text", "_law_signs", "_law_plain_now", "_law_sign", "_law_rule", "_law_term"] ["_law_script"] (C8.fnScope s_law) := C8.fnScope_by (by decide +kernel)
/-- a def as it stands behind the top -/
def DefOf (K : PySem.W.Frag) (at_ : Str × Option Str) (x qual : Str) (st : Stmt) (dvs : List V) : Prop := ∃ fd, FunD K x qual (C8.fnArgs st) (C8.fnBody st) (C8.fnScope st) dvs [] (He.fAd K at_) fd
structure Tx (K : PySem.W.Frag) (mg : Str → Option Value) : Prop where
  cl_Sign : Cls K (He.ga K "Sign")
  mg_Sign : mg "Sign" = some (.ref (He.ga K "Sign"))
  mk_Sign : Mk K (He.ga K "Sign") (He.ma K (He.ga K "Sign") "__init__")
  na_Sign_kind : NoAttr K (He.ga K "Sign") "kind"
  na_Sign_said : NoAttr K (He.ga K "Sign") "said"
  na_Sign_row : NoAttr K (He.ga K "Sign") "row"
  na_Sign_column : NoAttr K (He.ga K "Sign") "column"
  cl_Cutter : Cls K (He.ga K "Cutter")
  mg_Cutter : mg "Cutter" = some (.ref (He.ga K "Cutter"))
  mk_Cutter : Mk K (He.ga K "Cutter") (He.ma K (He.ga K "Cutter") "__init__")
  na_Cutter_text : NoAttr K (He.ga K "Cutter") "text"
  na_Cutter_place : NoAttr K (He.ga K "Cutter") "place"
  na_Cutter_row : NoAttr K (He.ga K "Cutter") "row"
  na_Cutter_begun : NoAttr K (He.ga K "Cutter") "begun"
  na_Cutter_signs : NoAttr K (He.ga K "Cutter") "signs"
  cl_Term : Cls K (He.ga K "Term")
  mg_Term : mg "Term" = some (.ref (He.ga K "Term"))
  mk_Term : Mk K (He.ga K "Term") (He.ma K (He.ga K "Term") "__init__")
  na_Term_name : NoAttr K (He.ga K "Term") "name"
  na_Term_value : NoAttr K (He.ga K "Term") "value"
  cl_Rule : Cls K (He.ga K "Rule")
  mg_Rule : mg "Rule" = some (.ref (He.ga K "Rule"))
  mk_Rule : Mk K (He.ga K "Rule") (He.ma K (He.ga K "Rule") "__init__")
  na_Rule_name : NoAttr K (He.ga K "Rule") "name"
  na_Rule_terms : NoAttr K (He.ga K "Rule") "terms"
  na_Rule_body : NoAttr K (He.ga K "Rule") "body"
  na_Rule_summed : NoAttr K (He.ga K "Rule") "summed"
  na_Rule_stands : NoAttr K (He.ga K "Rule") "stands"
  cl_Clause : Cls K (He.ga K "Clause")
  mg_Clause : mg "Clause" = some (.ref (He.ga K "Clause"))
  mk_Clause : Mk K (He.ga K "Clause") (He.ma K (He.ga K "Clause") "__init__")
  na_Clause_kind : NoAttr K (He.ga K "Clause") "kind"
  na_Clause_rule : NoAttr K (He.ga K "Clause") "rule"
  na_Clause_body : NoAttr K (He.ga K "Clause") "body"
  cl_Reader : Cls K (He.ga K "Reader")
  mg_Reader : mg "Reader" = some (.ref (He.ga K "Reader"))
  mk_Reader : Mk K (He.ga K "Reader") (He.ma K (He.ga K "Reader") "__init__")
  na_Reader_signs : NoAttr K (He.ga K "Reader") "signs"
  na_Reader_place : NoAttr K (He.ga K "Reader") "place"
  na_Reader_bare : NoAttr K (He.ga K "Reader") "bare"
  me_Sign_is_mark : Meth K (He.ga K "Sign") "is_mark" (He.ma K (He.ga K "Sign") "is_mark")
  me_Cutter_at_end : Meth K (He.ga K "Cutter") "at_end" (He.ma K (He.ga K "Cutter") "at_end")
  me_Cutter_run : Meth K (He.ga K "Cutter") "run" (He.ma K (He.ga K "Cutter") "run")
  me_Cutter_quoted : Meth K (He.ga K "Cutter") "quoted" (He.ma K (He.ga K "Cutter") "quoted")
  me_Cutter_signed : Meth K (He.ga K "Cutter") "signed" (He.ma K (He.ga K "Cutter") "signed")
  me_Cutter_take_number : Meth K (He.ga K "Cutter") "take_number" (He.ma K (He.ga K "Cutter") "take_number")
  me_Cutter_mark : Meth K (He.ga K "Cutter") "mark" (He.ma K (He.ga K "Cutter") "mark")
  me_Cutter_cut_one : Meth K (He.ga K "Cutter") "cut_one" (He.ma K (He.ga K "Cutter") "cut_one")
  mg_cut : mg "cut" = some (.ref (He.ga K "cut"))
  mg_marked : mg "marked" = some (.ref (He.ga K "marked"))
  me_Term_is_variable : Meth K (He.ga K "Term") "is_variable" (He.ma K (He.ga K "Term") "is_variable")
  mg_var : mg "var" = some (.ref (He.ga K "var"))
  mg_val : mg "val" = some (.ref (He.ga K "val"))
  mg_is_number : mg "is_number" = some (.ref (He.ga K "is_number"))
  mg_names_in : mg "names_in" = some (.ref (He.ga K "names_in"))
  mg_is_plain : mg "is_plain" = some (.ref (He.ga K "is_plain"))
  mg_told_value : mg "told_value" = some (.ref (He.ga K "told_value"))
  mg_is_kept : mg "is_kept" = some (.ref (He.ga K "is_kept"))
  mg_told_term : mg "told_term" = some (.ref (He.ga K "told_term"))
  mg_is_fact : mg "is_fact" = some (.ref (He.ga K "is_fact"))
  mg_row_of : mg "row_of" = some (.ref (He.ga K "row_of"))
  mg_is_name : mg "is_name" = some (.ref (He.ga K "is_name"))
  me_Reader_at_end : Meth K (He.ga K "Reader") "at_end" (He.ma K (He.ga K "Reader") "at_end")
  me_Reader_here : Meth K (He.ga K "Reader") "here" (He.ma K (He.ga K "Reader") "here")
  me_Reader_is_here : Meth K (He.ga K "Reader") "is_here" (He.ma K (He.ga K "Reader") "is_here")
  me_Reader_take : Meth K (He.ga K "Reader") "take" (He.ma K (He.ga K "Reader") "take")
  me_Reader_word : Meth K (He.ga K "Reader") "word" (He.ma K (He.ga K "Reader") "word")
  me_Reader_term : Meth K (He.ga K "Reader") "term" (He.ma K (He.ga K "Reader") "term")
  me_Reader_summed_here : Meth K (He.ga K "Reader") "summed_here" (He.ma K (He.ga K "Reader") "summed_here")
  me_Reader_head : Meth K (He.ga K "Reader") "head" (He.ma K (He.ga K "Reader") "head")
  me_Reader_clause : Meth K (He.ga K "Reader") "clause" (He.ma K (He.ga K "Reader") "clause")
  mg_read : mg "read" = some (.ref (He.ga K "read"))
  mg_read_rule : mg "read_rule" = some (.ref (He.ga K "read_rule"))
  mg_told_atom : mg "told_atom" = some (.ref (He.ga K "told_atom"))
  mg_told_rule : mg "told_rule" = some (.ref (He.ga K "told_rule"))
  mg_fact_text : mg "fact_text" = some (.ref (He.ga K "fact_text"))
  mg_read_fact : mg "read_fact" = some (.ref (He.ga K "read_fact"))
  mg_law_dice : mg "_law_dice" = some (.ref (He.ga K "_law_dice"))
  mg_law_roll : mg "_law_roll" = some (.ref (He.ga K "_law_roll"))
  mg_law_rounds : mg "_law_rounds" = some (.ref (He.ga K "_law_rounds"))
  mg_law : mg "law" = some (.ref (He.ga K "law"))
  fr_len : mg "len" = none
  fr_tuple : mg "tuple" = none
  fr_int : mg "int" = none
  fr_str : mg "str" = none
  fr_isinstance : mg "isinstance" = none
  fr_abs : mg "abs" = none
  fr_range : mg "range" = none
  st_FIGURES : ∃ t, mg "FIGURES" = some (.str (S figs) t)
  st_SMALL : ∃ t, mg "SMALL" = some (.str (S smalls) t)
  st_GREAT : ∃ t, mg "GREAT" = some (.str (S greats) t)
  st_INNER : ∃ t, mg "INNER" = some (.str (S inner) t)
  in_MOST_FIGURES : ∃ t, mg "MOST_FIGURES" = some (.int 18 t)
  mg_MARKS : mg "MARKS" = some (.ref (He.ga K "MARKS"))
  mg_SUMS : mg "SUMS" = some (.ref (He.ga K "SUMS"))
  df_Sign_init : DefOf K ("Sign", some "__init__") "__init__" "Sign.__init__" s_Sign_init []
  df_Sign_is_mark : DefOf K ("Sign", some "is_mark") "is_mark" "Sign.is_mark" s_Sign_is_mark []
  df_Cutter_init : DefOf K ("Cutter", some "__init__") "__init__" "Cutter.__init__" s_Cutter_init []
  df_Cutter_at_end : DefOf K ("Cutter", some "at_end") "at_end" "Cutter.at_end" s_Cutter_at_end []
  df_Cutter_run : DefOf K ("Cutter", some "run") "run" "Cutter.run" s_Cutter_run []
  df_Cutter_quoted : DefOf K ("Cutter", some "quoted") "quoted" "Cutter.quoted" s_Cutter_quoted []
  df_Cutter_signed : DefOf K ("Cutter", some "signed") "signed" "Cutter.signed" s_Cutter_signed []
  df_Cutter_take_number : DefOf K ("Cutter", some "take_number") "take_number" "Cutter.take_number" s_Cutter_take_number []
  df_Cutter_mark : DefOf K ("Cutter", some "mark") "mark" "Cutter.mark" s_Cutter_mark []
  df_Cutter_cut_one : DefOf K ("Cutter", some "cut_one") "cut_one" "Cutter.cut_one" s_Cutter_cut_one []
  df_cut : DefOf K ("cut", none) "cut" "cut" s_cut []
  df_marked : DefOf K ("marked", none) "marked" "marked" s_marked []
  df_Term_init : DefOf K ("Term", some "__init__") "__init__" "Term.__init__" s_Term_init [.non]
  df_Term_is_variable : DefOf K ("Term", some "is_variable") "is_variable" "Term.is_variable" s_Term_is_variable []
  df_var : DefOf K ("var", none) "var" "var" s_var []
  df_val : DefOf K ("val", none) "val" "val" s_val []
  df_is_number : DefOf K ("is_number", none) "is_number" "is_number" s_is_number []
  df_names_in : DefOf K ("names_in", none) "names_in" "names_in" s_names_in []
  df_is_plain : DefOf K ("is_plain", none) "is_plain" "is_plain" s_is_plain []
  df_told_value : DefOf K ("told_value", none) "told_value" "told_value" s_told_value []
  df_is_kept : DefOf K ("is_kept", none) "is_kept" "is_kept" s_is_kept []
  df_told_term : DefOf K ("told_term", none) "told_term" "told_term" s_told_term []
  df_Rule_init : DefOf K ("Rule", some "__init__") "__init__" "Rule.__init__" s_Rule_init [.non]
  df_is_fact : DefOf K ("is_fact", none) "is_fact" "is_fact" s_is_fact []
  df_row_of : DefOf K ("row_of", none) "row_of" "row_of" s_row_of []
  df_is_name : DefOf K ("is_name", none) "is_name" "is_name" s_is_name []
  df_Clause_init : DefOf K ("Clause", some "__init__") "__init__" "Clause.__init__" s_Clause_init []
  df_Reader_init : DefOf K ("Reader", some "__init__") "__init__" "Reader.__init__" s_Reader_init []
  df_Reader_at_end : DefOf K ("Reader", some "at_end") "at_end" "Reader.at_end" s_Reader_at_end []
  df_Reader_here : DefOf K ("Reader", some "here") "here" "Reader.here" s_Reader_here []
  df_Reader_is_here : DefOf K ("Reader", some "is_here") "is_here" "Reader.is_here" s_Reader_is_here []
  df_Reader_take : DefOf K ("Reader", some "take") "take" "Reader.take" s_Reader_take []
  df_Reader_word : DefOf K ("Reader", some "word") "word" "Reader.word" s_Reader_word []
  df_Reader_term : DefOf K ("Reader", some "term") "term" "Reader.term" s_Reader_term []
  df_Reader_summed_here : DefOf K ("Reader", some "summed_here") "summed_here" "Reader.summed_here" s_Reader_summed_here []
  df_Reader_head : DefOf K ("Reader", some "head") "head" "Reader.head" s_Reader_head []
  df_Reader_clause : DefOf K ("Reader", some "clause") "clause" "Reader.clause" s_Reader_clause []
  df_read : DefOf K ("read", none) "read" "read" s_read []
  df_read_rule : DefOf K ("read_rule", none) "read_rule" "read_rule" s_read_rule []
  df_told_atom : DefOf K ("told_atom", none) "told_atom" "told_atom" s_told_atom []
  df_told_rule : DefOf K ("told_rule", none) "told_rule" "told_rule" s_told_rule []
  df_fact_text : DefOf K ("fact_text", none) "fact_text" "fact_text" s_fact_text []
  df_read_fact : DefOf K ("read_fact", none) "read_fact" "read_fact" s_read_fact []
  df_law_dice : DefOf K ("_law_dice", none) "_law_dice" "_law_dice" s_law_dice []
  df_law_roll : DefOf K ("_law_roll", none) "_law_roll" "_law_roll" s_law_roll []
  df_law_rounds : DefOf K ("_law_rounds", none) "_law_rounds" "_law_rounds" s_law_rounds []
  df_law : DefOf K ("law", none) "law" "law" s_law []
  tu_MARKS : ∀ H : Hp, SqT K H (He.ga K "MARKS") ([.str ":-", .str "?-", .str "<=", .str "!=", .str ":=", .str "(", .str ")", .str ",", .str ".", .str "!", .str "<", .str "=", .str "+", .str "-", .str "*"] : List V)
  tu_SUMS : ∀ H : Hp, SqT K H (He.ga K "SUMS") ([.str "count", .str "sum", .str "least", .str "most"] : List V)
/-! ### the same for the head's look -/
def dd_Sign_init : He.DefD := ⟨("Sign", some "__init__"), "__init__", "Sign.__init__", C8.fnArgs s_Sign_init, C8.fnBody s_Sign_init, C8.fnScope s_Sign_init, [], []⟩
def dd_Sign_is_mark : He.DefD := ⟨("Sign", some "is_mark"), "is_mark", "Sign.is_mark", C8.fnArgs s_Sign_is_mark, C8.fnBody s_Sign_is_mark, C8.fnScope s_Sign_is_mark, [], []⟩
def dd_Cutter_init : He.DefD := ⟨("Cutter", some "__init__"), "__init__", "Cutter.__init__", C8.fnArgs s_Cutter_init, C8.fnBody s_Cutter_init, C8.fnScope s_Cutter_init, [], []⟩
def dd_Cutter_at_end : He.DefD := ⟨("Cutter", some "at_end"), "at_end", "Cutter.at_end", C8.fnArgs s_Cutter_at_end, C8.fnBody s_Cutter_at_end, C8.fnScope s_Cutter_at_end, [], []⟩
def dd_Cutter_run : He.DefD := ⟨("Cutter", some "run"), "run", "Cutter.run", C8.fnArgs s_Cutter_run, C8.fnBody s_Cutter_run, C8.fnScope s_Cutter_run, [], []⟩
def dd_Cutter_quoted : He.DefD := ⟨("Cutter", some "quoted"), "quoted", "Cutter.quoted", C8.fnArgs s_Cutter_quoted, C8.fnBody s_Cutter_quoted, C8.fnScope s_Cutter_quoted, [], []⟩
def dd_Cutter_signed : He.DefD := ⟨("Cutter", some "signed"), "signed", "Cutter.signed", C8.fnArgs s_Cutter_signed, C8.fnBody s_Cutter_signed, C8.fnScope s_Cutter_signed, [], []⟩
def dd_Cutter_take_number : He.DefD := ⟨("Cutter", some "take_number"), "take_number", "Cutter.take_number", C8.fnArgs s_Cutter_take_number, C8.fnBody s_Cutter_take_number, C8.fnScope s_Cutter_take_number, [], []⟩
def dd_Cutter_mark : He.DefD := ⟨("Cutter", some "mark"), "mark", "Cutter.mark", C8.fnArgs s_Cutter_mark, C8.fnBody s_Cutter_mark, C8.fnScope s_Cutter_mark, [], []⟩
def dd_Cutter_cut_one : He.DefD := ⟨("Cutter", some "cut_one"), "cut_one", "Cutter.cut_one", C8.fnArgs s_Cutter_cut_one, C8.fnBody s_Cutter_cut_one, C8.fnScope s_Cutter_cut_one, [], []⟩
def dd_cut : He.DefD := ⟨("cut", none), "cut", "cut", C8.fnArgs s_cut, C8.fnBody s_cut, C8.fnScope s_cut, [], []⟩
def dd_marked : He.DefD := ⟨("marked", none), "marked", "marked", C8.fnArgs s_marked, C8.fnBody s_marked, C8.fnScope s_marked, [], []⟩
def dd_Term_init : He.DefD := ⟨("Term", some "__init__"), "__init__", "Term.__init__", C8.fnArgs s_Term_init, C8.fnBody s_Term_init, C8.fnScope s_Term_init, [.non], []⟩
def dd_Term_is_variable : He.DefD := ⟨("Term", some "is_variable"), "is_variable", "Term.is_variable", C8.fnArgs s_Term_is_variable, C8.fnBody s_Term_is_variable, C8.fnScope s_Term_is_variable, [], []⟩
def dd_var : He.DefD := ⟨("var", none), "var", "var", C8.fnArgs s_var, C8.fnBody s_var, C8.fnScope s_var, [], []⟩
def dd_val : He.DefD := ⟨("val", none), "val", "val", C8.fnArgs s_val, C8.fnBody s_val, C8.fnScope s_val, [], []⟩
def dd_is_number : He.DefD := ⟨("is_number", none), "is_number", "is_number", C8.fnArgs s_is_number, C8.fnBody s_is_number, C8.fnScope s_is_number, [], []⟩
def dd_names_in : He.DefD := ⟨("names_in", none), "names_in", "names_in", C8.fnArgs s_names_in, C8.fnBody s_names_in, C8.fnScope s_names_in, [], []⟩
def dd_is_plain : He.DefD := ⟨("is_plain", none), "is_plain", "is_plain", C8.fnArgs s_is_plain, C8.fnBody s_is_plain, C8.fnScope s_is_plain, [], []⟩
def dd_told_value : He.DefD := ⟨("told_value", none), "told_value", "told_value", C8.fnArgs s_told_value, C8.fnBody s_told_value, C8.fnScope s_told_value, [], []⟩
def dd_is_kept : He.DefD := ⟨("is_kept", none), "is_kept", "is_kept", C8.fnArgs s_is_kept, C8.fnBody s_is_kept, C8.fnScope s_is_kept, [], []⟩
def dd_told_term : He.DefD := ⟨("told_term", none), "told_term", "told_term", C8.fnArgs s_told_term, C8.fnBody s_told_term, C8.fnScope s_told_term, [], []⟩
def dd_Rule_init : He.DefD := ⟨("Rule", some "__init__"), "__init__", "Rule.__init__", C8.fnArgs s_Rule_init, C8.fnBody s_Rule_init, C8.fnScope s_Rule_init, [.non], []⟩
def dd_is_fact : He.DefD := ⟨("is_fact", none), "is_fact", "is_fact", C8.fnArgs s_is_fact, C8.fnBody s_is_fact, C8.fnScope s_is_fact, [], []⟩
def dd_row_of : He.DefD := ⟨("row_of", none), "row_of", "row_of", C8.fnArgs s_row_of, C8.fnBody s_row_of, C8.fnScope s_row_of, [], []⟩
def dd_is_name : He.DefD := ⟨("is_name", none), "is_name", "is_name", C8.fnArgs s_is_name, C8.fnBody s_is_name, C8.fnScope s_is_name, [], []⟩
def dd_Clause_init : He.DefD := ⟨("Clause", some "__init__"), "__init__", "Clause.__init__", C8.fnArgs s_Clause_init, C8.fnBody s_Clause_init, C8.fnScope s_Clause_init, [], []⟩
def dd_Reader_init : He.DefD := ⟨("Reader", some "__init__"), "__init__", "Reader.__init__", C8.fnArgs s_Reader_init, C8.fnBody s_Reader_init, C8.fnScope s_Reader_init, [], []⟩
def dd_Reader_at_end : He.DefD := ⟨("Reader", some "at_end"), "at_end", "Reader.at_end", C8.fnArgs s_Reader_at_end, C8.fnBody s_Reader_at_end, C8.fnScope s_Reader_at_end, [], []⟩
def dd_Reader_here : He.DefD := ⟨("Reader", some "here"), "here", "Reader.here", C8.fnArgs s_Reader_here, C8.fnBody s_Reader_here, C8.fnScope s_Reader_here, [], []⟩
def dd_Reader_is_here : He.DefD := ⟨("Reader", some "is_here"), "is_here", "Reader.is_here", C8.fnArgs s_Reader_is_here, C8.fnBody s_Reader_is_here, C8.fnScope s_Reader_is_here, [], []⟩
def dd_Reader_take : He.DefD := ⟨("Reader", some "take"), "take", "Reader.take", C8.fnArgs s_Reader_take, C8.fnBody s_Reader_take, C8.fnScope s_Reader_take, [], []⟩
def dd_Reader_word : He.DefD := ⟨("Reader", some "word"), "word", "Reader.word", C8.fnArgs s_Reader_word, C8.fnBody s_Reader_word, C8.fnScope s_Reader_word, [], []⟩
def dd_Reader_term : He.DefD := ⟨("Reader", some "term"), "term", "Reader.term", C8.fnArgs s_Reader_term, C8.fnBody s_Reader_term, C8.fnScope s_Reader_term, [], []⟩
def dd_Reader_summed_here : He.DefD := ⟨("Reader", some "summed_here"), "summed_here", "Reader.summed_here", C8.fnArgs s_Reader_summed_here, C8.fnBody s_Reader_summed_here, C8.fnScope s_Reader_summed_here, [], []⟩
def dd_Reader_head : He.DefD := ⟨("Reader", some "head"), "head", "Reader.head", C8.fnArgs s_Reader_head, C8.fnBody s_Reader_head, C8.fnScope s_Reader_head, [], []⟩
def dd_Reader_clause : He.DefD := ⟨("Reader", some "clause"), "clause", "Reader.clause", C8.fnArgs s_Reader_clause, C8.fnBody s_Reader_clause, C8.fnScope s_Reader_clause, [], []⟩
def dd_read : He.DefD := ⟨("read", none), "read", "read", C8.fnArgs s_read, C8.fnBody s_read, C8.fnScope s_read, [], []⟩
def dd_read_rule : He.DefD := ⟨("read_rule", none), "read_rule", "read_rule", C8.fnArgs s_read_rule, C8.fnBody s_read_rule, C8.fnScope s_read_rule, [], []⟩
def dd_told_atom : He.DefD := ⟨("told_atom", none), "told_atom", "told_atom", C8.fnArgs s_told_atom, C8.fnBody s_told_atom, C8.fnScope s_told_atom, [], []⟩
def dd_told_rule : He.DefD := ⟨("told_rule", none), "told_rule", "told_rule", C8.fnArgs s_told_rule, C8.fnBody s_told_rule, C8.fnScope s_told_rule, [], []⟩
def dd_fact_text : He.DefD := ⟨("fact_text", none), "fact_text", "fact_text", C8.fnArgs s_fact_text, C8.fnBody s_fact_text, C8.fnScope s_fact_text, [], []⟩
def dd_read_fact : He.DefD := ⟨("read_fact", none), "read_fact", "read_fact", C8.fnArgs s_read_fact, C8.fnBody s_read_fact, C8.fnScope s_read_fact, [], []⟩
def dd_law_dice : He.DefD := ⟨("_law_dice", none), "_law_dice", "_law_dice", C8.fnArgs s_law_dice, C8.fnBody s_law_dice, C8.fnScope s_law_dice, [], []⟩
def dd_law_roll : He.DefD := ⟨("_law_roll", none), "_law_roll", "_law_roll", C8.fnArgs s_law_roll, C8.fnBody s_law_roll, C8.fnScope s_law_roll, [], []⟩
def dd_law_rounds : He.DefD := ⟨("_law_rounds", none), "_law_rounds", "_law_rounds", C8.fnArgs s_law_rounds, C8.fnBody s_law_rounds, C8.fnScope s_law_rounds, [], []⟩
def dd_law : He.DefD := ⟨("law", none), "law", "law", C8.fnArgs s_law, C8.fnBody s_law, C8.fnScope s_law, [], []⟩
def fnl : List He.DefD := [dd_Sign_init, dd_Sign_is_mark, dd_Cutter_init, dd_Cutter_at_end, dd_Cutter_run, dd_Cutter_quoted, dd_Cutter_signed, dd_Cutter_take_number, dd_Cutter_mark, dd_Cutter_cut_one, dd_cut, dd_marked, dd_Term_init, dd_Term_is_variable, dd_var, dd_val, dd_is_number, dd_names_in, dd_is_plain, dd_told_value, dd_is_kept, dd_told_term, dd_Rule_init, dd_is_fact, dd_row_of, dd_is_name, dd_Clause_init, dd_Reader_init, dd_Reader_at_end, dd_Reader_here, dd_Reader_is_here, dd_Reader_take, dd_Reader_word, dd_Reader_term, dd_Reader_summed_here, dd_Reader_head, dd_Reader_clause, dd_read, dd_read_rule, dd_told_atom, dd_told_rule, dd_fact_text, dd_read_fact, dd_law_dice, dd_law_roll, dd_law_rounds, dd_law]
def fa0 : List He.Fa := [.cls "Sign", .glo "Sign", .mkr "Sign", .noat "Sign" "kind", .noat "Sign" "said", .noat "Sign" "row", .noat "Sign" "column", .cls "Cutter", .glo "Cutter", .mkr "Cutter", .noat "Cutter" "text", .noat "Cutter" "place", .noat "Cutter" "row", .noat "Cutter" "begun", .noat "Cutter" "signs", .cls "Term", .glo "Term", .mkr "Term", .noat "Term" "name", .noat "Term" "value", .cls "Rule", .glo "Rule", .mkr "Rule", .noat "Rule" "name", .noat "Rule" "terms", .noat "Rule" "body", .noat "Rule" "summed", .noat "Rule" "stands", .cls "Clause", .glo "Clause"]
def fa1 : List He.Fa := [.mkr "Clause", .noat "Clause" "kind", .noat "Clause" "rule", .noat "Clause" "body", .cls "Reader", .glo "Reader", .mkr "Reader", .noat "Reader" "signs", .noat "Reader" "place", .noat "Reader" "bare", .meth "Sign" "is_mark", .meth "Cutter" "at_end", .meth "Cutter" "run", .meth "Cutter" "quoted", .meth "Cutter" "signed", .meth "Cutter" "take_number", .meth "Cutter" "mark", .meth "Cutter" "cut_one", .glo "cut", .glo "marked", .meth "Term" "is_variable", .glo "var", .glo "val", .glo "is_number", .glo "names_in", .glo "is_plain", .glo "told_value", .glo "is_kept", .glo "told_term", .glo "is_fact"]
def fa2 : List He.Fa := [.glo "row_of", .glo "is_name", .meth "Reader" "at_end", .meth "Reader" "here", .meth "Reader" "is_here", .meth "Reader" "take", .meth "Reader" "word", .meth "Reader" "term", .meth "Reader" "summed_here", .meth "Reader" "head", .meth "Reader" "clause", .glo "read", .glo "read_rule", .glo "told_atom", .glo "told_rule", .glo "fact_text", .glo "read_fact", .glo "_law_dice", .glo "_law_roll", .glo "_law_rounds", .glo "law", .free "len", .free "tuple", .free "int", .free "str", .free "isinstance", .free "abs", .free "range", .str "FIGURES" (S figs), .str "SMALL" (S smalls)]
def fa3 : List He.Fa := [.str "GREAT" (S greats), .str "INNER" (S inner), .int "MOST_FIGURES" 18, .glo "MARKS", .glo "SUMS"]
def fal : List He.Fa := fa0 ++ (fa1 ++ (fa2 ++ (fa3)))
def tv_MARKS : List He.Dv := [.str ":-", .str "?-", .str "<=", .str "!=", .str ":=", .str "(", .str ")", .str ",", .str ".", .str "!", .str "<", .str "=", .str "+", .str "-", .str "*"]
def tv_SUMS : List He.Dv := [.str "count", .str "sum", .str "least", .str "most"]
def exB (K : PySem.W.Frag) : Bool := He.tupB K "MARKS" tv_MARKS && He.tupB K "SUMS" tv_SUMS
theorem tx_of {K : PySem.W.Frag} {h : Heap} {mg : Str → Option Value} (X : K.In h) (G : h.Ns mainGlobals mg) (c : He.SaysD fal fnl K) (e : exB K = true) : Tx K mg where
  cl_Sign := He.cls_ok (c.fact 0 (f := .cls "Sign") rfl)
  mg_Sign := He.glo_ok X G (c.fact 1 (f := .glo "Sign") rfl)
  mk_Sign := He.mkr_ok (c.fact 2 (f := .mkr "Sign") rfl)
  na_Sign_kind := He.noat_ok (c.fact 3 (f := .noat "Sign" "kind") rfl)
  na_Sign_said := He.noat_ok (c.fact 4 (f := .noat "Sign" "said") rfl)
  na_Sign_row := He.noat_ok (c.fact 5 (f := .noat "Sign" "row") rfl)
  na_Sign_column := He.noat_ok (c.fact 6 (f := .noat "Sign" "column") rfl)
  cl_Cutter := He.cls_ok (c.fact 7 (f := .cls "Cutter") rfl)
  mg_Cutter := He.glo_ok X G (c.fact 8 (f := .glo "Cutter") rfl)
  mk_Cutter := He.mkr_ok (c.fact 9 (f := .mkr "Cutter") rfl)
  na_Cutter_text := He.noat_ok (c.fact 10 (f := .noat "Cutter" "text") rfl)
  na_Cutter_place := He.noat_ok (c.fact 11 (f := .noat "Cutter" "place") rfl)
  na_Cutter_row := He.noat_ok (c.fact 12 (f := .noat "Cutter" "row") rfl)
  na_Cutter_begun := He.noat_ok (c.fact 13 (f := .noat "Cutter" "begun") rfl)
  na_Cutter_signs := He.noat_ok (c.fact 14 (f := .noat "Cutter" "signs") rfl)
  cl_Term := He.cls_ok (c.fact 15 (f := .cls "Term") rfl)
  mg_Term := He.glo_ok X G (c.fact 16 (f := .glo "Term") rfl)
  mk_Term := He.mkr_ok (c.fact 17 (f := .mkr "Term") rfl)
  na_Term_name := He.noat_ok (c.fact 18 (f := .noat "Term" "name") rfl)
  na_Term_value := He.noat_ok (c.fact 19 (f := .noat "Term" "value") rfl)
  cl_Rule := He.cls_ok (c.fact 20 (f := .cls "Rule") rfl)
  mg_Rule := He.glo_ok X G (c.fact 21 (f := .glo "Rule") rfl)
  mk_Rule := He.mkr_ok (c.fact 22 (f := .mkr "Rule") rfl)
  na_Rule_name := He.noat_ok (c.fact 23 (f := .noat "Rule" "name") rfl)
  na_Rule_terms := He.noat_ok (c.fact 24 (f := .noat "Rule" "terms") rfl)
  na_Rule_body := He.noat_ok (c.fact 25 (f := .noat "Rule" "body") rfl)
  na_Rule_summed := He.noat_ok (c.fact 26 (f := .noat "Rule" "summed") rfl)
  na_Rule_stands := He.noat_ok (c.fact 27 (f := .noat "Rule" "stands") rfl)
  cl_Clause := He.cls_ok (c.fact 28 (f := .cls "Clause") rfl)
  mg_Clause := He.glo_ok X G (c.fact 29 (f := .glo "Clause") rfl)
  mk_Clause := He.mkr_ok (c.fact 30 (f := .mkr "Clause") rfl)
  na_Clause_kind := He.noat_ok (c.fact 31 (f := .noat "Clause" "kind") rfl)
  na_Clause_rule := He.noat_ok (c.fact 32 (f := .noat "Clause" "rule") rfl)
  na_Clause_body := He.noat_ok (c.fact 33 (f := .noat "Clause" "body") rfl)
  cl_Reader := He.cls_ok (c.fact 34 (f := .cls "Reader") rfl)
  mg_Reader := He.glo_ok X G (c.fact 35 (f := .glo "Reader") rfl)
  mk_Reader := He.mkr_ok (c.fact 36 (f := .mkr "Reader") rfl)
  na_Reader_signs := He.noat_ok (c.fact 37 (f := .noat "Reader" "signs") rfl)
  na_Reader_place := He.noat_ok (c.fact 38 (f := .noat "Reader" "place") rfl)
  na_Reader_bare := He.noat_ok (c.fact 39 (f := .noat "Reader" "bare") rfl)
  me_Sign_is_mark := He.meth_ok (c.fact 40 (f := .meth "Sign" "is_mark") rfl)
  me_Cutter_at_end := He.meth_ok (c.fact 41 (f := .meth "Cutter" "at_end") rfl)
  me_Cutter_run := He.meth_ok (c.fact 42 (f := .meth "Cutter" "run") rfl)
  me_Cutter_quoted := He.meth_ok (c.fact 43 (f := .meth "Cutter" "quoted") rfl)
  me_Cutter_signed := He.meth_ok (c.fact 44 (f := .meth "Cutter" "signed") rfl)
  me_Cutter_take_number := He.meth_ok (c.fact 45 (f := .meth "Cutter" "take_number") rfl)
  me_Cutter_mark := He.meth_ok (c.fact 46 (f := .meth "Cutter" "mark") rfl)
  me_Cutter_cut_one := He.meth_ok (c.fact 47 (f := .meth "Cutter" "cut_one") rfl)
  mg_cut := He.glo_ok X G (c.fact 48 (f := .glo "cut") rfl)
  mg_marked := He.glo_ok X G (c.fact 49 (f := .glo "marked") rfl)
  me_Term_is_variable := He.meth_ok (c.fact 50 (f := .meth "Term" "is_variable") rfl)
  mg_var := He.glo_ok X G (c.fact 51 (f := .glo "var") rfl)
  mg_val := He.glo_ok X G (c.fact 52 (f := .glo "val") rfl)
  mg_is_number := He.glo_ok X G (c.fact 53 (f := .glo "is_number") rfl)
  mg_names_in := He.glo_ok X G (c.fact 54 (f := .glo "names_in") rfl)
  mg_is_plain := He.glo_ok X G (c.fact 55 (f := .glo "is_plain") rfl)
  mg_told_value := He.glo_ok X G (c.fact 56 (f := .glo "told_value") rfl)
  mg_is_kept := He.glo_ok X G (c.fact 57 (f := .glo "is_kept") rfl)
  mg_told_term := He.glo_ok X G (c.fact 58 (f := .glo "told_term") rfl)
  mg_is_fact := He.glo_ok X G (c.fact 59 (f := .glo "is_fact") rfl)
  mg_row_of := He.glo_ok X G (c.fact 60 (f := .glo "row_of") rfl)
  mg_is_name := He.glo_ok X G (c.fact 61 (f := .glo "is_name") rfl)
  me_Reader_at_end := He.meth_ok (c.fact 62 (f := .meth "Reader" "at_end") rfl)
  me_Reader_here := He.meth_ok (c.fact 63 (f := .meth "Reader" "here") rfl)
  me_Reader_is_here := He.meth_ok (c.fact 64 (f := .meth "Reader" "is_here") rfl)
  me_Reader_take := He.meth_ok (c.fact 65 (f := .meth "Reader" "take") rfl)
  me_Reader_word := He.meth_ok (c.fact 66 (f := .meth "Reader" "word") rfl)
  me_Reader_term := He.meth_ok (c.fact 67 (f := .meth "Reader" "term") rfl)
  me_Reader_summed_here := He.meth_ok (c.fact 68 (f := .meth "Reader" "summed_here") rfl)
  me_Reader_head := He.meth_ok (c.fact 69 (f := .meth "Reader" "head") rfl)
  me_Reader_clause := He.meth_ok (c.fact 70 (f := .meth "Reader" "clause") rfl)
  mg_read := He.glo_ok X G (c.fact 71 (f := .glo "read") rfl)
  mg_read_rule := He.glo_ok X G (c.fact 72 (f := .glo "read_rule") rfl)
  mg_told_atom := He.glo_ok X G (c.fact 73 (f := .glo "told_atom") rfl)
  mg_told_rule := He.glo_ok X G (c.fact 74 (f := .glo "told_rule") rfl)
  mg_fact_text := He.glo_ok X G (c.fact 75 (f := .glo "fact_text") rfl)
  mg_read_fact := He.glo_ok X G (c.fact 76 (f := .glo "read_fact") rfl)
  mg_law_dice := He.glo_ok X G (c.fact 77 (f := .glo "_law_dice") rfl)
  mg_law_roll := He.glo_ok X G (c.fact 78 (f := .glo "_law_roll") rfl)
  mg_law_rounds := He.glo_ok X G (c.fact 79 (f := .glo "_law_rounds") rfl)
  mg_law := He.glo_ok X G (c.fact 80 (f := .glo "law") rfl)
  fr_len := He.free_ok X G (c.fact 81 (f := .free "len") rfl)
  fr_tuple := He.free_ok X G (c.fact 82 (f := .free "tuple") rfl)
  fr_int := He.free_ok X G (c.fact 83 (f := .free "int") rfl)
  fr_str := He.free_ok X G (c.fact 84 (f := .free "str") rfl)
  fr_isinstance := He.free_ok X G (c.fact 85 (f := .free "isinstance") rfl)
  fr_abs := He.free_ok X G (c.fact 86 (f := .free "abs") rfl)
  fr_range := He.free_ok X G (c.fact 87 (f := .free "range") rfl)
  st_FIGURES := He.str_ok X G (c.fact 88 (f := .str "FIGURES" (S figs)) rfl)
  st_SMALL := He.str_ok X G (c.fact 89 (f := .str "SMALL" (S smalls)) rfl)
  st_GREAT := He.str_ok X G (c.fact 90 (f := .str "GREAT" (S greats)) rfl)
  st_INNER := He.str_ok X G (c.fact 91 (f := .str "INNER" (S inner)) rfl)
  in_MOST_FIGURES := He.int_ok X G (c.fact 92 (f := .int "MOST_FIGURES" 18) rfl)
  mg_MARKS := He.glo_ok X G (c.fact 93 (f := .glo "MARKS") rfl)
  mg_SUMS := He.glo_ok X G (c.fact 94 (f := .glo "SUMS") rfl)
  df_Sign_init := c.def_ 0 (d := dd_Sign_init) rfl
  df_Sign_is_mark := c.def_ 1 (d := dd_Sign_is_mark) rfl
  df_Cutter_init := c.def_ 2 (d := dd_Cutter_init) rfl
  df_Cutter_at_end := c.def_ 3 (d := dd_Cutter_at_end) rfl
  df_Cutter_run := c.def_ 4 (d := dd_Cutter_run) rfl
  df_Cutter_quoted := c.def_ 5 (d := dd_Cutter_quoted) rfl
  df_Cutter_signed := c.def_ 6 (d := dd_Cutter_signed) rfl
  df_Cutter_take_number := c.def_ 7 (d := dd_Cutter_take_number) rfl
  df_Cutter_mark := c.def_ 8 (d := dd_Cutter_mark) rfl
  df_Cutter_cut_one := c.def_ 9 (d := dd_Cutter_cut_one) rfl
  df_cut := c.def_ 10 (d := dd_cut) rfl
  df_marked := c.def_ 11 (d := dd_marked) rfl
  df_Term_init := c.def_ 12 (d := dd_Term_init) rfl
  df_Term_is_variable := c.def_ 13 (d := dd_Term_is_variable) rfl
  df_var := c.def_ 14 (d := dd_var) rfl
  df_val := c.def_ 15 (d := dd_val) rfl
  df_is_number := c.def_ 16 (d := dd_is_number) rfl
  df_names_in := c.def_ 17 (d := dd_names_in) rfl
  df_is_plain := c.def_ 18 (d := dd_is_plain) rfl
  df_told_value := c.def_ 19 (d := dd_told_value) rfl
  df_is_kept := c.def_ 20 (d := dd_is_kept) rfl
  df_told_term := c.def_ 21 (d := dd_told_term) rfl
  df_Rule_init := c.def_ 22 (d := dd_Rule_init) rfl
  df_is_fact := c.def_ 23 (d := dd_is_fact) rfl
  df_row_of := c.def_ 24 (d := dd_row_of) rfl
  df_is_name := c.def_ 25 (d := dd_is_name) rfl
  df_Clause_init := c.def_ 26 (d := dd_Clause_init) rfl
  df_Reader_init := c.def_ 27 (d := dd_Reader_init) rfl
  df_Reader_at_end := c.def_ 28 (d := dd_Reader_at_end) rfl
  df_Reader_here := c.def_ 29 (d := dd_Reader_here) rfl
  df_Reader_is_here := c.def_ 30 (d := dd_Reader_is_here) rfl
  df_Reader_take := c.def_ 31 (d := dd_Reader_take) rfl
  df_Reader_word := c.def_ 32 (d := dd_Reader_word) rfl
  df_Reader_term := c.def_ 33 (d := dd_Reader_term) rfl
  df_Reader_summed_here := c.def_ 34 (d := dd_Reader_summed_here) rfl
  df_Reader_head := c.def_ 35 (d := dd_Reader_head) rfl
  df_Reader_clause := c.def_ 36 (d := dd_Reader_clause) rfl
  df_read := c.def_ 37 (d := dd_read) rfl
  df_read_rule := c.def_ 38 (d := dd_read_rule) rfl
  df_told_atom := c.def_ 39 (d := dd_told_atom) rfl
  df_told_rule := c.def_ 40 (d := dd_told_rule) rfl
  df_fact_text := c.def_ 41 (d := dd_fact_text) rfl
  df_read_fact := c.def_ 42 (d := dd_read_fact) rfl
  df_law_dice := c.def_ 43 (d := dd_law_dice) rfl
  df_law_roll := c.def_ 44 (d := dd_law_roll) rfl
  df_law_rounds := c.def_ 45 (d := dd_law_rounds) rfl
  df_law := c.def_ 46 (d := dd_law) rfl
  tu_MARKS := fun H => He.tupB_ok (vs := tv_MARKS) (He.ba e).1 H
  tu_SUMS := fun H => He.tupB_ok (vs := tv_SUMS) (He.ba e).2 H
end K46
set_option Elab.async false
set_option linter.all false
set_option maxRecDepth 100000
set_option maxHeartbeats 0
/-! The head: the top by one kernel run, the facts by a Hook. -/
namespace K46
open PySem PySem.Spec PyProof.Rows L2 SX
/-- what the objects at as name -/
def refs1 (g : Addr → Option Obj) (as : List Addr) : List Addr := as.flatMap fun a => match g a with
  | some o => He.refsD o
  | none => []
/-- of what kind an object's data is -/
def knd : Obj → Nat
  | ⟨_, _, .dict _ _, _⟩ => 1
  | ⟨_, _, .func _, _⟩ => 2
  | ⟨_, _, .cls _, _⟩ => 3
  | _ => 0
def ofK (g : Addr → Option Obj) (k : Nat) (as : List Addr) : List Addr := as.filter fun a => match g a with
  | some o => knd o == k
  | none => false
def a1 (g : Addr → Option Obj) : List Addr := refs1 g [mainGlobals]
def c1 (g : Addr → Option Obj) : List Addr := ofK g 3 (a1 g)
def f1 (g : Addr → Option Obj) : List Addr := ofK g 2 (a1 g)
def a2 (g : Addr → Option Obj) : List Addr := refs1 g (c1 g)
def a3 (g : Addr → Option Obj) : List Addr := refs1 g (ofK g 1 (a2 g))
def a4 (g : Addr → Option Obj) : List Addr := refs1 g (ofK g 2 (a3 g))
def a5 (g : Addr → Option Obj) : List Addr := refs1 g (ofK g 3 (a2 g))
/-- what the hook keeps of the heap: the module's names, their functions' codes, their classes, the methods, the methods' codes -/
def asM (g : Addr → Option Obj) : List Addr := mainGlobals :: (a1 g ++ (refs1 g (f1 g) ++ (a2 g ++ (a3 g ++ (a4 g ++ a5 g)))))
abbrev AlM : Type := He.AlD × Bool
def obsM (fa : List He.Fa) (fn : List He.DefD) (ex : PySem.W.Frag → Bool) (K : PySem.W.Frag) : AlM := (He.obsD fa fn K, ex K)
def obsMG (fa : List He.Fa) (fn : List He.DefD) (ex : PySem.W.Frag → Bool) (g : Addr → Option Obj) : AlM := obsM fa fn ex (He.frG g (asM g))
def valM (fn : List He.DefD) : AlM := (He.valD fn, true)
def SaysM (fa : List He.Fa) (fn : List He.DefD) (ex : PySem.W.Frag → Bool) (K : PySem.W.Frag) : Prop := He.SaysD fa fn K ∧ ex K = true
def hookM (fa : List He.Fa) (fn : List He.DefD) (ex : PySem.W.Frag → Bool) : PySem.W.Hook where
  α := AlM
  obs := fun s => obsMG fa fn ex s.heap.get?
  val := fun _ => valM fn
  says := fun _ h => ∃ K : PySem.W.Frag, K.In h ∧ SaysM fa fn ex K
  of := fun _ _ e => ⟨_, He.frG_in, (congrArg (fun z : AlM => z.1) e), (congrArg (fun z : AlM => z.2) e)⟩
  keeps := fun _ _ _ ⟨K, hK, c⟩ k => ⟨K, PySem.W.Frag.In.keeps hK k, c⟩
theorem obsMG_eq {fa : List He.Fa} {fn : List He.DefD} {ex : PySem.W.Frag → Bool} {g : Addr → Option Obj} {s : Shared} (h : ∀ a, g a = s.heap.get? a) : obsMG fa fn ex g = (hookM fa fn ex).obs s := by
  have e : g = s.heap.get? := funext h
  rw [e] <;> rfl
abbrev RR : PySem.W.OpenRow := PySem.W.OpenLaw.row PySem.Challenge.rw_deducehall_k46_values_written_and_read
abbrev hk : PySem.W.Hook := hookM fal fnl exB
def ob (s : PySem.W.SharedT) : AlM := obsMG fal fnl exB (HandSHeadRun.getT s)
theorem ob_eq (s : PySem.W.SharedT) : ob s = hk.obs s.abs := obsMG_eq (HandSHeadRun.getT_eq s)
def loose1 : List PySem.Str := ["_wall", "__name__", "DeduceFault", "BadSign", "BadRule", "BadStore", "MARKS", "FIGURES", "SMALL", "GREAT", "INNER", "MOST_FIGURES", "Sign", "Cutter", "is_figure", "cut", "marked", "Term", "var", "val", "is_number", "names_in", "renamed", "is_plain", "told_value"]
def loose2 : List PySem.Str := ["is_kept", "told_term", "SUMS", "SIGNS", "DEEDS", "Literal", "Rule", "pos", "neg", "held", "let", "summed_rule", "is_fact", "row_of", "is_name", "Clause", "Reader", "read", "read_rule", "told_atom", "told_literal", "told_body", "told_rule", "fact_text", "read_fact", "_law_dice", "_law_roll", "_law_rounds"]
def loose : List PySem.Str := loose1 ++ loose2
theorem run (w : World) : HandSHeadRun.RunEq RR (PySem.W.view RR.prog [60]) hk ob 6000 loose w := by
  intro os
  kernel_rfl
end K46
set_option Elab.async false
set_option linter.all false
set_option maxRecDepth 100000
set_option maxHeartbeats 2000000
/-! Heap words, helpers. -/
namespace K46
open PySem PySem.Spec PyProof.Rows L2 SX
open C8 (Cal Met Mak pe_c pe_mt pe_mt0 pe_mk fn0)
/-! ### what is kept -/
/-- all that was tracked is as it was, but at S -/
def Mod (S : List Addr) (H H' : Hp) : Prop := ∀ b o, H b = some o → b ∉ S → H' b = some o
section
variable {A B : List Addr} {H H1 H2 : Hp} {p : Addr} {o : HO}
theorem Mod.refl (A : List Addr) (H : Hp) : Mod A H H := fun _ _ h _ => h
theorem Mod.trans (a : Mod A H H1) (b : Mod A H1 H2) : Mod A H H2 := fun c o h n => b c o (a c o h n) n
theorem Mod.upd (hp : p ∈ A) : Mod A H (L2.upd H p o) := fun b u h n => by
  rw [upd_ne (fun e => n (by rw [e]; exact hp))]
  exact h
theorem Mod.new (hp : H p = none) : Mod A H (L2.upd H p o) := fun b u h _ => by
  rw [upd_ne (ne_of_none h hp)]
  exact h
theorem Mod.same (m : Mod [] H H1) : Same H H1 := fun b o h => m b o h (by simp)
theorem Mod.of_same (m : Same H H1) : Mod A H H1 := fun b o h _ => m b o h
theorem Mod.mono (h : ∀ x ∈ A, x ∈ B) (m : Mod A H H1) : Mod B H H1 := fun b o e n => m b o e fun z => n (h b z)
/-- what was new is left out -/
theorem Mod.drop (hn : ∀ x ∈ A, H x = none) (m : Mod A H H1) : Same H H1 := fun b o h => m b o h fun z => by
  rw [hn b z] at h
  cases h
theorem Same.mod (m : Same H H1) : Mod A H H1 := Mod.of_same m
end
theorem same_new {H : Hp} {p : Addr} {o : HO} (hp : H p = none) : Same H (upd H p o) := fun b u h => by
  rw [upd_ne (ne_of_none h hp)]
  exact h
/-- a new instance -/
theorem same_made {H : Hp} {x dx : Addr} {o u : HO} (hx : H x = none) (hd : H dx = none) : Same H (upd (upd H dx o) x u) := fun b z h => by
  rw [upd_ne (ne_of_none h hx), upd_ne (ne_of_none h hd)]
  exact h
/-! ### signs and texts -/
theorem dec_str {a b : Str} : decide (V.str a = V.str b) = decide (a = b) := by
  by_cases h : a = b
  · rw [decide_eq_true h, decide_eq_true (congrArg V.str h)]
  · rw [decide_eq_false h, decide_eq_false fun e => h (V.str.inj e)]
theorem dec_S {a b : List Nat} : decide (V.str (S a) = V.str (S b)) = decide (a = b) := by
  rw [dec_str]
  by_cases h : a = b
  · rw [decide_eq_true h, decide_eq_true (congrArg S h)]
  · rw [decide_eq_false h, decide_eq_false fun e => h (S_inj e)]
theorem len_le {l : List Nat} (h : l.length ≤ 10000) : (S l).length ≤ sizeLine := by
  rw [S_len]
  exact Nat.le_trans h (by decide)
theorem at_drop {l r : List Nat} {i c : Nat} (h : l.drop i = c :: r) : atI (S l).cps.toList ((i : Nat) : Int) = some c := atI_nat (by
  show l[i]? = some c
  have e : (l.drop i)[0]? = some c := by rw [h]; rfl
  rw [List.getElem?_drop, Nat.add_zero] at e
  exact e)
theorem drop_lt {l r : List Nat} {i c : Nat} (h : l.drop i = c :: r) : i < l.length := by
  rcases Nat.lt_or_ge i l.length with q | q
  · exact q
  · rw [List.drop_eq_nil_of_le q] at h
    cases h
theorem drop_next {l r : List Nat} {i c : Nat} (h : l.drop i = c :: r) : l.drop (i + 1) = r := by
  have e : l.drop (i + 1) = (l.drop i).drop 1 := by rw [List.drop_drop]
  rw [e, h]
  rfl
theorem drop_app {l a b : List Nat} {i : Nat} (h : l.drop i = a ++ b) : l.drop (i + a.length) = b := by
  have e : l.drop (i + a.length) = (l.drop i).drop a.length := by rw [List.drop_drop]
  rw [e, h, List.drop_left]
theorem drop_len {l a : List Nat} {i : Nat} (h : l.drop i = a) (hi : i ≤ l.length) : l.length = i + a.length := by
  have e := congrArg List.length h
  rw [List.length_drop] at e
  omega
/-- text[a:b] with numbers that aren't negative -/
theorem cut_S (l : List Nat) (a b : Nat) : cutS (S l) (some (a : Int)) (some (b : Int)) = S ((l.drop a).take (b - a)) := by
  have h1 : HT.sIx l.length 0 (some ((a : Nat) : Int)) = min a l.length := HT.sIx_nat l.length 0 a
  have h2 : HT.sIx l.length l.length (some ((b : Nat) : Int)) = min b l.length := HT.sIx_nat l.length l.length b
  have hl : (S l).length = l.length := S_len l
  refine TL.ext_tl ?_
  unfold cutS
  rw [hl, h1, h2]
  show (l.drop (min a l.length)).take (min b l.length - min a l.length) = (l.drop a).take (b - a)
  by_cases ha : a ≤ l.length
  · rw [Nat.min_eq_left ha]
    by_cases hb : b ≤ l.length
    · rw [Nat.min_eq_left hb]
    · rw [Nat.min_eq_right (by omega), List.take_of_length_le (by rw [List.length_drop]; omega), List.take_of_length_le (by rw [List.length_drop]; omega)]
  · rw [List.drop_eq_nil_of_le (i := min a l.length) (by omega), List.drop_eq_nil_of_le (i := a) (by omega), List.take_nil, List.take_nil]
theorem sg_eq {c d : Nat} {m : Str} (hm : m = S [d]) (h : decide (V.str ⟨#[c]⟩ = V.str m) = true) : c = d := by
  rw [hm] at h
  have e : decide (V.str (S [c]) = V.str (S [d])) = true := h
  rw [dec_S] at e
  have e2 := of_decide_eq_true e
  injection e2
theorem sg_ne {c d : Nat} {m : Str} (hm : m = S [d]) (h : c ≠ d) : decide (V.str ⟨#[c]⟩ = V.str m) = false := by
  cases e : decide (V.str ⟨#[c]⟩ = V.str m) with
  | false => rfl
  | true => exact absurd (sg_eq hm e) h
theorem sg_is {c : Nat} {m : Str} (hm : m = S [c]) : decide (V.str ⟨#[c]⟩ = V.str m) = true := by
  rw [hm]
  exact decide_eq_true rfl
theorem lit_nl : ("\n" : Str) = S [10] := by decide +kernel
theorem lit_hash : ("#" : Str) = S [35] := by decide +kernel
theorem lit_white : (" \t" : Str) = S [32, 9] := by decide +kernel
theorem lit_qn : ("'\n" : Str) = S [39, 10] := by decide +kernel
theorem lit_bs : ("\\" : Str) = S [92] := by decide +kernel
theorem lit_bs2 : ("\\\\" : Str) = S [92, 92] := by decide +kernel
theorem lit_q : ("'" : Str) = S [39] := by decide +kernel
theorem lit_bq : ("\\'" : Str) = S [92, 39] := by decide +kernel
theorem lit_bn : ("\\n" : Str) = S [92, 110] := by decide +kernel
theorem lit_qbn : ("'\\n" : Str) = S [39, 92, 110] := by decide +kernel
theorem lit_n : ("n" : Str) = S [110] := by decide +kernel
theorem lit_e : ("" : Str) = S [] := by decide +kernel
theorem lit_dash : ("-" : Str) = S [45] := by decide +kernel
theorem lit_low : ("_" : Str) = S [95] := by decide +kernel
theorem lit_open : ("(" : Str) = S [40] := by decide +kernel
theorem lit_close : (")" : Str) = S [41] := by decide +kernel
theorem lit_comma : ("," : Str) = S [44] := by decide +kernel
theorem lit_dot : ("." : Str) = S [46] := by decide +kernel
theorem lit_sep : (", " : Str) = S [44, 32] := by decide +kernel
theorem lit_if : (":-" : Str) = S [58, 45] := by decide +kernel
theorem lit_ask : ("?-" : Str) = S [63, 45] := by decide +kernel
theorem lit_bang : ("!" : Str) = S [33] := by decide +kernel
theorem lit_ee : ("e" : Str) = S [101] := by decide +kernel
/-! ### fields -/
def sf (k d : Str) (r c : Int) : List (Str × V) := [("kind", .str k), ("said", .str d), ("row", .int r), ("column", .int c)]
def cf (t : Str) (i r b : Int) (l : Addr) : List (Str × V) := [("text", .str t), ("place", .int i), ("row", .int r), ("begun", .int b), ("signs", .ref l)]
def tf (n : Str) (v : V) : List (Str × V) := [("name", .str n), ("value", v)]
def rf (tp : Addr) (i b : Int) : List (Str × V) := [("signs", .ref tp), ("place", .int i), ("bare", .int b)]
def uf (nm : Str) (ts bd sd : Addr) : List (Str × V) := [("name", .str nm), ("terms", .ref ts), ("body", .ref bd), ("summed", .non), ("stands", .ref sd)]
def lf (ru bd : Addr) : List (Str × V) := [("kind", .str "rule"), ("rule", .ref ru), ("body", .ref bd)]
abbrev aSign (K : PySem.W.Frag) : Addr := He.ga K "Sign"
abbrev aCut (K : PySem.W.Frag) : Addr := He.ga K "Cutter"
abbrev aTerm (K : PySem.W.Frag) : Addr := He.ga K "Term"
abbrev aRule (K : PySem.W.Frag) : Addr := He.ga K "Rule"
abbrev aClause (K : PySem.W.Frag) : Addr := He.ga K "Clause"
abbrev aRead (K : PySem.W.Frag) : Addr := He.ga K "Reader"
/-- the sign of a token stands at a -/
def SgnAt (K : PySem.W.Frag) (H : Hp) (a : Addr) (t : Tok) : Prop := ∃ (dx : Addr) (r c : Int), H a = some (.ins (aSign K) dx (sf t.kd (S t.sd) r c))
/-- the signs at as are those of the tokens -/
def SgnsL (K : PySem.W.Frag) (H : Hp) (as : List Addr) (ts : List Tok) : Prop := as.length = ts.length ∧ ∀ (i : Nat) (a : Addr) (t : Tok), as[i]? = some a → ts[i]? = some t → SgnAt K H a t
def SgnsAt (K : PySem.W.Frag) (H : Hp) (tp : Addr) (ts : List Tok) : Prop := ∃ as : List Addr, H tp = some (.tup (as.map V.ref)) ∧ SgnsL K H as ts
section
variable {K : PySem.W.Frag} {A : List Addr} {H H1 : Hp} {a tp p L C dx : Addr} {t : Tok} {ts : List Tok} {as : List Addr}
theorem SgnAt.mod (h : SgnAt K H a t) (m : Mod A H H1) (hn : a ∉ A) : SgnAt K H1 a t := by
  obtain ⟨dx, r, c, e⟩ := h
  exact ⟨dx, r, c, m _ _ e hn⟩
theorem SgnAt.same (h : SgnAt K H a t) (m : Same H H1) : SgnAt K H1 a t := by
  obtain ⟨dx, r, c, e⟩ := h
  exact ⟨dx, r, c, m _ _ e⟩
/-- a sign is no cutter, no reader, no list -/
theorem SgnAt.ne_cut {f : Str} {i r b : Int} (h : SgnAt K H a t) (hp : H p = some (.ins C dx (cf f i r b L))) : a ≠ p := by
  obtain ⟨dx', r', c', e⟩ := h
  refine ne_of e hp fun z => ?_
  injection z with _ _ z
  injection z with z _
  injection z with z _
  exact absurd z (by decide +kernel)
theorem SgnAt.ne_read {i b : Int} {q : Addr} (h : SgnAt K H a t) (hp : H p = some (.ins C dx (rf q i b))) : a ≠ p := by
  obtain ⟨dx', r', c', e⟩ := h
  refine ne_of e hp fun z => ?_
  injection z with _ _ z
  injection z with z _
  injection z with z _
  exact absurd z (by decide +kernel)
theorem SgnAt.ne_lst {xs : List V} (h : SgnAt K H a t) (hp : H p = some (.lst xs)) : a ≠ p := by
  obtain ⟨dx', r', c', e⟩ := h
  exact ne_of e hp fun z => nomatch z
theorem SgnsL.get (h : SgnsL K H as ts) {i : Nat} (ht : ts[i]? = some t) : ∃ a, as[i]? = some a ∧ SgnAt K H a t := by
  have hi := (List.getElem?_eq_some_iff.mp ht).1
  have hi2 : i < as.length := by rw [h.1]; exact hi
  exact ⟨as[i], List.getElem?_eq_getElem hi2, h.2 i _ t (List.getElem?_eq_getElem hi2) ht⟩
theorem SgnsL.keep (h : SgnsL K H as ts) (m : ∀ a t, SgnAt K H a t → SgnAt K H1 a t) : SgnsL K H1 as ts := ⟨h.1, fun i a t h1 h2 => m a t (h.2 i a t h1 h2)⟩
theorem SgnsAt.same (h : SgnsAt K H tp ts) (m : Same H H1) : SgnsAt K H1 tp ts := by
  obtain ⟨as, h1, h2⟩ := h
  exact ⟨as, m _ _ h1, h2.keep fun a t q => q.same m⟩
/-- behind a change of a reader alone -/
theorem SgnsAt.read {i b : Int} {q : Addr} (h : SgnsAt K H tp ts) (hp : H p = some (.ins C dx (rf q i b))) (m : Mod [p] H H1) : SgnsAt K H1 tp ts := by
  obtain ⟨as, h1, h2⟩ := h
  refine ⟨as, m _ _ h1 ?_, h2.keep fun a t q => q.mod m ?_⟩
  · rw [List.mem_singleton]
    exact ne_of h1 hp fun z => nomatch z
  · rw [List.mem_singleton]
    exact q.ne_read hp
end
/-! ### a term, terms -/
def TmAt (K : PySem.W.Frag) (H : Hp) (a : Addr) (v : Vl) : Prop := ∃ dx : Addr, H a = some (.ins (aTerm K) dx (tf "" v.v))
def TmsL (K : PySem.W.Frag) (H : Hp) (as : List Addr) (vs : List Vl) : Prop := as.length = vs.length ∧ ∀ (i : Nat) (a : Addr) (v : Vl), as[i]? = some a → vs[i]? = some v → TmAt K H a v
section
variable {K : PySem.W.Frag} {A : List Addr} {H H1 : Hp} {a tp p L C dx : Addr} {v : Vl} {vs : List Vl} {as : List Addr}
theorem TmAt.mod (h : TmAt K H a v) (m : Mod A H H1) (hn : a ∉ A) : TmAt K H1 a v := by
  obtain ⟨dx, e⟩ := h
  exact ⟨dx, m _ _ e hn⟩
theorem TmAt.same (h : TmAt K H a v) (m : Same H H1) : TmAt K H1 a v := by
  obtain ⟨dx, e⟩ := h
  exact ⟨dx, m _ _ e⟩
theorem TmAt.ne_read {i b : Int} {q : Addr} (h : TmAt K H a v) (hp : H p = some (.ins C dx (rf q i b))) : a ≠ p := by
  obtain ⟨dx', e⟩ := h
  refine ne_of e hp fun z => ?_
  injection z with _ _ z
  injection z with z _
  injection z with z _
  exact absurd z (by decide +kernel)
theorem TmAt.ne_lst {xs : List V} (h : TmAt K H a v) (hp : H p = some (.lst xs)) : a ≠ p := by
  obtain ⟨dx', e⟩ := h
  exact ne_of e hp fun z => nomatch z
theorem TmsL.get (h : TmsL K H as vs) {i : Nat} (ht : vs[i]? = some v) : ∃ a, as[i]? = some a ∧ TmAt K H a v := by
  have hi := (List.getElem?_eq_some_iff.mp ht).1
  have hi2 : i < as.length := by rw [h.1]; exact hi
  exact ⟨as[i], List.getElem?_eq_getElem hi2, h.2 i _ v (List.getElem?_eq_getElem hi2) ht⟩
theorem TmsL.at (h : TmsL K H as vs) {i : Nat} (ht : as[i]? = some a) : ∃ v, vs[i]? = some v ∧ TmAt K H a v := by
  have hi := (List.getElem?_eq_some_iff.mp ht).1
  have hi2 : i < vs.length := by rw [← h.1]; exact hi
  exact ⟨vs[i], List.getElem?_eq_getElem hi2, h.2 i a _ ht (List.getElem?_eq_getElem hi2)⟩
theorem TmsL.keep (h : TmsL K H as vs) (m : ∀ a v, TmAt K H a v → TmAt K H1 a v) : TmsL K H1 as vs := ⟨h.1, fun i a v h1 h2 => m a v (h.2 i a v h1 h2)⟩
theorem TmsL.same (h : TmsL K H as vs) (m : Same H H1) : TmsL K H1 as vs := h.keep fun _ _ q => q.same m
theorem TmsL.nil : TmsL K H [] [] := ⟨rfl, fun i a v h _ => by simp at h⟩
theorem TmsL.snoc (h : TmsL K H as vs) (q : TmAt K H a v) : TmsL K H (as ++ [a]) (vs ++ [v]) := by
  refine ⟨by rw [List.length_append, List.length_append, h.1]; rfl, fun i b u h1 h2 => ?_⟩
  by_cases hi : i < as.length
  · rw [List.getElem?_append_left hi] at h1
    rw [List.getElem?_append_left (by rw [← h.1]; exact hi)] at h2
    exact h.2 i b u h1 h2
  · rw [List.getElem?_append_right (by omega)] at h1
    rw [List.getElem?_append_right (by rw [← h.1]; omega)] at h2
    have hz : i - as.length = 0 := by
      cases q : i - as.length with
      | zero => rfl
      | succ n =>
        rw [q] at h1
        simp at h1
    have hz2 : i - vs.length = 0 := by rw [← h.1]; exact hz
    rw [hz] at h1
    rw [hz2] at h2
    have e1 : a = b := Option.some.inj h1
    have e2 : v = u := Option.some.inj h2
    subst e1 e2
    exact q
end
theorem SgnsL.snoc {K : PySem.W.Frag} {H : Hp} {as : List Addr} {ts : List Tok} {a : Addr} {t : Tok} (h : SgnsL K H as ts) (q : SgnAt K H a t) : SgnsL K H (as ++ [a]) (ts ++ [t]) := by
  refine ⟨by rw [List.length_append, List.length_append, h.1]; rfl, fun i b u h1 h2 => ?_⟩
  by_cases hi : i < as.length
  · rw [List.getElem?_append_left hi] at h1
    rw [List.getElem?_append_left (by rw [← h.1]; exact hi)] at h2
    exact h.2 i b u h1 h2
  · rw [List.getElem?_append_right (by omega)] at h1
    rw [List.getElem?_append_right (by rw [← h.1]; omega)] at h2
    have hz : i - as.length = 0 := by
      cases q : i - as.length with
      | zero => rfl
      | succ n =>
        rw [q] at h1
        simp at h1
    have hz2 : i - ts.length = 0 := by rw [← h.1]; exact hz
    rw [hz] at h1
    rw [hz2] at h2
    have e1 : a = b := Option.some.inj h1
    have e2 : t = u := Option.some.inj h2
    subst e1 e2
    exact q
/-! ### defs of the text: their promises by their bodies -/
section
variable {P : Program} {w : World} {K : PySem.W.Frag} {mg : Str → Option Value} {base : Heap}
theorem fun_of {x qual : Str} {st : Stmt} {dvs : List V} {f : Addr} {fd : FuncData} (F : FunD K x qual (C8.fnArgs st) (C8.fnBody st) (C8.fnScope st) dvs [] f fd) : C8.Fun K x qual st f fd := by
  obtain ⟨oc, od, dV, kV, doc, pm, an, cdv, ct, osl, e, lk, hcd, _, _⟩ := F.ex
  exact ⟨⟨oc, od, dV, kV, doc, pm, an, cdv, ct, osl, e, lk, hcd⟩⟩
/-- what binds the arguments of a def without defaults -/
abbrev BindsF (x qual : Str) (st : Stmt) (ps : List Str) : Prop :=
  ∀ (kV doc pm : Value) (an : Option Addr) (cdv ct : Value) (us : List Value), us.length = ps.length → bindArgs (PySem.W.fnOf x qual (C8.fnArgs st) (C8.fnBody st) (C8.fnScope st) .none kV doc pm an cdv ct) ⟨us, []⟩ = pure (ps.zip us)
theorem cal_ok {x : Str} {st : Stmt} {N ps : List Str} {k : Nat} {sp : Sp} (D : DefOf K (x, none) x x st []) (hm : mg x = some (.ref (He.ga K x))) (b : BindsF x x st ps) (S : FnScope N ps (C8.fnScope st)) (len : ∀ vs H Q E, sp vs H Q E → vs.length = ps.length)
    (hbody : ∀ (f : Addr) (cdv : Value) (A : Around) (outer : List Env) (s : Shared) (H : Hp) (vs : List V) (Q : VK) (E : XK), Room k (A.deeper (envOfC x (C8.fnScope st) s.heap.objs.size f cdv)) → sp vs H Q E →
      ∃ t, PSs (cxOf C8.CX0 P w K mg base N x (C8.fnScope st) f cdv A outer s H E).nox (C8.fnBody st) t ∧ t { nx := fun _ H' => Q .non H', rt := Q } (start N vs) H) : Cal P w K mg base (k + 1) x sp [] := by
  obtain ⟨fd, F⟩ := D
  exact ⟨_, fd, ps, [], fn0 (fun_of F) S len (hbody _), hm, F.kp, FunD.bindsN F b, .nil⟩
theorem met_ok {c m qual : Str} {st : Stmt} {N ps : List Str} {k : Nat} {sp : Sp} (D : DefOf K (c, some m) m qual st []) (cl : Cls K (He.ga K c)) (me : Meth K (He.ga K c) m (He.ma K (He.ga K c) m)) (b : BindsF m qual st ps) (S : FnScope N ps (C8.fnScope st)) (len : ∀ vs H Q E, sp vs H Q E → vs.length = ps.length)
    (hbody : ∀ (f : Addr) (cdv : Value) (A : Around) (outer : List Env) (s : Shared) (H : Hp) (vs : List V) (Q : VK) (E : XK), Room k (A.deeper (envOfC qual (C8.fnScope st) s.heap.objs.size f cdv)) → sp vs H Q E →
      ∃ t, PSs (cxOf C8.CX0 P w K mg base N qual (C8.fnScope st) f cdv A outer s H E).nox (C8.fnBody st) t ∧ t { nx := fun _ H' => Q .non H', rt := Q } (start N vs) H) : Met P w K mg base (k + 1) (He.ga K c) m sp [] := by
  obtain ⟨fd, F⟩ := D
  exact ⟨_, fd, ps, [], cl, me, fn0 (fun_of F) S len (hbody _), FunD.bindsN F b, .nil⟩
theorem mak_ok {c qual : Str} {st : Stmt} {N ps : List Str} {k : Nat} {sp : Sp} (D : DefOf K (c, some "__init__") "__init__" qual st []) (M : Mk K (He.ga K c) (He.ma K (He.ga K c) "__init__")) (hm : mg c = some (.ref (He.ga K c))) (b : BindsF "__init__" qual st ps) (S : FnScope N ps (C8.fnScope st)) (len : ∀ vs H Q E, sp vs H Q E → vs.length = ps.length)
    (hbody : ∀ (f : Addr) (cdv : Value) (A : Around) (outer : List Env) (s : Shared) (H : Hp) (vs : List V) (Q : VK) (E : XK), Room k (A.deeper (envOfC qual (C8.fnScope st) s.heap.objs.size f cdv)) → sp vs H Q E →
      ∃ t, PSs (cxOf C8.CX0 P w K mg base N qual (C8.fnScope st) f cdv A outer s H E).nox (C8.fnBody st) t ∧ t { nx := fun _ H' => Q .non H', rt := Q } (start N vs) H) : Mak P w K mg base (k + 1) c (He.ga K c) sp [] := by
  obtain ⟨fd, F⟩ := D
  exact ⟨_, fd, ps, [], M, fn0 (fun_of F) S len (hbody _), hm, FunD.bindsN F b, .nil⟩
end
end K46
set_option Elab.async false
set_option linter.all false
set_option maxRecDepth 100000
set_option maxHeartbeats 2000000
/-! Signs and the cutter, first part. -/
namespace K46
open PySem PySem.Spec PyProof.Rows L2 SX
open C8 (Cal Met Mak pe_c pe_mt pe_mt0 pe_mk fn0)
section
variable {P : Program} {w : World} {K : PySem.W.Frag} {mg : Str → Option Value} {base : Heap}
/-! ### Sign -/
def spSignInit (K : PySem.W.Frag) : Sp := fun vs H Q _ => ∃ (p dx : Addr) (k d : Str) (r c : Int), vs = [.ref p, .str k, .str d, .int r, .int c] ∧ H p = some (.ins (aSign K) dx []) ∧ Q .non (upd H p (.ins (aSign K) dx (sf k d r c)))
theorem ok_Sign_init (T : Tx K mg) : Mak P w K mg base 1 "Sign" (aSign K) (spSignInit K) [] := by
  refine mak_ok T.df_Sign_init T.mk_Sign T.mg_Sign (fun _ _ _ _ _ _ us hl => match us, hl with | [_, _, _, _, _], _ => rfl) sc_Sign_init (fun vs H Q E h => ?_) (fun f cdv A outer s H vs Q E hr h => ?_)
  · obtain ⟨p, dx, k, d, r, c, rfl, _⟩ := h
    rfl
  · obtain ⟨p, dx, k, d, r, c, rfl, hp, q⟩ := h
    refine ⟨_, pss_cons (ps_fld (pv 0) (pv 1) rfl) (pss_cons (ps_fld (pv 0) (pv 2) rfl) (pss_cons (ps_fld (pv 0) (pv 3) rfl) (pss_one (ps_fld (pv 0) (pv 4) rfl)))), ?_⟩
    refine ⟨_, rfl, _, rfl, p, _, dx, _, rfl, hp, T.cl_Sign, T.na_Sign_kind, (by show 0 < 1000; decide), ?_⟩
    refine ⟨_, rfl, _, rfl, p, _, dx, _, rfl, upd_same, T.cl_Sign, T.na_Sign_said, (by show 1 < 1000; decide), ?_⟩
    rw [upd_upd]
    refine ⟨_, rfl, _, rfl, p, _, dx, _, rfl, upd_same, T.cl_Sign, T.na_Sign_row, (by show 2 < 1000; decide), ?_⟩
    rw [upd_upd]
    refine ⟨_, rfl, _, rfl, p, _, dx, _, rfl, upd_same, T.cl_Sign, T.na_Sign_column, (by show 3 < 1000; decide), ?_⟩
    rw [upd_upd]
    exact q
def spIsMark (K : PySem.W.Frag) : Sp := fun vs H Q _ => ∃ (a : Addr) (t : Tok) (m : Str), vs = [.ref a, .str m] ∧ SgnAt K H a t ∧ Q (.bl (decide (t.kd = "mark") && decide (S t.sd = m))) H
theorem ok_Sign_is_mark (T : Tx K mg) : Met P w K mg base 1 (aSign K) "is_mark" (spIsMark K) [] := by
  refine met_ok T.df_Sign_is_mark T.cl_Sign T.me_Sign_is_mark (fun _ _ _ _ _ _ us hl => match us, hl with | [_, _], _ => rfl) sc_Sign_is_mark (fun vs H Q E h => ?_) (fun f cdv A outer s H vs Q E hr h => ?_)
  · obtain ⟨a, t, m, rfl, _⟩ := h
    rfl
  · obtain ⟨a, t, m, rfl, ⟨dx, r, c, ha⟩, q⟩ := h
    refine ⟨_, pss_one (ps_ret (pe_and (pe_cmpR op_eq (pe_fld (pv 0) rfl) pe_str (nomark _)) (pe_one (pe_cmpR op_eq (pe_fld (pv 0) rfl) (pv 1) (nomark _))))), ?_⟩
    refine ⟨_, rfl, a, _, dx, _, _, rfl, ha, T.cl_Sign, T.na_Sign_kind, rfl, rfl, _, rfl, ?_⟩
    rw [dec_str]
    refine ite2 (fun e => ?_) (fun e => ?_)
    · refine ⟨_, rfl, a, _, dx, _, _, rfl, ha, T.cl_Sign, T.na_Sign_said, rfl, _, rfl, rfl, ?_⟩
      rw [dec_str]
      rw [e, Bool.true_and] at q
      exact q
    · have e2 : decide (t.kd = "mark") = false := by
        cases z : decide (t.kd = "mark") with
        | false => rfl
        | true => exact absurd z e
      rw [e2, Bool.false_and] at q
      exact q
/-! ### Cutter -/
def spCutInit (K : PySem.W.Frag) : Sp := fun vs H Q _ => ∃ (p dx : Addr) (t : Str), vs = [.ref p, .str t] ∧ H p = some (.ins (aCut K) dx []) ∧
  ∀ l : Addr, H l = none → Q .non (upd (upd H l (.lst [])) p (.ins (aCut K) dx (cf t 0 1 0 l)))
theorem ok_Cut_init (T : Tx K mg) : Mak P w K mg base 1 "Cutter" (aCut K) (spCutInit K) [] := by
  refine mak_ok T.df_Cutter_init T.mk_Cutter T.mg_Cutter (fun _ _ _ _ _ _ us hl => match us, hl with | [_, _], _ => rfl) sc_Cutter_init (fun vs H Q E h => ?_) (fun f cdv A outer s H vs Q E hr h => ?_)
  · obtain ⟨p, dx, t, rfl, _⟩ := h
    rfl
  · obtain ⟨p, dx, t, rfl, hp, q⟩ := h
    refine ⟨_, pss_cons (ps_fld (pv 0) (pv 1) rfl) (pss_cons (ps_fld (pv 0) pe_int rfl) (pss_cons (ps_fld (pv 0) pe_int rfl) (pss_cons (ps_fld (pv 0) pe_int rfl) (pss_one (ps_fld (pv 0) (pe_lst pa_nil) rfl))))), ?_⟩
    refine ⟨_, rfl, _, rfl, p, _, dx, _, rfl, hp, T.cl_Cutter, T.na_Cutter_text, (by show 0 < 1000; decide), ?_⟩
    refine ⟨_, rfl, p, _, dx, _, rfl, upd_same, T.cl_Cutter, T.na_Cutter_place, (by show 1 < 1000; decide), ?_⟩
    rw [upd_upd]
    refine ⟨_, rfl, p, _, dx, _, rfl, upd_same, T.cl_Cutter, T.na_Cutter_row, (by show 2 < 1000; decide), ?_⟩
    rw [upd_upd]
    refine ⟨_, rfl, p, _, dx, _, rfl, upd_same, T.cl_Cutter, T.na_Cutter_begun, (by show 3 < 1000; decide), ?_⟩
    rw [upd_upd]
    refine ⟨Nat.zero_le _, fun l hl => ?_⟩
    have npl : p ≠ l := fun e => by
      rw [e, upd_same] at hl
      cases hl
    have hl0 : H l = none := by
      rw [upd_ne npl.symm] at hl
      exact hl
    refine ⟨_, rfl, p, _, dx, _, rfl, Eq.trans (upd_ne npl) upd_same, T.cl_Cutter, T.na_Cutter_signs, (by show 4 < 1000; decide), ?_⟩
    have e : upd (upd (upd H p (.ins (aCut K) dx (putF "begun" (.int 0) (putF "row" (.int 1) (putF "place" (.int 0) (putF "text" (.str t) [])))))) l (.lst [])) p (.ins (aCut K) dx (putF "signs" (.ref l) (putF "begun" (.int 0) (putF "row" (.int 1) (putF "place" (.int 0) (putF "text" (.str t) [])))))) = upd (upd H l (.lst [])) p (.ins (aCut K) dx (cf t 0 1 0 l)) := by
      funext b
      by_cases hb : b = p
      · subst hb
        rw [upd_same, upd_same]
        rfl
      · rw [upd_ne hb, upd_ne hb]
        by_cases hbl : b = l
        · subst hbl
          rw [upd_same, upd_same]
        · rw [upd_ne hbl, upd_ne hbl, upd_ne hb]
    have q2 := q l hl0
    rw [← e] at q2
    exact q2
/-- past white -/
def spAtEnd (K : PySem.W.Frag) : Sp := fun vs H Q _ => ∃ (p dx L : Addr) (l : List Nat) (i k : Nat) (r b : Int) (rest : List Nat), vs = [.ref p] ∧ H p = some (.ins (aCut K) dx (cf (S l) (i : Nat) r b L)) ∧ l.length ≤ 10000 ∧ i ≤ l.length ∧
  l.drop i = List.replicate k 32 ++ rest ∧ (∀ c x, rest = c :: x → c ≠ 10 ∧ c ≠ 35 ∧ c ≠ 32 ∧ c ≠ 9) ∧ Q (.bl rest.isEmpty) (upd H p (.ins (aCut K) dx (cf (S l) ((i + k : Nat) : Int) r b L)))
theorem ok_at_end (T : Tx K mg) : Met P w K mg base 1 (aCut K) "at_end" (spAtEnd K) [] := by
  refine met_ok T.df_Cutter_at_end T.cl_Cutter T.me_Cutter_at_end (fun _ _ _ _ _ _ us hl => match us, hl with | [_], _ => rfl) sc_Cutter_at_end (fun vs H Q E h => ?_) (fun f cdv A outer s H vs Q E hr h => ?_)
  · obtain ⟨p, dx, L, l, i, k, r, b, rest, rfl, _⟩ := h
    rfl
  · obtain ⟨p, dx, L, l, i, k, r, b, rest, rfl, hp, hlen, hi, hd, hrest, q⟩ := h
    have nd := sc_Cutter_at_end.nd
    refine ⟨_, pss_cons (ps_while PassesOwn.never
        (pt_cmpR op_lt (pe_fld (pv 0) rfl) (pe_callB call_len_str (by rfl) T.fr_len PySem.boot_len (pa_cons (pe_fld (pv 0) rfl) pa_nil)) (nomark _))
        (pss_cons (ps_set (i := 1) nd rfl (.inl rfl) (pe_ix ix_str (pe_fld (pv 0) rfl) (pe_fld (pv 0) rfl) (fun _ _ => rfl)))
          (pss_cons (ps_if (pt_cmpR op_eq (pv 1) pe_str (nomark _)) pss_never
            (pss_one (ps_if (pt_cmpR op_eq (pv 1) pe_str (nomark _)) pss_never
              (pss_one (ps_if (pt_cmpR op_notIn_sign (pv 1) pe_str rfl) (pss_one (ps_ret pe_bl)) pss_nil)))))
          (pss_one (ps_fldaug (pv 0) pe_int in_add)))))
      (pss_one (ps_ret pe_bl)), ?_⟩
    have hl2 := drop_len hd hi
    rw [List.length_append, List.length_replicate] at hl2
    refine ⟨fun m σ H' => ∃ (j : Nat) (v : Option V), m = k + 1 - j ∧ j ≤ k ∧ σ = [some (.ref p), v, none] ∧ H' = upd H p (.ins (aCut K) dx (cf (S l) ((i + j : Nat) : Int) r b L)), ⟨k + 1, 0, none, by omega, by omega, rfl, ?_⟩, ?_⟩
    · funext c
      by_cases hc : c = p
      · subst hc
        rw [upd_same]
        exact hp
      · rw [upd_ne hc]
    · rintro m σ H' ⟨j, v, rfl, hj, rfl, rfl⟩
      have h1 : (upd H p (.ins (aCut K) dx (cf (S l) ((i + j : Nat) : Int) r b L))) p = some (.ins (aCut K) dx (cf (S l) ((i + j : Nat) : Int) r b L)) := upd_same
      refine ⟨_, rfl, p, _, dx, _, _, rfl, h1, T.cl_Cutter, T.na_Cutter_place, rfl, _, rfl, p, _, dx, _, _, rfl, h1, T.cl_Cutter, T.na_Cutter_text, rfl, _, rfl, len_le hlen, _, _, rfl, rfl, _, rfl, ?_⟩
      refine ite2 (fun e => ?_) (fun e => ?_)
      · -- a sign stands here
        have hlt : i + j < l.length := by
          have := of_decide_eq_true e
          rw [S_len] at this
          omega
        obtain ⟨c, x, hc⟩ : ∃ c x, l.drop (i + j) = c :: x := ⟨l[i + j], l.drop (i + j + 1), List.drop_eq_getElem_cons hlt⟩
        have hdj : l.drop (i + j) = List.replicate (k - j) 32 ++ rest := by
          have e1 : l.drop (i + j) = (l.drop i).drop j := by rw [List.drop_drop]
          rw [e1, hd, List.drop_append_of_le_length (by rw [List.length_replicate]; exact hj), List.drop_replicate]
        refine ⟨fun σ' H'' => ∃ v, j < k ∧ σ' = [some (.ref p), v, none] ∧ H'' = upd H p (.ins (aCut K) dx (cf (S l) ((i + (j + 1) : Nat) : Int) r b L)), fun σ' H'' hN => ?_, ?_⟩
        · obtain ⟨v', hjk, e1, e2⟩ := hN
          exact ⟨k + 1 - (j + 1), by omega, j + 1, v', rfl, hjk, e1, e2⟩
        -- sign = self.text[self.place]
        refine ⟨_, rfl, p, _, dx, _, _, rfl, h1, T.cl_Cutter, T.na_Cutter_text, rfl, _, rfl, p, _, dx, _, _, rfl, h1, T.cl_Cutter, T.na_Cutter_place, rfl, _, _, c, rfl, rfl, len_le hlen, at_drop hc, ?_⟩
        have hcc : c ≠ 10 ∧ c ≠ 35 ∧ (j < k → c = 32) ∧ (¬ j < k → c ≠ 32 ∧ c ≠ 9 ∧ rest = c :: x) := by
          by_cases hjk : j < k
          · rw [hdj, show k - j = (k - j - 1) + 1 by omega, List.replicate_succ] at hc
            have e1 : 32 = c := (List.cons.inj hc).1
            subst e1
            exact ⟨by decide, by decide, fun _ => rfl, fun z => absurd hjk z⟩
          · rw [hdj, show k - j = 0 by omega] at hc
            have e1 : rest = c :: x := hc
            obtain ⟨g1, g2, g3, g4⟩ := hrest c x e1
            exact ⟨g1, g2, fun z => absurd z hjk, fun _ => ⟨g3, g4, e1⟩⟩
        refine ⟨_, rfl, rfl, _, rfl, ite2 (fun z => absurd (sg_eq lit_nl z) hcc.1) (fun _ => ?_)⟩
        refine ⟨_, rfl, rfl, _, rfl, ite2 (fun z => absurd (sg_eq lit_hash z) hcc.2.1) (fun _ => ?_)⟩
        refine ⟨_, rfl, c, _, rfl, rfl, _, rfl, ?_⟩
        rw [lit_white]
        by_cases hjk : j < k
        · have ec := hcc.2.2.1 hjk
          subst ec
          refine ite2 (fun z => absurd z (by decide)) (fun _ => ?_)
          refine ⟨_, rfl, p, _, dx, _, _, rfl, h1, T.cl_Cutter, T.na_Cutter_place, rfl, _, _, rfl, rfl, dx, _, h1, (by show 5 < 1000; decide), ?_⟩
          refine ⟨_, hjk, rfl, ?_⟩
          rw [upd_upd]
          rfl
        · obtain ⟨g3, g4, e1⟩ := hcc.2.2.2 hjk
          refine ite2 (fun _ => ?_) (fun z => absurd z ?_)
          · have ej : j = k := by omega
            subst ej
            rw [e1] at q
            exact q
          · have : ¬ c ∈ (S [32, 9]).cps.toList := by
              show ¬ c ∈ [32, 9]
              simp [g3, g4]
            rw [decide_eq_false this]
            decide
      · -- the text's end
        have hge : ¬ i + j < l.length := fun z => e (decide_eq_true (by rw [S_len]; omega))
        have e0 : rest.length = 0 := by omega
        have e1 : rest = [] := List.length_eq_zero_iff.mp e0
        have ej : j = k := by omega
        subst ej
        rw [e1] at q
        exact q
end
end K46
set_option Elab.async false
set_option linter.all false
set_option maxRecDepth 100000
set_option maxHeartbeats 2000000
/-! A list held against the empty one; the cutter, second part. -/
namespace K46
open PySem PySem.Spec PyProof.Rows L2 SX
open C8 (Cal Met Mak pe_c pe_mt pe_mt0 pe_mk fn0)
section
variable {X : Cx}
def rNil (K : PySem.W.Frag) (neg : Bool) : R2 := fun x y H Q => ∃ (p q : Addr) (xs : List V), x = .ref p ∧ y = .ref q ∧ SqL K H p xs ∧ SqL K H q [] ∧ Q (.bl (if neg then !xs.isEmpty else xs.isEmpty)) H
theorem op_eqNil (hu : X.A.units + 64 < cLine) : OpR X (compareOp .Eq) (rNil X.K false) := by
  intro pins s σ H x y v u Q I rx ry h
  obtain ⟨p, q, xs, rfl, rfl, hp, hq, h⟩ := h
  cases rx
  cases ry
  obtain ⟨its, r1, p1, _⟩ := I.list hp
  obtain ⟨its2, r2, p2, _⟩ := I.list hq
  cases r2
  have hl := r1.length
  cases xs with
  | nil =>
    cases r1
    refine SeqAt.eq_listAt (e := fun _ => true) p1.isList p2.isList rfl (by omega) (fun j h1 h2 => absurd h1 (by simp)) ?_
    exact ⟨.bl _, H, I, rfl, h⟩
  | cons a r =>
    have hs : (its.toArray.size != ([] : List Value).toArray.size) = true := by
      rw [List.size_toArray, ← hl]
      simp
    exact SeqAt.eq_list_lengthsAt p1.isList p2.isList hs (by omega) ⟨.bl _, H, I, rfl, h⟩
theorem op_neNil (hu : X.A.units + 64 < cLine) : OpR X (compareOp .NotEq) (rNil X.K true) := by
  intro pins s σ H x y v u Q I rx ry h
  obtain ⟨p, q, xs, rfl, rfl, hp, hq, h⟩ := h
  cases rx
  cases ry
  obtain ⟨its, r1, p1, _⟩ := I.list hp
  obtain ⟨its2, r2, p2, _⟩ := I.list hq
  cases r2
  have hl := r1.length
  cases xs with
  | nil =>
    cases r1
    refine SeqAt.RcNeAt.lists (e := fun _ => true) p1.isList p2.isList rfl (by omega) (fun j h1 h2 => absurd h1 (by simp)) X.prog X.w _ _ ?_
    exact ⟨.bl _, H, I, rfl, h⟩
  | cons a r =>
    have hs : (its.toArray.size != ([] : List Value).toArray.size) = true := by
      rw [List.size_toArray, ← hl]
      simp
    exact SeqAt.RcNeAt.lists_lengths p1.isList p2.isList hs (by omega) X.prog X.w _ _ ⟨.bl _, H, I, rfl, h⟩
end
end K46
set_option Elab.async false
set_option linter.all false
set_option maxRecDepth 100000
set_option maxHeartbeats 4000000
/-! The cutter, second part. -/
namespace K46
open PySem PySem.Spec PyProof.Rows L2 SX
open C8 (Cal Met Mak pe_c pe_mt pe_mt0 pe_mk fn0 pe_gc pss_cut)
/-! ### texts among texts -/
theorem inV_S (z : List Nat) (ms : List (List Nat)) : inV (.str (S z)) (ms.map fun l => V.str (S l)) = decide (z ∈ ms) := by
  unfold inV
  induction ms with
  | nil => rfl
  | cons m ms ih =>
    rw [List.map_cons, List.any_cons, ih]
    have e : eqV (V.str (S m)) (V.str (S z)) = decide (m = z) := S_beq_eq
    rw [e, Bool.eq_iff_iff, Bool.or_eq_true, decide_eq_true_eq, decide_eq_true_eq, decide_eq_true_eq, List.mem_cons]
    constructor
    · rintro (h | h)
      · exact .inl h.symm
      · exact .inr h
    · rintro (h | h)
      · exact .inl h.symm
      · exact .inr h
theorem flat_S (ms : List (List Nat)) : (ms.map fun l => V.str (S l)).all flatV = true := by
  rw [List.all_eq_true]
  intro x hx
  obtain ⟨l, _, rfl⟩ := List.mem_map.mp hx
  rfl
def marksL : List (List Nat) := [[58, 45], [63, 45], [60, 61], [33, 61], [58, 61], [40], [41], [44], [46], [33], [60], [61], [43], [45], [42]]
theorem marks_eq : ([.str ":-", .str "?-", .str "<=", .str "!=", .str ":=", .str "(", .str ")", .str ",", .str ".", .str "!", .str "<", .str "=", .str "+", .str "-", .str "*"] : List V) = marksL.map fun l => V.str (S l) := by decide +kernel
def sumsL : List (List Nat) := [[99, 111, 117, 110, 116], [115, 117, 109], [108, 101, 97, 115, 116], [109, 111, 115, 116]]
theorem sums_eq : ([.str "count", .str "sum", .str "least", .str "most"] : List V) = sumsL.map fun l => V.str (S l) := by decide +kernel
theorem gstr {mg : Str → Option Value} {x z : Str} (h : ∃ t, mg x = some (.str z t)) : ∃ u, mg x = some u ∧ RelV (.str z) u := by
  obtain ⟨t, h⟩ := h
  exact ⟨_, h, _, rfl⟩
theorem gint {mg : Str → Option Value} {x : Str} {i : Int} (h : ∃ t, mg x = some (.int i t)) : ∃ u, mg x = some u ∧ RelV (.int i) u := by
  obtain ⟨t, h⟩ := h
  exact ⟨_, h, _, rfl⟩
theorem upd_id {H : Hp} {p : Addr} {o : HO} (h : H p = some o) : H = upd H p o := by
  funext c
  by_cases hc : c = p
  · subst hc
    rw [upd_same]
    exact h
  · rw [upd_ne hc]
section
variable {P : Program} {w : World} {K : PySem.W.Frag} {mg : Str → Option Value} {base : Heap}
/-! ### run -/
def spRun (K : PySem.W.Frag) : Sp := fun vs H Q _ => ∃ (p dx L : Addr) (l g : List Nat) (i : Nat) (r b : Int) (c : Nat) (x rest : List Nat), vs = [.ref p, .str (S g)] ∧ H p = some (.ins (aCut K) dx (cf (S l) (i : Nat) r b L)) ∧ l.length ≤ 10000 ∧
  l.drop i = c :: (x ++ rest) ∧ (∀ y ∈ x, y ∈ g) ∧ (∀ d z, rest = d :: z → d ∉ g) ∧ Q (.str (S (c :: x))) (upd H p (.ins (aCut K) dx (cf (S l) ((i + (x.length + 1) : Nat) : Int) r b L)))
theorem ok_run (T : Tx K mg) : Met P w K mg base 1 (aCut K) "run" (spRun K) [] := by
  refine met_ok T.df_Cutter_run T.cl_Cutter T.me_Cutter_run (fun _ _ _ _ _ _ us hl => match us, hl with | [_, _], _ => rfl) sc_Cutter_run (fun vs H Q E h => ?_) (fun f cdv A outer s H vs Q E hr h => ?_)
  · obtain ⟨p, dx, L, l, g, i, r, b, c, x, rest, rfl, _⟩ := h
    rfl
  · obtain ⟨p, dx, L, l, g, i, r, b, c, x, rest, rfl, hp, hlen, hd, hx, hrest, q⟩ := h
    have nd := sc_Cutter_run.nd
    refine ⟨_, pss_cons (ps_set (i := 2) nd rfl (.inl rfl) (pe_fld (pv 0) rfl))
      (pss_cons (ps_fldaug (pv 0) pe_int in_add)
      (pss_cons (ps_while PassesOwn.never
        (PW.pt (pw_and (pt_cmpR op_lt (pe_fld (pv 0) rfl) (pe_callB call_len_str (by rfl) T.fr_len PySem.boot_len (pa_cons (pe_fld (pv 0) rfl) pa_nil)) (nomark _))
          (pw_and1 (pt_cmpR op_in_sign (pe_ix ix_str (pe_fld (pv 0) rfl) (pe_fld (pv 0) rfl) (fun _ _ => rfl)) (pv 1) rfl))))
        (pss_one (ps_fldaug (pv 0) pe_int in_add)))
      (pss_one (ps_ret (pe_slice sl_str (pe_fld (pv 0) rfl) (po_some (pv 2)) (po_some (pe_fld (pv 0) rfl))))))), ?_⟩
    have hi := drop_lt hd
    have hd1 : l.drop (i + 1) = x ++ rest := drop_next hd
    have hl2 := drop_len hd1 (by omega)
    rw [List.length_append] at hl2
    -- start = self.place; self.place += 1
    refine ⟨_, rfl, p, _, dx, _, _, rfl, hp, T.cl_Cutter, T.na_Cutter_place, rfl, ?_⟩
    refine ⟨_, rfl, p, _, dx, _, _, rfl, hp, T.cl_Cutter, T.na_Cutter_place, rfl, _, _, rfl, rfl, dx, _, hp, (by show 5 < 1000; decide), ?_⟩
    refine ⟨fun m σ H' => ∃ j : Nat, m = x.length - j ∧ j ≤ x.length ∧ σ = [some (.ref p), some (.str (S g)), some (.int (i : Nat))] ∧ H' = upd H p (.ins (aCut K) dx (cf (S l) ((i + 1 + j : Nat) : Int) r b L)), ⟨x.length, 0, by omega, by omega, rfl, rfl⟩, ?_⟩
    rintro m σ H' ⟨j, rfl, hj, rfl, rfl⟩
    have h1 : (upd H p (.ins (aCut K) dx (cf (S l) ((i + 1 + j : Nat) : Int) r b L))) p = some (.ins (aCut K) dx (cf (S l) ((i + 1 + j : Nat) : Int) r b L)) := upd_same
    have hdj : l.drop (i + 1 + j) = x.drop j ++ rest := by
      have e1 : l.drop (i + 1 + j) = (l.drop (i + 1)).drop j := by rw [List.drop_drop]
      rw [e1, hd1, List.drop_append_of_le_length hj]
    have fin : ¬ j < x.length → (upd H p (.ins (aCut K) dx (cf (S l) ((i + 1 + j : Nat) : Int) r b L))) = (upd H p (.ins (aCut K) dx (cf (S l) ((i + (x.length + 1) : Nat) : Int) r b L))) := fun z => by
      have ej : j = x.length := by omega
      rw [ej, show i + 1 + x.length = i + (x.length + 1) by omega]
    have out : ¬ j < x.length → (tRet (tSl rSlS (tFld K (tVar 0) "text") (tPart (tVar 2)) (tPart (tFld K (tVar 0) "place")))) { nx := fun _ H' => Q .non H', rt := Q } [some (.ref p), some (.str (S g)), some (.int (i : Nat))] (upd H p (.ins (aCut K) dx (cf (S l) ((i + 1 + j : Nat) : Int) r b L))) := fun z => by
      refine ⟨_, rfl, p, _, dx, _, _, rfl, h1, T.cl_Cutter, T.na_Cutter_text, rfl, _, rfl, _, rfl, _, rfl, p, _, dx, _, _, rfl, h1, T.cl_Cutter, T.na_Cutter_place, rfl, _, rfl, _, rfl, len_le hlen, ?_⟩
      rw [cut_S, fin z]
      have e2 : (l.drop i).take (i + 1 + j - i) = c :: x := by
        rw [hd, show i + 1 + j - i = (c :: x).length by rw [List.length_cons]; omega, ← List.cons_append]
        exact List.take_left
      rw [e2]
      exact q
    refine ⟨_, rfl, p, _, dx, _, _, rfl, h1, T.cl_Cutter, T.na_Cutter_place, rfl, _, rfl, p, _, dx, _, _, rfl, h1, T.cl_Cutter, T.na_Cutter_text, rfl, _, rfl, len_le hlen, _, _, rfl, rfl, _, rfl, ?_⟩
    refine ite2 (fun e => ?_) (fun e => ?_)
    · have hlt : i + 1 + j < l.length := by
        have := of_decide_eq_true e
        rw [S_len] at this
        omega
      obtain ⟨d, z, hdz⟩ : ∃ d z, l.drop (i + 1 + j) = d :: z := ⟨l[i + 1 + j], l.drop (i + 1 + j + 1), List.drop_eq_getElem_cons hlt⟩
      refine ⟨_, rfl, p, _, dx, _, _, rfl, h1, T.cl_Cutter, T.na_Cutter_text, rfl, _, rfl, p, _, dx, _, _, rfl, h1, T.cl_Cutter, T.na_Cutter_place, rfl, _, _, d, rfl, rfl, len_le hlen, at_drop hdz, _, rfl, d, _, rfl, rfl, _, rfl, ?_⟩
      rw [hdj] at hdz
      refine ite2 (fun e2 => ?_) (fun e2 => ?_)
      · have hm : d ∈ g := of_decide_eq_true e2
        have hjx : j < x.length := by
          refine Nat.lt_of_not_le fun q => ?_
          rw [List.drop_eq_nil_of_le q, List.nil_append] at hdz
          exact hrest d z hdz hm
        refine ⟨fun σ' H'' => σ' = [some (.ref p), some (.str (S g)), some (.int (i : Nat))] ∧ H'' = upd H p (.ins (aCut K) dx (cf (S l) ((i + 1 + (j + 1) : Nat) : Int) r b L)), fun σ' H'' hN => ⟨x.length - (j + 1), by omega, j + 1, rfl, hjx, hN.1, hN.2⟩, ?_⟩
        refine ⟨_, rfl, p, _, dx, _, _, rfl, h1, T.cl_Cutter, T.na_Cutter_place, rfl, _, _, rfl, rfl, dx, _, h1, (by show 5 < 1000; decide), ?_⟩
        refine ⟨rfl, ?_⟩
        rw [upd_upd]
        rfl
      · refine out fun hjx => e2 (decide_eq_true (hx d ?_))
        rw [List.drop_eq_getElem_cons hjx, List.cons_append] at hdz
        rw [← (List.cons.inj hdz).1]
        exact List.getElem_mem hjx
    · refine out fun hjx => e (decide_eq_true ?_)
      rw [S_len]
      omega
/-! ### quoted -/
theorem enc_app (a b : List Nat) : enc (a ++ b) = enc a ++ enc b := List.flatMap_append
theorem enc_one (c : Nat) : enc [c] = esc c := by
  rw [enc_cons, enc_nil, List.append_nil]
def spQuoted (K : PySem.W.Frag) : Sp := fun vs H Q _ => ∃ (p dx L : Addr) (l : List Nat) (i : Nat) (r b : Int) (x rest : List Nat), vs = [.ref p] ∧ H p = some (.ins (aCut K) dx (cf (S l) (i : Nat) r b L)) ∧ l.length ≤ 10000 ∧ x.length ≤ 1000 ∧
  l.drop i = 39 :: (enc x ++ 39 :: rest) ∧ Q (.str (S x)) (upd H p (.ins (aCut K) dx (cf (S l) ((i + ((enc x).length + 2) : Nat) : Int) r b L)))
theorem ok_quoted (T : Tx K mg) : Met P w K mg base 1 (aCut K) "quoted" (spQuoted K) [] := by
  refine met_ok T.df_Cutter_quoted T.cl_Cutter T.me_Cutter_quoted (fun _ _ _ _ _ _ us hl => match us, hl with | [_], _ => rfl) sc_Cutter_quoted (fun vs H Q E h => ?_) (fun f cdv A outer s H vs Q E hr h => ?_)
  · obtain ⟨p, dx, L, l, i, r, b, x, rest, rfl, _⟩ := h
    rfl
  · obtain ⟨p, dx, L, l, i, r, b, x, rest, rfl, hp, hlen, hx1, hd, q⟩ := h
    have nd := sc_Cutter_quoted.nd
    refine ⟨_, pss_cons (ps_par (i := 1) (j := 2) (by rfl) nd rfl rfl (by decide) rfl rfl (pa_cons pe_str (pa_cons (pe_op op_add (pe_fld (pv 0) rfl) pe_int) pa_nil)) (by rfl))
      (pss_cons (ps_while PassesOwn.never
        (PW.pt (pw_and (pt_cmpR op_lt (pv 2) (pe_callB call_len_str (by rfl) T.fr_len PySem.boot_len (pa_cons (pe_fld (pv 0) rfl) pa_nil)) (nomark _))
          (pw_and1 (pt_cmpR op_notIn_sign (pe_ix ix_str (pe_fld (pv 0) rfl) (pv 2) (fun _ _ => rfl)) pe_str rfl))))
        (pss_cons (ps_set (i := 3) nd rfl (.inl rfl) (pe_ix ix_str (pe_fld (pv 0) rfl) (pv 2) (fun _ _ => rfl)))
          (pss_cut (ps_if (pt_cmpR op_eq (pv 3) pe_str (nomark _))
            (pss_cons (ps_aug (i := 2) nd rfl (.inl rfl) pe_int iop_add)
              (pss_cons (ps_set (i := 3) nd rfl (.inl rfl) (pe_slice sl_str (pe_fld (pv 0) rfl) (po_some (pv 2)) (po_some (pe_op op_add (pv 2) pe_int))))
              (pss_cons (ps_if (PW.pt (pw_or (pt_cmpR op_eq (pv 3) pe_str (nomark _)) (pw_or1 (pt_cmpR op_notIn_sign (pv 3) pe_str rfl)))) pss_never pss_nil)
              (pss_one (ps_set (i := 3) nd rfl (.inl rfl) (pe_ifExp (pt_cmpR op_eq (pv 3) pe_str (nomark _)) pe_str (pv 3)))))))
            pss_nil)
          (pss_cons (ps_aug (i := 1) nd rfl (.inl rfl) (pv 3) iop_add_str)
          (pss_one (ps_aug (i := 2) nd rfl (.inl rfl) pe_int iop_add))))))
      (pss_cons (ps_if (pt_cmpR op_ne (pe_slice sl_str (pe_fld (pv 0) rfl) (po_some (pv 2)) (po_some (pe_op op_add (pv 2) pe_int))) pe_str (nomark _)) pss_never pss_nil)
      (pss_cons (ps_fld (pv 0) (pe_op op_add (pv 2) pe_int) rfl)
      (pss_one (ps_ret (pv 1)))))), ?_⟩
    have hi := drop_lt hd
    have hd1 : l.drop (i + 1) = enc x ++ 39 :: rest := drop_next hd
    have hl2 := drop_len hd1 (by omega)
    rw [List.length_append, List.length_cons] at hl2
    -- said, place = '', self.place + 1
    refine ⟨_, rfl, p, _, dx, _, _, rfl, hp, T.cl_Cutter, T.na_Cutter_place, rfl, _, _, rfl, rfl, _, _, rfl, ?_⟩
    refine ⟨fun m σ H' => ∃ (x1 x2 : List Nat) (v : Option V), m = x2.length ∧ x = x1 ++ x2 ∧ σ = [some (.ref p), some (.str (S x1)), some (.int ((i + 1 + (enc x1).length : Nat) : Int)), v] ∧ H' = H, ⟨x.length, [], x, none, rfl, rfl, rfl, rfl⟩, ?_⟩
    rintro m σ H' ⟨x1, x2, v, rfl, rfl, rfl, rfl⟩
    have hd2 : l.drop (i + 1 + (enc x1).length) = enc x2 ++ 39 :: rest := by
      rw [enc_app, List.append_assoc] at hd1
      exact drop_app hd1
    rw [enc_app, List.length_append] at hl2
    have hlt : i + 1 + (enc x1).length < l.length := by omega
    refine ⟨_, rfl, _, rfl, p, _, dx, _, _, rfl, hp, T.cl_Cutter, T.na_Cutter_text, rfl, _, rfl, len_le hlen, _, _, rfl, rfl, _, rfl, ?_⟩
    refine ite2 (fun e => ?_) (fun e => absurd (decide_eq_true (by rw [S_len]; omega)) e)
    obtain ⟨d, z, hdz⟩ : ∃ d z, l.drop (i + 1 + (enc x1).length) = d :: z := ⟨l[i + 1 + (enc x1).length], l.drop (i + 1 + (enc x1).length + 1), List.drop_eq_getElem_cons hlt⟩
    refine ⟨_, rfl, p, _, dx, _, _, rfl, hp, T.cl_Cutter, T.na_Cutter_text, rfl, _, rfl, _, _, d, rfl, rfl, len_le hlen, at_drop hdz, d, _, rfl, rfl, _, rfl, ?_⟩
    rw [lit_qn]
    cases x2 with
    | nil =>
      -- the closing mark
      have ed : d = 39 := by
        rw [hd2] at hdz
        exact (List.cons.inj hdz).1.symm
      subst ed
      refine ite2 (fun z => absurd z (by decide)) (fun _ => ?_)
      refine ⟨_, rfl, p, _, dx, _, _, rfl, hp, T.cl_Cutter, T.na_Cutter_text, rfl, _, rfl, _, rfl, _, rfl, _, _, rfl, rfl, _, rfl, _, rfl, len_le hlen, ?_⟩
      have e1 : cutS (S l) (some ((i + 1 + (enc x1).length : Nat) : Int)) (some (((i + 1 + (enc x1).length : Nat) : Int) + 1)) = S [39] := by
        have e2 := cut_S l (i + 1 + (enc x1).length) (i + 1 + (enc x1).length + 1)
        have e3 : ((i + 1 + (enc x1).length + 1 : Nat) : Int) = ((i + 1 + (enc x1).length : Nat) : Int) + 1 := by push_cast; rfl
        rw [e3] at e2
        rw [e2, hdz, show i + 1 + (enc x1).length + 1 - (i + 1 + (enc x1).length) = 1 by omega]
        rfl
      rw [e1]
      refine ⟨rfl, _, rfl, ?_⟩
      rw [lit_q]
      refine ite2 (fun z => absurd z (by decide)) (fun _ => ?_)
      refine ⟨_, rfl, _, _, rfl, rfl, _, rfl, p, _, dx, _, rfl, hp, T.cl_Cutter, T.na_Cutter_place, (by show 5 < 1000; decide), ?_⟩
      refine ⟨_, rfl, ?_⟩
      rw [List.append_nil] at q
      have e4 : putF "place" (V.int (((i + 1 + (enc x1).length : Nat) : Int) + 1)) (cf (S l) (i : Nat) r b L) = cf (S l) ((i + ((enc x1).length + 2) : Nat) : Int) r b L := by
        rw [show ((i + ((enc x1).length + 2) : Nat) : Int) = ((i + 1 + (enc x1).length : Nat) : Int) + 1 by omega]
        rfl
      rw [e4]
      exact q
    | cons c x2 =>
      have hd3 : l.drop (i + 1 + (enc x1).length) = esc c ++ (enc x2 ++ 39 :: rest) := by
        rw [hd2, enc_cons, List.append_assoc]
      have hx3 : (x1 ++ [c]).length ≤ 1000 := by
        rw [List.length_append, List.length_cons] at hx1
        rw [List.length_append, List.length_singleton]
        omega
      have tail : ∀ (pl : Nat), pl + 1 = i + 1 + (enc (x1 ++ [c])).length → (tSeq (tAug 1 (tVar 3) fun x y H Q => ∃ i j, x = .str i ∧ y = .str j ∧ i.length + j.length ≤ sizeLine ∧ Q (.str (i ++ j)) H) (tAug 2 (tC (.int 1)) (rI0 fun i j => .int (i + j))))
          { nx := fun σ' H'' => ∃ v, σ' = [some (.ref p), some (.str (S (x1 ++ [c]))), some (.int ((i + 1 + (enc (x1 ++ [c])).length : Nat) : Int)), v] ∧ H'' = H', rt := fun _ _ => True } [some (.ref p), some (.str (S x1)), some (.int (pl : Nat)), some (.str (S [c]))] H' := fun pl hpl => by
        refine ⟨_, rfl, _, rfl, _, _, rfl, rfl, ?_, _, rfl, _, _, rfl, rfl, some (.str (S [c])), ?_, rfl⟩
        · rw [S_len, S_len, ← List.length_append]
          exact Nat.le_trans hx3 (by decide)
        · rw [S_cat, ← hpl]
          rfl
      -- one more sign
      have dec : (!decide (d ∈ (S [39, 10]).cps.toList)) = true := by
        have : d ∉ (S [39, 10]).cps.toList := by
          show ¬ d ∈ [39, 10]
          intro hm
          rw [hd3] at hdz
          unfold esc at hdz
          simp only [List.mem_cons, List.not_mem_nil, or_false] at hm
          by_cases h1 : c = 92
          · rw [if_pos h1] at hdz
            have := (List.cons.inj hdz).1
            omega
          · rw [if_neg h1] at hdz
            by_cases h2 : c = 39
            · rw [if_pos h2] at hdz
              have := (List.cons.inj hdz).1
              omega
            · rw [if_neg h2] at hdz
              by_cases h3 : c = 10
              · rw [if_pos h3] at hdz
                have := (List.cons.inj hdz).1
                omega
              · rw [if_neg h3] at hdz
                have := (List.cons.inj hdz).1
                omega
        rw [decide_eq_false this]
        rfl
      refine ite2 (fun _ => ?_) (fun z => absurd dec z)
      refine ⟨fun σ' H'' => ∃ v, σ' = [some (.ref p), some (.str (S (x1 ++ [c]))), some (.int ((i + 1 + (enc (x1 ++ [c])).length : Nat) : Int)), v] ∧ H'' = H', fun σ' H'' hN => ?_, ?_⟩
      · obtain ⟨v', e1, e2⟩ := hN
        exact ⟨x2.length, by rw [List.length_cons]; omega, x1 ++ [c], x2, v', rfl, by rw [List.append_assoc]; rfl, e1, e2⟩
      -- sign = self.text[place]
      refine ⟨_, rfl, p, _, dx, _, _, rfl, hp, T.cl_Cutter, T.na_Cutter_text, rfl, _, rfl, _, _, d, rfl, rfl, len_le hlen, at_drop hdz, ?_⟩
      refine ⟨fun σ' H'' => ∃ pl : Nat, σ' = [some (.ref p), some (.str (S x1)), some (.int (pl : Nat)), some (.str (S [c]))] ∧ H'' = H' ∧ pl + 1 = i + 1 + (enc (x1 ++ [c])).length, ?_, ?_⟩
      · refine ⟨_, rfl, rfl, _, rfl, ?_⟩
        have hlen1 : (enc (x1 ++ [c])).length = (enc x1).length + (esc c).length := by rw [enc_app, List.length_append, enc_one]
        refine ite2 (fun e1 => ?_) (fun e1 => ?_)
        · -- behind a backslash
          have ed : d = 92 := sg_eq lit_bs e1
          subst ed
          obtain ⟨k, z2, hk, hks, hlen2⟩ : ∃ k z2, l.drop (i + 1 + (enc x1).length + 1) = k :: z2 ∧ ((k = 110 ∧ c = 10) ∨ (k = c ∧ (k = 39 ∨ k = 92))) ∧ (esc c).length = 2 := by
            have e2 : l.drop (i + 1 + (enc x1).length + 1) = (esc c ++ (enc x2 ++ 39 :: rest)).drop 1 := by
              rw [← hd3, List.drop_drop]
            rw [hd3] at hdz
            unfold esc at hdz e2 ⊢
            by_cases h1 : c = 92
            · rw [if_pos h1] at e2
              rw [if_pos h1]
              exact ⟨92, _, e2, .inr ⟨h1.symm, .inr rfl⟩, rfl⟩
            · rw [if_neg h1] at hdz e2
              rw [if_neg h1]
              by_cases h2 : c = 39
              · rw [if_pos h2] at e2
                rw [if_pos h2]
                exact ⟨39, _, e2, .inr ⟨h2.symm, .inl rfl⟩, rfl⟩
              · rw [if_neg h2] at hdz e2
                rw [if_neg h2]
                by_cases h3 : c = 10
                · rw [if_pos h3] at e2
                  rw [if_pos h3]
                  exact ⟨110, _, e2, .inl ⟨rfl, h3⟩, rfl⟩
                · rw [if_neg h3] at hdz
                  exact absurd (List.cons.inj hdz).1 h1
          have hlt2 := drop_lt hk
          -- place += 1; sign = self.text[place:place + 1]
          refine ⟨_, rfl, _, _, rfl, rfl, ?_⟩
          refine ⟨_, rfl, p, _, dx, _, _, rfl, hp, T.cl_Cutter, T.na_Cutter_text, rfl, _, rfl, _, rfl, _, rfl, _, _, rfl, rfl, _, rfl, _, rfl, len_le hlen, ?_⟩
          have e3 : cutS (S l) (some (((i + 1 + (enc x1).length : Nat) : Int) + 1)) (some (((i + 1 + (enc x1).length : Nat) : Int) + 1 + 1)) = S [k] := by
            have e2 := cut_S l (i + 1 + (enc x1).length + 1) (i + 1 + (enc x1).length + 1 + 1)
            have e4 : ((i + 1 + (enc x1).length + 1 : Nat) : Int) = ((i + 1 + (enc x1).length : Nat) : Int) + 1 := by push_cast; rfl
            have e5 : ((i + 1 + (enc x1).length + 1 + 1 : Nat) : Int) = ((i + 1 + (enc x1).length : Nat) : Int) + 1 + 1 := by push_cast; rfl
            rw [e4, e5] at e2
            rw [e2, hk, show i + 1 + (enc x1).length + 1 + 1 - (i + 1 + (enc x1).length + 1) = 1 by omega]
            rfl
          rw [e3]
          -- if sign == '' or sign not in ..
          refine ⟨_, rfl, rfl, _, rfl, ?_⟩
          have e6 : decide (V.str (S [k]) = V.str ("" : Str)) = false := by
            rw [lit_e, dec_S]
            rfl
          rw [e6]
          refine iteF ⟨_, rfl, k, _, rfl, rfl, _, rfl, ?_⟩
          rw [lit_qbn]
          have e7 : (!decide (k ∈ (S [39, 92, 110]).cps.toList)) = false := by
            have : k ∈ (S [39, 92, 110]).cps.toList := by
              show k ∈ [39, 92, 110]
              simp only [List.mem_cons, List.not_mem_nil, or_false]
              omega
            rw [decide_eq_true this]
            rfl
          rw [e7]
          refine iteF ⟨_, rfl, rfl, _, rfl, ?_⟩
          refine ite2 (fun e8 => ?_) (fun e8 => ?_)
          · have ek : k = 110 := sg_eq lit_n e8
            have ec : c = 10 := by omega
            subst ec
            exact ⟨i + 1 + (enc x1).length + 1, by rw [lit_nl]; rfl, rfl, by omega⟩
          · have ek : k ≠ 110 := fun z => e8 (by subst z; exact sg_is lit_n)
            have ec : k = c := by omega
            subst ec
            exact ⟨_, rfl, i + 1 + (enc x1).length + 1, rfl, rfl, by omega⟩
        · -- the sign itself
          have hc92 : c ≠ 92 := fun z => by
            subst z
            have ed : d = 92 := by
              rw [hd3] at hdz
              exact (List.cons.inj hdz).1.symm
            subst ed
            exact e1 (sg_is lit_bs)
          have hesc : esc c = [c] ∧ d = c := by
            rw [hd3] at hdz
            unfold esc at hdz ⊢
            rw [if_neg hc92] at hdz
            rw [if_neg hc92]
            by_cases h2 : c = 39
            · rw [if_pos h2] at hdz
              have ed : d = 92 := (List.cons.inj hdz).1.symm
              subst ed
              exact absurd (sg_is lit_bs) e1
            · rw [if_neg h2] at hdz
              rw [if_neg h2]
              by_cases h3 : c = 10
              · rw [if_pos h3] at hdz
                have ed : d = 92 := (List.cons.inj hdz).1.symm
                subst ed
                exact absurd (sg_is lit_bs) e1
              · rw [if_neg h3] at hdz
                rw [if_neg h3]
                exact ⟨rfl, (List.cons.inj hdz).1.symm⟩
          obtain ⟨he1, rfl⟩ := hesc
          rw [he1] at hlen1
          exact ⟨i + 1 + (enc x1).length, rfl, rfl, by rw [hlen1, List.length_singleton]; omega⟩
      · rintro σ' H'' ⟨pl, rfl, rfl, hpl⟩
        exact tail pl hpl
end
end K46
set_option Elab.async false
set_option linter.all false
set_option maxRecDepth 100000
set_option maxHeartbeats 4000000
/-! The cutter, third part: cut. -/
namespace K46
open PySem PySem.Spec PyProof.Rows L2 SX
open C8 (Cal Met Mak pe_c pe_mt pe_mt0 pe_mk fn0 pe_gc pss_cut)
section
variable {P : Program} {w : World} {K : PySem.W.Frag} {mg : Str → Option Value} {base : Heap}
theorem dec_ne {a b : Str} : (!decide (V.str a = V.str b)) = !decide (a = b) := by rw [dec_str]
/-! ### signed -/
def spSigned (K : PySem.W.Frag) : Sp := fun vs H Q _ => ∃ (p dx L : Addr) (l : List Nat) (i : Nat) (r b : Int) (c : Nat) (x : List Nat) (as : List Addr), vs = [.ref p] ∧ H p = some (.ins (aCut K) dx (cf (S l) (i : Nat) r b L)) ∧ l.length ≤ 10000 ∧
  H L = some (.lst (as.map V.ref)) ∧ l.drop i = c :: x ∧ (c = 45 → (∃ d x', x = d :: x' ∧ d ∈ figs) ∧ (as = [] ∨ ∃ as' a t, as = as' ++ [a] ∧ SgnAt K H a t ∧ t.lets = true)) ∧ ∀ H', Same H H' → Q (.bl (decide (c = 45))) H'
theorem ok_signed (T : Tx K mg) : Met P w K mg base 1 (aCut K) "signed" (spSigned K) [] := by
  refine met_ok T.df_Cutter_signed T.cl_Cutter T.me_Cutter_signed (fun _ _ _ _ _ _ us hl => match us, hl with | [_], _ => rfl) sc_Cutter_signed (fun vs H Q E h => ?_) (fun f cdv A outer s H vs Q E hr h => ?_)
  · obtain ⟨p, dx, L, l, i, r, b, c, x, as, rfl, _⟩ := h
    rfl
  · obtain ⟨p, dx, L, l, i, r, b, c, x, as, rfl, hp, hlen, hL, hd, hok, q⟩ := h
    have nd := sc_Cutter_signed.nd
    refine ⟨_, pss_cons (ps_set (i := 1) nd rfl (.inl rfl) (pe_slice sl_str (pe_fld (pv 0) rfl) (po_some (pe_op op_add (pe_fld (pv 0) rfl) pe_int)) (po_some (pe_op op_add (pe_fld (pv 0) rfl) pe_int))))
      (pss_cons (ps_if (PW.pt (pw_or (pt_cmpR op_ne (pe_ix ix_str (pe_fld (pv 0) rfl) (pe_fld (pv 0) rfl) (fun _ _ => rfl)) pe_str (nomark _))
          (pw_or (pt_cmpR op_eq (pv 1) pe_str (nomark _)) (pw_or1 (pt_cmpR op_notIn_sign (pv 1) (pe_gc (by rfl) (gstr T.st_FIGURES)) rfl))))) (pss_one (ps_ret pe_bl)) pss_nil)
      (pss_cons (ps_if (pt_cmpR (op_eqNil hr.units) (pe_fld (pv 0) rfl) (pe_lst pa_nil) (nomark _)) (pss_one (ps_ret pe_bl)) pss_nil)
      (pss_cons (ps_set (i := 2) nd rfl (.inl rfl) (pe_ix ix_list (pe_fld (pv 0) rfl) (pe_un un_neg pe_int) (fun _ _ => rfl)))
      (pss_one (ps_ret (pe_and (pe_cmpR op_eq (pe_fld (pv 2) rfl) pe_str (nomark _)) (pe_one (pe_cmpR op_ne (pe_fld (pv 2) rfl) pe_str (nomark _))))))))), ?_⟩
    have hi := drop_lt hd
    -- after
    refine ⟨_, rfl, p, _, dx, _, _, rfl, hp, T.cl_Cutter, T.na_Cutter_text, rfl, _, rfl, p, _, dx, _, _, rfl, hp, T.cl_Cutter, T.na_Cutter_place, rfl, _, _, rfl, rfl, _, rfl, _, rfl, p, _, dx, _, _, rfl, hp, T.cl_Cutter, T.na_Cutter_place, rfl, _, _, rfl, rfl, _, rfl, _, rfl, len_le hlen, ?_⟩
    have e3 : cutS (S l) (some (((i : Nat) : Int) + 1)) (some (((i : Nat) : Int) + 2)) = S (x.take 1) := by
      have e2 := cut_S l (i + 1) (i + 2)
      have e4 : ((i + 1 : Nat) : Int) = ((i : Nat) : Int) + 1 := by push_cast; rfl
      have e5 : ((i + 2 : Nat) : Int) = ((i : Nat) : Int) + 2 := by push_cast; rfl
      rw [e4, e5] at e2
      rw [e2, drop_next hd, show i + 2 - (i + 1) = 1 by omega]
    rw [e3]
    -- self.text[self.place] != '-'
    refine ⟨_, rfl, p, _, dx, _, _, rfl, hp, T.cl_Cutter, T.na_Cutter_text, rfl, _, rfl, p, _, dx, _, _, rfl, hp, T.cl_Cutter, T.na_Cutter_place, rfl, _, _, c, rfl, rfl, len_le hlen, at_drop hd, rfl, _, rfl, ?_⟩
    by_cases hc : c = 45
    · subst hc
      obtain ⟨⟨d, x', rfl, hdf⟩, hlast⟩ := hok rfl
      rw [sg_is lit_dash]
      refine iteF ⟨_, rfl, rfl, _, rfl, ?_⟩
      have e6 : decide (V.str (S ((d :: x').take 1)) = V.str ("" : Str)) = false := by
        rw [lit_e, dec_S]
        rfl
      rw [e6]
      refine iteF ⟨_, rfl, d, _, rfl, rfl, _, rfl, ?_⟩
      have e7 : (!decide (d ∈ (S figs).cps.toList)) = false := by
        rw [decide_eq_true (show d ∈ (S figs).cps.toList from hdf)]
        rfl
      rw [e7]
      refine iteF ?_
      -- self.signs == []
      refine ⟨_, rfl, p, _, dx, _, _, rfl, hp, T.cl_Cutter, T.na_Cutter_signs, rfl, Nat.zero_le _, fun n0 hn0 => ?_⟩
      have sm : Same H (upd H n0 (.lst [])) := same_new hn0
      refine ⟨_, _, _, rfl, rfl, SqL.of (sm _ _ hL), SqL.of upd_same, _, rfl, ?_⟩
      rcases hlast with rfl | ⟨as', a, t, rfl, ha, hlet⟩
      · exact q _ sm
      · have e8 : ((as' ++ [a]).map V.ref).isEmpty = false := by simp
        rw [e8]
        refine iteF ?_
        have ha2 := ha.same sm
        obtain ⟨dx2, r2, c2, ha3⟩ := ha2
        refine ⟨_, rfl, p, _, dx, _, _, rfl, sm _ _ hp, T.cl_Cutter, T.na_Cutter_signs, rfl, 1, rfl, _, _, _, .ref a, rfl, rfl, SqL.of (sm _ _ hL), by rw [List.map_append]; exact atI_last _ _, ?_⟩
        cases t with
        | mk c' =>
          have hc' : c' ≠ 41 := of_decide_eq_true hlet
          refine ⟨_, rfl, a, _, dx2, _, _, rfl, ha3, T.cl_Sign, T.na_Sign_kind, rfl, rfl, _, rfl, ?_⟩
          rw [show decide (V.str (Tok.mk c').kd = V.str ("mark" : Str)) = true from decide_eq_true rfl]
          refine iteT ⟨_, rfl, a, _, dx2, _, _, rfl, ha3, T.cl_Sign, T.na_Sign_said, rfl, rfl, ?_⟩
          have e9 : decide (V.str (S (Tok.mk c').sd) = V.str (")" : Str)) = false := sg_ne lit_close hc'
          rw [e9]
          exact q _ sm
        | word _ => cases hlet
        | num _ => cases hlet
        | quo _ => cases hlet
    · rw [sg_ne lit_dash hc]
      refine iteT ?_
      have q2 := q H (Same.refl H)
      rw [decide_eq_false hc] at q2
      exact q2
/-! ### numbers, marks -/
def spNumber (K : PySem.W.Frag) : Sp := fun vs H Q _ => ∃ (p dx L : Addr) (l : List Nat) (i : Nat) (r b : Int) (n : Int) (rest : List Nat), vs = [.ref p] ∧ H p = some (.ins (aCut K) dx (cf (S l) (i : Nat) r b L)) ∧ l.length ≤ 10000 ∧ n.natAbs < 10 ^ 18 ∧
  l.drop i = digits n ++ rest ∧ (∀ d z, rest = d :: z → d ∉ figs) ∧ Q (.str (S (digits n))) (upd H p (.ins (aCut K) dx (cf (S l) ((i + (digits n).length : Nat) : Int) r b L)))
theorem ok_number (T : Tx K mg) : Met P w K mg base 2 (aCut K) "take_number" (spNumber K) [] := by
  refine met_ok T.df_Cutter_take_number T.cl_Cutter T.me_Cutter_take_number (fun _ _ _ _ _ _ us hl => match us, hl with | [_], _ => rfl) sc_Cutter_take_number (fun vs H Q E h => ?_) (fun f cdv A outer s H vs Q E hr h => ?_)
  · obtain ⟨p, dx, L, l, i, r, b, n, rest, rfl, _⟩ := h
    rfl
  · obtain ⟨p, dx, L, l, i, r, b, n, rest, rfl, hp, hlen, hn, hd, hrest, q⟩ := h
    have nd := sc_Cutter_take_number.nd
    refine ⟨_, pss_cons (ps_set (i := 1) nd rfl (.inl rfl) (pe_mt (ok_run T) hr (by decide) (pv 0) (pa_cons (pe_gc (by rfl) (gstr T.st_FIGURES)) pa_nil)))
      (pss_cons (ps_if (pt_cmpR op_gt (pe_callB call_len_str (by rfl) T.fr_len PySem.boot_len (pa_cons (pe_bm PySem.F.plainAttrs_str PySem.F.slot_str_lstrip PySem.F.type_str_lstrip mt_lstripChars (pv 1) (pa_cons pe_str pa_nil)) pa_nil)) (pe_gc (by rfl) (gint T.in_MOST_FIGURES)) (nomark _)) pss_never pss_nil)
      (pss_one (ps_ret (pv 1)))), ?_⟩
    obtain ⟨c, x, e, hx, _, hfew⟩ := digits_cons hn
    rw [e, List.cons_append] at hd
    refine ⟨_, rfl, p, dx, _, rfl, hp, rfl, p, dx, L, l, figs, i, r, b, c, x, rest, rfl, hp, hlen, hd, hx, hrest, ?_⟩
    refine ⟨_, rfl, rfl, _, _, rfl, rfl, ?_, _, rfl, ?_, _, _, rfl, rfl, _, rfl, ?_⟩
    · rw [S_len, ← e]
      exact Nat.le_trans (digits_len hn) (by decide)
    · rw [lit_dash, lstrip_len, ← e]
      exact Nat.le_trans hfew (by decide)
    · have e2 : ¬ ((18 : Int) < ((Txt.lstripChars (S (c :: x)) ("-" : Str)).length : Nat)) := by
        rw [lit_dash, lstrip_len, ← e]
        omega
      rw [decide_eq_false e2]
      refine iteF ⟨_, rfl, ?_⟩
      have e3 : (digits n).length = x.length + 1 := by rw [e]; rfl
      rw [e3, e] at q
      exact q
def spMark (K : PySem.W.Frag) : Sp := fun vs H Q _ => ∃ (p dx L : Addr) (l : List Nat) (i : Nat) (r b : Int) (c : Nat) (rest : List Nat), vs = [.ref p] ∧ H p = some (.ins (aCut K) dx (cf (S l) (i : Nat) r b L)) ∧ l.length ≤ 10000 ∧ (c = 40 ∨ c = 41 ∨ c = 44 ∨ c = 46) ∧
  l.drop i = c :: rest ∧ ∀ H', Mod [p] H H' → H' p = some (.ins (aCut K) dx (cf (S l) ((i + 1 : Nat) : Int) r b L)) → Q (.str (S [c])) H'
theorem ok_mark (T : Tx K mg) : Met P w K mg base 1 (aCut K) "mark" (spMark K) [] := by
  refine met_ok T.df_Cutter_mark T.cl_Cutter T.me_Cutter_mark (fun _ _ _ _ _ _ us hl => match us, hl with | [_], _ => rfl) sc_Cutter_mark (fun vs H Q E h => ?_) (fun f cdv A outer s H vs Q E hr h => ?_)
  · obtain ⟨p, dx, L, l, i, r, b, c, rest, rfl, _⟩ := h
    rfl
  · obtain ⟨p, dx, L, l, i, r, b, c, rest, rfl, hp, hlen, hc, hd, q⟩ := h
    have nd := sc_Cutter_mark.nd
    refine ⟨_, pss_cons (ps_for PassesOwn.never rfl (pi_tup (pe_tup (pa_cons (pe_slice sl_str (pe_fld (pv 0) rfl) (po_some (pe_fld (pv 0) rfl)) (po_some (pe_op op_add (pe_fld (pv 0) rfl) pe_int))) (pa_cons (pe_ix ix_str (pe_fld (pv 0) rfl) (pe_fld (pv 0) rfl) (fun _ _ => rfl)) pa_nil))))
        (pg_name (i := 1) nd rfl (.inl rfl))
        (pss_one (ps_if (pt_cmpR op_in_seq (pv 1) (pe_glob (v := .ref (He.ga K "MARKS")) rfl T.mg_MARKS rfl) rfl) (pss_cons (ps_fldaug (pv 0) (pe_callB call_len_str (by rfl) T.fr_len PySem.boot_len (pa_cons (pv 1) pa_nil)) in_add) (pss_one (ps_ret (pv 1)))) pss_nil)))
      pss_never, ?_⟩
    have hi := drop_lt hd
    refine ⟨_, rfl, p, _, dx, _, _, rfl, hp, T.cl_Cutter, T.na_Cutter_text, rfl, _, rfl, p, _, dx, _, _, rfl, hp, T.cl_Cutter, T.na_Cutter_place, rfl, _, rfl, _, rfl, p, _, dx, _, _, rfl, hp, T.cl_Cutter, T.na_Cutter_place, rfl, _, _, rfl, rfl, _, rfl, _, rfl, len_le hlen, ?_⟩
    refine ⟨_, rfl, p, _, dx, _, _, rfl, hp, T.cl_Cutter, T.na_Cutter_text, rfl, _, rfl, p, _, dx, _, _, rfl, hp, T.cl_Cutter, T.na_Cutter_place, rfl, _, _, c, rfl, rfl, len_le hlen, at_drop hd, (by show 2 ≤ sizeLine; decide), fun t0 ht0 => ?_⟩
    have e3 : cutS (S l) (some ((i : Nat) : Int)) (some (((i : Nat) : Int) + 2)) = S (c :: rest.take 1) := by
      have e2 := cut_S l i (i + 2)
      have e5 : ((i + 2 : Nat) : Int) = ((i : Nat) : Int) + 2 := by push_cast; rfl
      rw [e5] at e2
      rw [e2, hd, show i + 2 - i = 1 + 1 by omega, List.take_succ_cons]
    rw [e3]
    have sm : Same H (upd H t0 (.tup [.str (S (c :: rest.take 1)), .str (S [c])])) := same_new ht0
    have nin : ∀ d, (c :: [d]) ∉ marksL := fun d hm => by
      simp [marksL] at hm
      omega
    have yin : [c] ∈ marksL := by
      simp only [marksL, List.mem_cons, List.not_mem_nil, or_false, List.cons.injEq, and_true]
      omega
    -- a mark is taken
    have take : ∀ v : Option V, (tSeq (sFldAug K (tVar 0) (tCB (fun xs H Q => ∃ z, xs = [V.str z] ∧ z.length ≤ sizeLine ∧ Q (.int z.length) H) (tCons (tVar 1) tNil)) rAdd "place") (tRet (tVar 1))) { nx := fun _ _ => False, rt := Q } [some (.ref p), some (.str (S [c]))] (upd H t0 (.tup [.str (S (c :: rest.take 1)), .str (S [c])])) := fun _ => by
      refine ⟨_, rfl, p, _, dx, _, _, rfl, sm _ _ hp, T.cl_Cutter, T.na_Cutter_place, rfl, _, rfl, _, rfl, (by show 1 ≤ sizeLine; decide), _, _, rfl, rfl, dx, _, sm _ _ hp, (by show 5 < 1000; decide), _, rfl, ?_⟩
      refine q _ (fun b' o e n => ?_) ?_
      · rw [upd_ne (by simpa using n)]
        exact sm _ _ e
      · rw [upd_same]
        rfl
    refine ⟨t0, rfl, ⟨_, SqT.of upd_same⟩, for_tup (K := K) (a := t0) (xs := [.str (S (c :: rest.take 1)), .str (S [c])]) (fun i' σ H' => i' ≤ 1 ∧ (i' = 1 → c :: rest.take 1 ≠ [c]) ∧ (∃ v, σ = [some (.ref p), v]) ∧ H' = upd H t0 (.tup [.str (S (c :: rest.take 1)), .str (S [c])]))
      ⟨by omega, fun z => absurd z (by decide), ⟨none, rfl⟩, rfl⟩ (fun i' σ H' _ h => by rw [h.2.2.2]; exact SqT.of upd_same) ?_ (fun σ H' h => absurd h.1 (by show ¬ 2 ≤ 1; decide))⟩
    rintro i' y σ H' hy ⟨hi1, hi2, ⟨v, rfl⟩, rfl⟩
    have main : ∀ z : List Nat, y = V.str (S z) → (z ∈ marksL → z = [c]) → (z ∉ marksL → i' + 1 ≤ 1 ∧ (i' + 1 = 1 → c :: rest.take 1 ≠ [c])) → gName 1 y [some (.ref p), v] (upd H t0 (.tup [.str (S (c :: rest.take 1)), .str (S [c])])) fun σ2 H2 =>
        (tIfS (tTest (tOp (rIn K false) (tVar 1) (tC (.ref (He.ga K "MARKS"))))) (tSeq (sFldAug K (tVar 0) (tCB (fun xs H Q => ∃ z, xs = [V.str z] ∧ z.length ≤ sizeLine ∧ Q (.int z.length) H) (tCons (tVar 1) tNil)) rAdd "place") (tRet (tVar 1))) tNext)
          { nx := fun σ H' => i' + 1 ≤ 1 ∧ (i' + 1 = 1 → c :: rest.take 1 ≠ [c]) ∧ (∃ v, σ = [some (.ref p), v]) ∧ H' = upd H t0 (.tup [.str (S (c :: rest.take 1)), .str (S [c])]), rt := Q, ct := fun σ H' => i' + 1 ≤ 1 ∧ (i' + 1 = 1 → c :: rest.take 1 ≠ [c]) ∧ (∃ v, σ = [some (.ref p), v]) ∧ H' = upd H t0 (.tup [.str (S (c :: rest.take 1)), .str (S [c])]), bk := fun _ _ => False } σ2 H2 := fun z ey h1 h2 => by
      subst ey
      refine ⟨_, rfl, _, _, rfl, .inr (T.tu_MARKS _), rfl, (by rw [marks_eq]; exact flat_S _), _, rfl, ?_⟩
      rw [marks_eq, if_neg Bool.false_ne_true, inV_S]
      refine ite2 (fun e => ?_) (fun e => ?_)
      · have ez := h1 (of_decide_eq_true e)
        subst ez
        exact take none
      · obtain ⟨g1, g2⟩ := h2 fun z => e (decide_eq_true z)
        exact ⟨g1, g2, ⟨_, rfl⟩, rfl⟩
    have hi' : i' = 0 ∨ i' = 1 := by omega
    rcases hi' with rfl | rfl
    · have ey : y = V.str (S (c :: rest.take 1)) := (Option.some.inj hy).symm
      refine main (c :: rest.take 1) ey (fun hm => ?_) (fun hm => ⟨by decide, fun _ z => hm (by rw [z]; exact yin)⟩)
      cases rest with
      | nil => rfl
      | cons d r' => exact absurd hm (nin d)
    · have ey : y = V.str (S [c]) := (Option.some.inj hy).symm
      exact main [c] ey (fun _ => rfl) (fun hm => absurd yin hm)
end
end K46
set_option Elab.async false
set_option linter.all false
set_option maxRecDepth 100000
set_option maxHeartbeats 4000000
/-! cut_one, cut. -/
namespace K46
open PySem PySem.Spec PyProof.Rows L2 SX
open C8 (Cal Met Mak pe_c pe_mt pe_mt0 pe_mk fn0 pe_gc pss_cut)
section
variable {P : Program} {w : World} {K : PySem.W.Frag} {mg : Str → Option Value} {base : Heap}
def spCutOne (K : PySem.W.Frag) : Sp := fun vs H Q _ => ∃ (p dx L : Addr) (l : List Nat) (i : Nat) (r b : Int) (t : Tok) (rest : List Nat) (as : List Addr), vs = [.ref p] ∧ H p = some (.ins (aCut K) dx (cf (S l) (i : Nat) r b L)) ∧ l.length ≤ 10000 ∧
  H L = some (.lst (as.map V.ref)) ∧ as.length ≤ 1000 ∧ l.drop i = t.tx ++ rest ∧ Fits t rest ∧ t.sd.length ≤ 1000 ∧ (t.neg = true → as = [] ∨ ∃ as' a t', as = as' ++ [a] ∧ SgnAt K H a t' ∧ t'.lets = true) ∧
  ∀ (H' : Hp) (a : Addr), Mod [p, L] H H' → H' p = some (.ins (aCut K) dx (cf (S l) ((i + t.tx.length : Nat) : Int) r b L)) → H' L = some (.lst ((as ++ [a]).map V.ref)) → SgnAt K H' a t → Q .non H'
theorem ok_cut_one (T : Tx K mg) : Met P w K mg base 3 (aCut K) "cut_one" (spCutOne K) [] := by
  refine met_ok T.df_Cutter_cut_one T.cl_Cutter T.me_Cutter_cut_one (fun _ _ _ _ _ _ us hl => match us, hl with | [_], _ => rfl) sc_Cutter_cut_one (fun vs H Q E h => ?_) (fun f cdv A outer s H vs Q E hr h => ?_)
  · obtain ⟨p, dx, L, l, i, r, b, t, rest, as, rfl, _⟩ := h
    rfl
  · obtain ⟨p, dx, L, l, i, r, b, t, rest, as, rfl, hp, hlen, hL, has, hd, hf, hsd, hneg, q⟩ := h
    have nd := sc_Cutter_cut_one.nd
    refine ⟨_, pss_cons (ps_par (i := 1) (j := 2) (by rfl) nd rfl rfl (by decide) rfl rfl (pa_cons (pe_op op_add (pe_op op_sub (pe_fld (pv 0) rfl) (pe_fld (pv 0) rfl)) pe_int) (pa_cons (pe_ix ix_str (pe_fld (pv 0) rfl) (pe_fld (pv 0) rfl) (fun _ _ => rfl)) pa_nil)) (by rfl))
      (pss_cut (ps_if (pt_cmpR op_in_sign (pv 2) (pe_gc (by rfl) (gstr T.st_SMALL)) rfl)
        (pss_one (ps_par (i := 3) (j := 4) (by rfl) nd rfl rfl (by decide) rfl rfl (pa_cons pe_str (pa_cons (pe_mt (ok_run T) hr (by decide) (pv 0) (pa_cons (pe_gc (by rfl) (gstr T.st_INNER)) pa_nil)) pa_nil)) (by rfl)))
        (pss_one (ps_if (PW.pt (pw_or (pt_cmpR op_in_sign (pv 2) (pe_gc (by rfl) (gstr T.st_GREAT)) rfl) (pw_or1 (pt_cmpR op_eq (pv 2) pe_str (nomark _))))) pss_never
        (pss_one (ps_if (PW.pt (pw_or (pt_cmpR op_in_sign (pv 2) (pe_gc (by rfl) (gstr T.st_FIGURES)) rfl) (pw_or1 (pt_val (pe_mt0 (ok_signed T) hr (by decide) (pv 0))))))
          (pss_one (ps_par (i := 3) (j := 4) (by rfl) nd rfl rfl (by decide) rfl rfl (pa_cons pe_str (pa_cons (pe_mt0 (ok_number T) hr (by decide) (pv 0)) pa_nil)) (by rfl)))
        (pss_one (ps_if (pt_cmpR op_eq (pv 2) pe_str (nomark _))
          (pss_one (ps_par (i := 3) (j := 4) (by rfl) nd rfl rfl (by decide) rfl rfl (pa_cons pe_str (pa_cons (pe_mt0 (ok_quoted T) hr (by decide) (pv 0)) pa_nil)) (by rfl)))
          (pss_one (ps_par (i := 3) (j := 4) (by rfl) nd rfl rfl (by decide) rfl rfl (pa_cons pe_str (pa_cons (pe_mt0 (ok_mark T) hr (by decide) (pv 0)) pa_nil)) (by rfl))))))))))
      (pss_one (ps_expr (pe_bm PySem.F.plainAttrs_list PySem.F.slot_list_append PySem.F.type_list_append mt_append (pe_fld (pv 0) rfl)
        (pa_cons (pe_mk (ok_Sign_init T) hr (by decide) (by rfl) (pa_cons (pv 3) (pa_cons (pv 4) (pa_cons (pe_fld (pv 0) rfl) (pa_cons (pv 1) pa_nil))))) pa_nil))))), ?_⟩
    obtain ⟨c, x, etx, hc10, hc35, hc32, hc9⟩ := hf.head
    have hdc : l.drop i = c :: (x ++ rest) := by rw [hd, etx]; rfl
    -- column, first
    refine ⟨_, rfl, p, _, dx, _, _, rfl, hp, T.cl_Cutter, T.na_Cutter_place, rfl, _, rfl, p, _, dx, _, _, rfl, hp, T.cl_Cutter, T.na_Cutter_begun, rfl, _, _, rfl, rfl, _, _, rfl, rfl, ?_⟩
    refine ⟨_, rfl, p, _, dx, _, _, rfl, hp, T.cl_Cutter, T.na_Cutter_text, rfl, _, rfl, p, _, dx, _, _, rfl, hp, T.cl_Cutter, T.na_Cutter_place, rfl, _, _, c, rfl, rfl, len_le hlen, at_drop hdc, _, _, rfl, ?_⟩
    refine ⟨fun σ' H' => ∃ (col : Int) (v2 : V), σ' = [some (.ref p), some (.int col), some v2, some (.str t.kd), some (.str (S t.sd))] ∧ Mod [p] H H' ∧ H' p = some (.ins (aCut K) dx (cf (S l) ((i + t.tx.length : Nat) : Int) r b L)), ?_, ?_⟩
    · refine ⟨_, rfl, c, _, rfl, rfl, _, rfl, ?_⟩
      cases t with
      | word wd =>
        obtain ⟨⟨c', w', ew, hcs, hw⟩, hr2⟩ := hf
        have ew2 : wd = c :: x := etx
        have e1 : c' = c ∧ w' = x := by
          rw [ew] at ew2
          exact List.cons.inj ew2
        obtain ⟨rfl, rfl⟩ := e1
        have e2 : decide (c' ∈ (S smalls).cps.toList) = true := decide_eq_true hcs
        rw [e2]
        refine iteT ⟨_, rfl, p, dx, _, rfl, hp, rfl, p, dx, L, l, inner, i, r, b, c', w', rest, rfl, hp, hlen, hdc, hw, hr2, _, _, rfl, ?_⟩
        have hl : (Tok.word wd).tx.length = w'.length + 1 := by rw [etx]; rfl
        refine ⟨((i : Nat) : Int) - b + 1, .str (S [c']), ?_, Mod.upd (by simp), ?_⟩
        · rw [ew]
          rfl
        · rw [hl]
          exact upd_same
      | num n =>
        obtain ⟨c', x', ed, hx', hcc, _⟩ := digits_cons hf.1
        have e1 : c' = c ∧ x' = x := List.cons.inj (ed.symm.trans etx)
        obtain ⟨rfl, rfl⟩ := e1
        have hcr : c' = 45 ∨ (48 ≤ c' ∧ c' ≤ 57) := by
          rcases hcc with ⟨_, h, _⟩ | ⟨_, h⟩
          · exact .inl h
          · exact .inr (figs_iff.mp h)
        have e2 : decide (c' ∈ (S smalls).cps.toList) = false := decide_eq_false fun z => by
          have := smalls_iff.mp z
          omega
        have e3 : decide (c' ∈ (S greats).cps.toList) = false := decide_eq_false fun z => by
          have := greats_iff.mp z
          omega
        rw [e2]
        refine iteF ⟨_, rfl, c', _, rfl, rfl, _, rfl, ?_⟩
        rw [e3]
        refine iteF ⟨_, rfl, rfl, _, rfl, ?_⟩
        rw [sg_ne lit_low (by omega)]
        refine iteF ⟨_, rfl, c', _, rfl, rfl, _, rfl, ?_⟩
        have fin : ∀ H', Same H H' → (tPar 3 4 (tCons (tC (.str "number")) (tCons (tMeth (aCut K) "take_number" (spNumber K) [] C8.E0 (tVar 0) tNil) tNil))) { nx := fun σ' H' => ∃ (col : Int) (v2 : V), σ' = [some (.ref p), some (.int col), some v2, some (.str (Tok.num n).kd), some (.str (S (Tok.num n).sd))] ∧ Mod [p] H H' ∧ H' p = some (.ins (aCut K) dx (cf (S l) ((i + (Tok.num n).tx.length : Nat) : Int) r b L)), rt := Q }
            [some (.ref p), some (.int (((i : Nat) : Int) - b + 1)), some (.str (S [c'])), none, none] H' := fun H' sm => by
          refine ⟨_, rfl, p, dx, _, rfl, sm _ _ hp, rfl, p, dx, L, l, i, r, b, n, rest, rfl, sm _ _ hp, hlen, hf.1, hd, hf.2, _, _, rfl, ?_⟩
          exact ⟨_, _, rfl, (Mod.of_same sm).trans (Mod.upd (by simp)), upd_same⟩
        refine ite2 (fun _ => ?_) (fun e4 => ?_)
        · exact fin H (Same.refl H)
        · have hc45 : c' = 45 := by
            rcases hcr with h | h
            · exact h
            · exact absurd (decide_eq_true (show c' ∈ (S figs).cps.toList from figs_iff.mpr h)) e4
          have hn0 : n < 0 := by
            rcases hcc with ⟨h, _⟩ | ⟨_, h⟩
            · exact h
            · have := figs_iff.mp h
              omega
          have hx0 : x' ≠ [] := by
            rcases hcc with ⟨_, _, h⟩ | ⟨_, h⟩
            · exact h
            · have := figs_iff.mp h
              omega
          refine ⟨_, rfl, p, dx, _, rfl, hp, rfl, p, dx, L, l, i, r, b, c', x' ++ rest, as, rfl, hp, hlen, hL, hdc, fun _ => ⟨?_, hneg (decide_eq_true hn0)⟩, fun H' sm => ⟨_, rfl, ?_⟩⟩
          · obtain ⟨d, x2, e5⟩ := List.exists_cons_of_ne_nil hx0
            exact ⟨d, x2 ++ rest, by rw [e5]; rfl, hx' d (by rw [e5]; exact List.mem_cons_self ..)⟩
          · rw [decide_eq_true hc45]
            exact iteT (fin H' sm)
      | quo wd =>
        have e1 : (39 : Nat) = c ∧ enc wd ++ [39] = x := List.cons.inj etx
        obtain ⟨rfl, rfl⟩ := e1
        refine iteF ⟨_, rfl, 39, _, rfl, rfl, _, rfl, iteF ⟨_, rfl, rfl, _, rfl, ?_⟩⟩
        rw [sg_ne lit_low (by decide)]
        refine iteF ⟨_, rfl, 39, _, rfl, rfl, _, rfl, iteF ?_⟩
        refine ⟨_, rfl, p, dx, _, rfl, hp, rfl, p, dx, L, l, i, r, b, 39, (enc wd ++ [39]) ++ rest, as, rfl, hp, hlen, hL, hdc, fun z => absurd z (by decide), fun H' sm => ⟨_, rfl, ?_⟩⟩
        refine iteF ⟨_, rfl, rfl, _, rfl, ?_⟩
        rw [sg_is lit_q]
        have hd2 : l.drop i = 39 :: (enc wd ++ 39 :: rest) := by
          rw [hdc, List.append_assoc]
          rfl
        refine iteT ⟨_, rfl, p, dx, _, rfl, sm _ _ hp, rfl, p, dx, L, l, i, r, b, wd, rest, rfl, sm _ _ hp, hlen, hsd, hd2, _, _, rfl, ?_⟩
        have hl : (Tok.quo wd).tx.length = (enc wd).length + 2 := by
          rw [etx, List.length_cons, List.length_append, List.length_singleton]
        refine ⟨_, _, rfl, (Mod.of_same sm).trans (Mod.upd (by simp)), ?_⟩
        rw [hl]
        exact upd_same
      | mk c0 =>
        have e1 : c0 = c ∧ [] = x := List.cons.inj etx
        obtain ⟨rfl, rfl⟩ := e1
        have hm : c0 = 40 ∨ c0 = 41 ∨ c0 = 44 ∨ c0 = 46 := hf
        have e2 : decide (c0 ∈ (S smalls).cps.toList) = false := decide_eq_false fun z => by
          have := smalls_iff.mp z
          omega
        have e3 : decide (c0 ∈ (S greats).cps.toList) = false := decide_eq_false fun z => by
          have := greats_iff.mp z
          omega
        have e4 : decide (c0 ∈ (S figs).cps.toList) = false := decide_eq_false fun z => by
          have := figs_iff.mp z
          omega
        rw [e2]
        refine iteF ⟨_, rfl, c0, _, rfl, rfl, _, rfl, ?_⟩
        rw [e3]
        refine iteF ⟨_, rfl, rfl, _, rfl, ?_⟩
        rw [sg_ne lit_low (by omega)]
        refine iteF ⟨_, rfl, c0, _, rfl, rfl, _, rfl, ?_⟩
        rw [e4]
        refine iteF ?_
        refine ⟨_, rfl, p, dx, _, rfl, hp, rfl, p, dx, L, l, i, r, b, c0, [] ++ rest, as, rfl, hp, hlen, hL, hdc, fun z => absurd z (by omega), fun H' sm => ⟨_, rfl, ?_⟩⟩
        rw [decide_eq_false (show ¬ c0 = 45 by omega)]
        refine iteF ⟨_, rfl, rfl, _, rfl, ?_⟩
        rw [sg_ne lit_q (by omega)]
        refine iteF ⟨_, rfl, p, dx, _, rfl, sm _ _ hp, rfl, p, dx, L, l, i, r, b, c0, rest, rfl, sm _ _ hp, hlen, hm, hdc, fun H'' md hp2 => ⟨_, _, rfl, ?_⟩⟩
        exact ⟨_, _, rfl, (Mod.of_same sm).trans md, hp2⟩
    · rintro σ' H' ⟨col, v2, rfl, md, hp2⟩
      have npL : p ≠ L := ne_of hp hL (by intro z; cases z)
      have hL2 : H' L = some (.lst (as.map V.ref)) := md _ _ hL (by simp [npL.symm])
      -- self.signs.append(Sign(kind, said, self.row, column))
      refine ⟨_, rfl, p, _, dx, _, _, rfl, hp2, T.cl_Cutter, T.na_Cutter_signs, rfl, .inl ⟨rfl, _, SqL.of hL2⟩, ?_⟩
      refine ⟨_, rfl, _, rfl, _, rfl, p, _, dx, _, _, rfl, hp2, T.cl_Cutter, T.na_Cutter_row, rfl, _, rfl, fun a da na nda nad => ?_⟩
      refine ⟨a, da, t.kd, S t.sd, r, col, rfl, upd_same, rfl, ?_⟩
      rw [upd_upd]
      have sm : Same H' (upd (upd H' da (.own a)) a (.ins (aSign K) da (sf t.kd (S t.sd) r col))) := same_made na nda
      have haL : a ≠ L := (ne_of_none hL2 na).symm
      refine ⟨L, _, _, rfl, rfl, sm _ _ hL2, ?_, ?_⟩
      · rw [List.length_map]
        exact small1000 has
      · refine q _ a (fun b' o e n => ?_) ?_ ?_ ?_
        · have nb : b' ∉ [p] := fun z => n (by
            rw [List.mem_singleton] at z
            rw [z]
            exact List.mem_cons_self ..)
          have nL : b' ≠ L := fun z => n (by rw [z]; simp)
          rw [upd_ne nL]
          exact sm _ _ (md _ _ e nb)
        · rw [upd_ne npL]
          exact sm _ _ hp2
        · rw [upd_same, List.map_append]
          rfl
        · refine ⟨da, r, col, ?_⟩
          rw [upd_ne haL]
          exact upd_same
end
end K46
set_option Elab.async false
set_option linter.all false
set_option maxRecDepth 100000
set_option maxHeartbeats 4000000
/-! cut. -/
namespace K46
open PySem PySem.Spec PyProof.Rows L2 SX
open C8 (Cal Met Mak pe_c pe_mt pe_mt0 pe_mk fn0 pe_gc pss_cut)
section
variable {P : Program} {w : World} {K : PySem.W.Frag} {mg : Str → Option Value} {base : Heap}
/-- what at_end meets ahead of the tokens -/
theorem Cuts.white {ok : Bool} {l : List Nat} {ts : List Tok} (h : Cuts ok l ts) : (l = [] ∧ ts = []) ∨ ∃ (k : Nat) (t : Tok) (r : List Nat) (ts' : List Tok), l = List.replicate k 32 ++ (t.tx ++ r) ∧ ts = t :: ts' ∧ Fits t r ∧ (t.neg = true → ok = true) ∧ Cuts t.lets r ts' := by
  cases h with
  | nil => exact .inl ⟨rfl, rfl⟩
  | @cons _ k t r ts' h1 h2 h3 => exact .inr ⟨k, t, r, ts', rfl, rfl, h1, h2, h3⟩
def spCut (K : PySem.W.Frag) : Sp := fun vs H Q _ => ∃ (l : List Nat) (ts : List Tok), vs = [.str (S l)] ∧ l.length ≤ 10000 ∧ Cuts true l ts ∧ ts.length ≤ 1000 ∧ (∀ t ∈ ts, t.sd.length ≤ 1000) ∧
  ∀ (H' : Hp) (tp : Addr), Same H H' → SgnsAt K H' tp ts → H tp = none → Q (.ref tp) H'
theorem ok_cut (T : Tx K mg) : Cal P w K mg base 4 "cut" (spCut K) [] := by
  refine cal_ok T.df_cut T.mg_cut (fun _ _ _ _ _ _ us hl => match us, hl with | [_], _ => rfl) sc_cut (fun vs H Q E h => ?_) (fun f cdv A outer s H vs Q E hr h => ?_)
  · obtain ⟨l, ts, rfl, _⟩ := h
    rfl
  · obtain ⟨l, ts, rfl, hlen, hcut, hts, hsd, q⟩ := h
    have nd := sc_cut.nd
    refine ⟨_, pss_cons (ps_set (i := 1) nd rfl (.inl rfl) (pe_mk (ok_Cut_init T) hr (by decide) (by rfl) (pa_cons (pv 0) pa_nil)))
      (pss_cons (ps_while PassesOwn.never (pt_not (pt_val (pe_mt0 (ok_at_end T) hr (by decide) (pv 1)))) (pss_one (ps_expr (pe_mt0 (ok_cut_one T) hr (by decide) (pv 1)))))
      (pss_one (ps_ret (pe_callTy call_tuple_of (by rfl) T.fr_tuple (by decide +kernel) (pa_cons (pe_fld (pv 1) rfl) pa_nil))))), ?_⟩
    -- cutter = Cutter(text)
    refine ⟨_, rfl, fun p dx np ndx npd => ?_⟩
    refine ⟨p, dx, S l, rfl, upd_same, fun L hL => ⟨rfl, ?_⟩⟩
    have hLp : L ≠ p := fun e => by
      rw [e, upd_same] at hL
      cases hL
    have hLd : L ≠ dx := fun e => by
      rw [e, upd_ne (fun z => npd z), upd_same] at hL
      cases hL
    have hL0 : H L = none := by
      rw [upd_ne hLp, upd_ne hLd] at hL
      exact hL
    have sm0 : Same H (upd (upd (upd (upd H dx (.own p)) p (.ins (aCut K) dx [])) L (.lst [])) p (.ins (aCut K) dx (cf (S l) 0 1 0 L))) := fun b o e => by
      rw [upd_ne (ne_of_none e np), upd_ne (ne_of_none e hL0), upd_ne (ne_of_none e np), upd_ne (ne_of_none e ndx)]
      exact e
    refine ⟨fun m σ H' => ∃ (l2 : List Nat) (i : Nat) (ok : Bool) (ts1 ts2 : List Tok) (as : List Addr), m = ts2.length ∧ ts = ts1 ++ ts2 ∧ i ≤ l.length ∧ l.drop i = l2 ∧ Cuts ok l2 ts2 ∧ (ok = true → as = [] ∨ ∃ as' a t', as = as' ++ [a] ∧ SgnAt K H' a t' ∧ t'.lets = true) ∧
      σ = [some (.str (S l)), some (.ref p)] ∧ Same H H' ∧ H' p = some (.ins (aCut K) dx (cf (S l) (i : Nat) 1 0 L)) ∧ H' L = some (.lst (as.map V.ref)) ∧ SgnsL K H' as ts1,
      ⟨ts.length, l, 0, true, [], ts, [], rfl, rfl, Nat.zero_le _, rfl, hcut, fun _ => .inl rfl, rfl, sm0, upd_same, ?_, rfl, fun i a t h _ => by simp at h⟩, ?_⟩
    · rw [upd_ne hLp, upd_same]
      rfl
    rintro m σ H' ⟨l2, i, ok, ts1, ts2, as, rfl, ets, hi, hd, hc, hok, rfl, sm, hp, hL1, hsg⟩
    have hasl : as.length ≤ 1000 := by
      rw [hsg.1]
      rw [ets, List.length_append] at hts
      omega
    rcases hc.white with ⟨e1, e2⟩ | ⟨k, t, r, ts', e1, e2, hf, hneg, hc2⟩
    · -- nothing is left
      subst e1 e2
      refine ⟨_, rfl, p, dx, _, rfl, hp, rfl, p, dx, L, l, i, 0, 1, 0, [], rfl, hp, hlen, hi, by rw [hd]; rfl, (fun c x e => nomatch e), _, rfl, ?_⟩
      refine iteF ?_
      have hpe : upd H' p (.ins (aCut K) dx (cf (S l) ((i + 0 : Nat) : Int) 1 0 L)) = H' := (upd_id hp).symm
      show (tRet (tCB (fun xs H Q => ∃ p ys, xs = [.ref p] ∧ ((SqL K H p ys ∧ ∀ l, H l = none → Q (.ref l) (upd H l (.tup ys))) ∨ (SqT K H p ys ∧ Q (.ref p) H))) (tCons (tFld K (tVar 1) "signs") tNil))) { nx := fun _ H' => Q .non H', rt := Q } _ (upd H' p (.ins (aCut K) dx (cf (S l) ((i + 0 : Nat) : Int) 1 0 L)))
      rw [hpe]
      refine ⟨_, rfl, p, _, dx, _, _, rfl, hp, T.cl_Cutter, T.na_Cutter_signs, rfl, L, _, rfl, .inl ⟨SqL.of hL1, fun tp htp => ?_⟩⟩
      rw [List.append_nil] at ets
      subst ets
      exact q _ tp (sm.trans (same_new htp)) ⟨as, upd_same, hsg.keep fun a t h => h.same (same_new htp)⟩ (sm.free htp)
    · -- one more token
      subst e2
      obtain ⟨c, x, etx, g1, g2, g3, g4⟩ := hf.head
      have hrest : ∀ c' x', t.tx ++ r = c' :: x' → c' ≠ 10 ∧ c' ≠ 35 ∧ c' ≠ 32 ∧ c' ≠ 9 := fun c' x' e => by
        rw [etx, List.cons_append] at e
        rw [← (List.cons.inj e).1]
        exact ⟨g1, g2, g3, g4⟩
      refine ⟨_, rfl, p, dx, _, rfl, hp, rfl, p, dx, L, l, i, k, 1, 0, t.tx ++ r, rfl, hp, hlen, hi, by rw [hd, e1], hrest, _, rfl, ?_⟩
      rw [show (t.tx ++ r).isEmpty = false by rw [etx]; rfl]
      refine iteT ?_
      have hdk : l.drop (i + k) = t.tx ++ r := by
        have := drop_app (a := List.replicate k 32) (hd.trans e1)
        rw [List.length_replicate] at this
        exact this
      have md1 : Mod [p] H' (upd H' p (.ins (aCut K) dx (cf (S l) ((i + k : Nat) : Int) 1 0 L))) := Mod.upd (by simp)
      have sg1 : ∀ a t, SgnAt K H' a t → SgnAt K (upd H' p (.ins (aCut K) dx (cf (S l) ((i + k : Nat) : Int) 1 0 L))) a t := fun a t h => h.mod md1 (by
        rw [List.mem_singleton]
        exact h.ne_cut hp)
      have hLp1 : (upd H' p (.ins (aCut K) dx (cf (S l) ((i + k : Nat) : Int) 1 0 L))) L = some (.lst (as.map V.ref)) := by
        rw [upd_ne hLp]
        exact hL1
      have hp1 : (upd H' p (.ins (aCut K) dx (cf (S l) ((i + k : Nat) : Int) 1 0 L))) p = some (.ins (aCut K) dx (cf (S l) ((i + k : Nat) : Int) 1 0 L)) := upd_same
      have smH1 : Same H (upd H' p (.ins (aCut K) dx (cf (S l) ((i + k : Nat) : Int) 1 0 L))) := fun b o e => md1 _ _ (sm _ _ e) (by
        rw [List.mem_singleton]
        exact ne_of_none e np)
      refine ⟨fun σ' H'' => ∃ (as2 : List Addr), σ' = [some (.str (S l)), some (.ref p)] ∧ Same H H'' ∧ H'' p = some (.ins (aCut K) dx (cf (S l) ((i + k + t.tx.length : Nat) : Int) 1 0 L)) ∧ H'' L = some (.lst (as2.map V.ref)) ∧ SgnsL K H'' as2 (ts1 ++ [t]) ∧ ∃ as' a, as2 = as' ++ [a] ∧ SgnAt K H'' a t, fun σ' H'' hN => ?_, ?_⟩
      · obtain ⟨as2, n1, n2, n3, n4, n5, as', a, n6, n7⟩ := hN
        have hd2 : l.drop (i + k + t.tx.length) = r := drop_app hdk
        refine ⟨ts'.length, by rw [List.length_cons]; omega, r, i + k + t.tx.length, t.lets, ts1 ++ [t], ts', as2, rfl, by rw [ets, List.append_assoc]; rfl, ?_, hd2, hc2, fun hl => .inr ⟨as', a, t, n6, n7, hl⟩, n1, n2, n3, n4, n5⟩
        have := drop_len hdk (by
          rcases Nat.le_total (i + k) l.length with z | z
          · exact z
          · exfalso
            rw [List.drop_eq_nil_of_le z, etx] at hdk
            cases hdk)
        rw [List.length_append] at this
        omega
      · refine ⟨_, rfl, p, dx, _, rfl, hp1, rfl, p, dx, L, l, i + k, 1, 0, t, r, as, rfl, hp1, hlen, hLp1, hasl, hdk, hf, hsd t (by rw [ets]; simp), fun hn => ?_, fun H2 a md2 hp2 hL2 hs2 => ?_⟩
        · rcases hok (hneg hn) with z | ⟨as', a, t', z1, z2, z3⟩
          · exact .inl z
          · exact .inr ⟨as', a, t', z1, sg1 a t' z2, z3⟩
        · refine ⟨as ++ [a], rfl, fun b o e => md2 _ _ (smH1 _ _ e) ?_, hp2, hL2, ?_, as, a, rfl, hs2⟩
          · have b1 : b ≠ p := ne_of_none e np
            have b2 : b ≠ L := ne_of_none e hL0
            simp [b1, b2]
          · refine SgnsL.snoc (hsg.keep fun a t h => ?_) hs2
            have h1 := sg1 a t h
            refine h1.mod md2 ?_
            have b1 := h1.ne_cut hp1
            have b2 := h1.ne_lst hLp1
            simp [b1, b2]
end
end K46
set_option Elab.async false
set_option linter.all false
set_option maxRecDepth 100000
set_option maxHeartbeats 4000000
/-! Terms and values written. -/
namespace K46
open PySem PySem.Spec PyProof.Rows L2 SX
open C8 (Cal Met Mak pe_c pe_mt pe_mt0 pe_mk fn0 pe_gc pss_cut)
section
variable {P : Program} {w : World} {K : PySem.W.Frag} {mg : Str → Option Value} {base : Heap}
/-- a class whose __init__ has defaults -/
theorem mak_dfl {c qual : Str} {st : Stmt} {N ps : List Str} {k : Nat} {sp : Sp} {dvs ds0 : List V} (D : DefOf K (c, some "__init__") "__init__" qual st dvs) (M : Mk K (He.ga K c) (He.ma K (He.ga K c) "__init__")) (hm : mg c = some (.ref (He.ga K c)))
    (b : ∀ fd : FuncData, FunD K "__init__" qual (C8.fnArgs st) (C8.fnBody st) (C8.fnScope st) dvs [] (He.ma K (He.ga K c) "__init__") fd → ∃ ds, Vals ds0 ds ∧ Binds K fd ps ds) (S : FnScope N ps (C8.fnScope st)) (len : ∀ vs H Q E, sp vs H Q E → vs.length = ps.length)
    (hbody : ∀ (f : Addr) (cdv : Value) (A : Around) (outer : List Env) (s : Shared) (H : Hp) (vs : List V) (Q : VK) (E : XK), Room k (A.deeper (envOfC qual (C8.fnScope st) s.heap.objs.size f cdv)) → sp vs H Q E →
      ∃ t, PSs (cxOf C8.CX0 P w K mg base N qual (C8.fnScope st) f cdv A outer s H E).nox (C8.fnBody st) t ∧ t { nx := fun _ H' => Q .non H', rt := Q } (start N vs) H) : Mak P w K mg base (k + 1) c (He.ga K c) sp ds0 := by
  obtain ⟨fd, F⟩ := D
  obtain ⟨ds, hv, hb⟩ := b fd F
  exact ⟨_, fd, ps, ds, M, fn0 (fun_of F) S len (hbody _), hm, hb, hv⟩
/-! ### Term -/
def spTermInit (K : PySem.W.Frag) : Sp := fun vs H Q _ => ∃ (p dx : Addr) (nm : Str) (v : V), vs = [.ref p, .str nm, v] ∧ H p = some (.ins (aTerm K) dx []) ∧ Q .non (upd H p (.ins (aTerm K) dx (tf nm v)))
theorem term_len : ∀ vs H Q E, spTermInit K vs H Q E → vs.length = 3 := fun vs H Q E h => by
  obtain ⟨p, dx, nm, v, rfl, _⟩ := h
  rfl
theorem term_body (T : Tx K mg) (f : Addr) (cdv : Value) (A : Around) (outer : List Env) (s : Shared) (H : Hp) (vs : List V) (Q : VK) (E : XK) (h : spTermInit K vs H Q E) :
    ∃ t, PSs (cxOf C8.CX0 P w K mg base ["self", "name", "value"] "Term.__init__" (C8.fnScope s_Term_init) f cdv A outer s H E).nox (C8.fnBody s_Term_init) t ∧ t { nx := fun _ H' => Q .non H', rt := Q } (start ["self", "name", "value"] vs) H := by
  obtain ⟨p, dx, nm, v, rfl, hp, q⟩ := h
  refine ⟨_, pss_cons (ps_fld (pv 0) (pv 1) rfl) (pss_one (ps_fld (pv 0) (pv 2) rfl)), ?_⟩
  refine ⟨_, rfl, _, rfl, p, _, dx, _, rfl, hp, T.cl_Term, T.na_Term_name, (by show 0 < 1000; decide), ?_⟩
  refine ⟨_, rfl, _, rfl, p, _, dx, _, rfl, upd_same, T.cl_Term, T.na_Term_value, (by show 1 < 1000; decide), ?_⟩
  rw [upd_upd]
  exact q
/-- Term(name, value), Term(name) -/
theorem ok_Term2 (T : Tx K mg) : Mak P w K mg base 1 "Term" (aTerm K) (spTermInit K) [] :=
  mak_dfl T.df_Term_init T.mk_Term T.mg_Term (fun fd F => FunD.binds1 F 3 1 (by decide) rfl fun T' kV doc pm an cdv ct us its h1 h2 => match us, its, h1, h2 with | [_, _, _], [_], _, _ => ⟨_, rfl, rfl⟩) sc_Term_init term_len
    fun f cdv A outer s H vs Q E hr h => term_body T f cdv A outer s H vs Q E h
theorem ok_Term1 (T : Tx K mg) : Mak P w K mg base 1 "Term" (aTerm K) (spTermInit K) [.non] :=
  mak_dfl T.df_Term_init T.mk_Term T.mg_Term (fun fd F => FunD.binds1 F 2 0 (by decide) rfl fun T' kV doc pm an cdv ct us its h1 h2 => match us, its, h1, h2 with | [_, _], [_], _, _ => ⟨_, rfl, rfl⟩) sc_Term_init term_len
    fun f cdv A outer s H vs Q E hr h => term_body T f cdv A outer s H vs Q E h
def spIsVar (K : PySem.W.Frag) : Sp := fun vs H Q _ => ∃ (a dx : Addr) (nm : Str) (v : V), vs = [.ref a] ∧ H a = some (.ins (aTerm K) dx (tf nm v)) ∧ Q (.bl (!decide (nm = ("" : Str)))) H
theorem ok_is_variable (T : Tx K mg) : Met P w K mg base 1 (aTerm K) "is_variable" (spIsVar K) [] := by
  refine met_ok T.df_Term_is_variable T.cl_Term T.me_Term_is_variable (fun _ _ _ _ _ _ us hl => match us, hl with | [_], _ => rfl) sc_Term_is_variable (fun vs H Q E h => ?_) (fun f cdv A outer s H vs Q E hr h => ?_)
  · obtain ⟨a, dx, nm, v, rfl, _⟩ := h
    rfl
  · obtain ⟨a, dx, nm, v, rfl, ha, q⟩ := h
    refine ⟨_, pss_one (ps_ret (pe_cmpR op_ne (pe_fld (pv 0) rfl) pe_str (nomark _))), ?_⟩
    refine ⟨_, rfl, a, _, dx, _, _, rfl, ha, T.cl_Term, T.na_Term_name, rfl, rfl, ?_⟩
    rw [dec_str]
    exact q
def spVar (K : PySem.W.Frag) : Sp := fun vs H Q _ => ∃ (nm : Str), vs = [.str nm] ∧ ∀ (H' : Hp) (q dx : Addr), Same H H' → H q = none → H' q = some (.ins (aTerm K) dx (tf nm .non)) → Q (.ref q) H'
theorem ok_var (T : Tx K mg) : Cal P w K mg base 3 "var" (spVar K) [] := by
  refine cal_ok T.df_var T.mg_var (fun _ _ _ _ _ _ us hl => match us, hl with | [_], _ => rfl) sc_var (fun vs H Q E h => ?_) (fun f cdv A outer s H vs Q E hr h => ?_)
  · obtain ⟨nm, rfl, _⟩ := h
    rfl
  · obtain ⟨nm, rfl, q⟩ := h
    refine ⟨_, pss_one (ps_ret (pe_mk (ok_Term1 T) hr (by decide) (by rfl) (pa_cons (pv 0) pa_nil))), ?_⟩
    refine ⟨_, rfl, fun a da na nda nad => ⟨a, da, nm, .non, rfl, upd_same, rfl, ?_⟩⟩
    rw [upd_upd]
    exact q _ a da (same_made na nda) na upd_same
def spVal (K : PySem.W.Frag) : Sp := fun vs H Q _ => ∃ (v : Vl), vs = [v.v] ∧ ∀ (H' : Hp) (q : Addr), Same H H' → H q = none → TmAt K H' q v → Q (.ref q) H'
theorem ok_val (T : Tx K mg) : Cal P w K mg base 3 "val" (spVal K) [] := by
  refine cal_ok T.df_val T.mg_val (fun _ _ _ _ _ _ us hl => match us, hl with | [_], _ => rfl) sc_val (fun vs H Q E h => ?_) (fun f cdv A outer s H vs Q E hr h => ?_)
  · obtain ⟨v, rfl, _⟩ := h
    rfl
  · obtain ⟨v, rfl, q⟩ := h
    refine ⟨_, pss_one (ps_ret (pe_mk (ok_Term2 T) hr (by decide) (by rfl) (pa_cons pe_str (pa_cons (pv 0) pa_nil)))), ?_⟩
    refine ⟨_, rfl, fun a da na nda nad => ⟨a, da, "", v.v, rfl, upd_same, rfl, ?_⟩⟩
    rw [upd_upd]
    exact q _ a (same_made na nda) na ⟨da, upd_same⟩
/-! ### is_number, is_plain, is_name, marked -/
def Vl.isInt : Vl → Bool
  | .int _ => true
  | .str _ => false
theorem isi_ok {X : Cx} {H : Hp} {Q : VK} {v : Vl} (q : Q (.bl v.isInt) H) : rIsi X.K [v.v, .ty "int"] H Q := by
  cases v with
  | int n => exact ⟨.int n, .ty "int", .type "int", .type "int", true, rfl, .ty _, .base (.int n), kit_ty (by decide +kernel), q⟩
  | str x => exact ⟨.str (S x), .ty "int", .type "str", .type "int", false, rfl, .ty _, .base (.str _), kit_ty (by decide +kernel), q⟩
def spIsNumber : Sp := fun vs H Q _ => ∃ (v : Vl), vs = [v.v] ∧ Q (.bl v.isInt) H
theorem ok_is_number (T : Tx K mg) : Cal P w K mg base 1 "is_number" spIsNumber [] := by
  refine cal_ok T.df_is_number T.mg_is_number (fun _ _ _ _ _ _ us hl => match us, hl with | [_], _ => rfl) sc_is_number (fun vs H Q E h => ?_) (fun f cdv A outer s H vs Q E hr h => ?_)
  · obtain ⟨v, rfl, _⟩ := h
    rfl
  · obtain ⟨v, rfl, q⟩ := h
    refine ⟨_, pss_one (ps_ret (pe_callB call_isi (by rfl) T.fr_isinstance (by decide +kernel) (pa_cons (pv 0) (pa_cons (pe_bltn (v := .ty "int") (by rfl) T.fr_int (by decide +kernel) rfl) pa_nil)))), ?_⟩
    exact ⟨_, rfl, isi_ok (X := cxOf C8.CX0 P w K mg base ["value"] "is_number" (C8.fnScope s_is_number) f cdv A outer s H E) q⟩
def spIsPlain : Sp := fun vs H Q _ => ∃ (x : List Nat), vs = [.str (S x)] ∧ x.length ≤ 1000 ∧ Q (.bl (plainB x)) H
theorem ok_is_plain (T : Tx K mg) : Cal P w K mg base 1 "is_plain" spIsPlain [] := by
  refine cal_ok T.df_is_plain T.mg_is_plain (fun _ _ _ _ _ _ us hl => match us, hl with | [_], _ => rfl) sc_is_plain (fun vs H Q E h => ?_) (fun f cdv A outer s H vs Q E hr h => ?_)
  · obtain ⟨x, rfl, _⟩ := h
    rfl
  · obtain ⟨x, rfl, hlen, q⟩ := h
    refine ⟨_, pss_one (ps_ret (pe_and (pe_cmpR op_ne (pv 0) pe_str (nomark _)) (pe_and (pe_cmpR op_in_sign (pe_ix ix_str (pv 0) pe_int (fun _ _ => rfl)) (pe_gc (by rfl) (gstr T.st_SMALL)) rfl)
      (pe_one (pe_cmpR op_eq (pe_bm PySem.F.plainAttrs_str PySem.F.slot_str_strip PySem.F.type_str_strip mt_stripChars (pv 0) (pa_cons (pe_gc (by rfl) (gstr T.st_INNER)) pa_nil)) pe_str (nomark _)))))), ?_⟩
    refine ⟨_, rfl, rfl, _, rfl, ?_⟩
    rw [lit_e, dec_S]
    cases x with
    | nil => exact iteF q
    | cons c y =>
      rw [decide_eq_false (fun z : c :: y = [] => nomatch z)]
      refine iteT ⟨_, rfl, _, _, c, rfl, rfl, len_le (by omega), at_drop (i := 0) (r := y) rfl, c, _, rfl, rfl, _, rfl, ?_⟩
      show if decide (c ∈ (S smalls).cps.toList) = true then _ else _
      have e : plainB (c :: y) = (decide (c ∈ smalls) && (c :: y).all fun x => decide (x ∈ inner)) := rfl
      rw [e] at q
      refine ite2 (fun e1 => ?_) (fun e1 => ?_)
      · have e2 : decide (c ∈ smalls) = true := e1
        rw [e2, Bool.true_and] at q
        refine ⟨_, rfl, rfl, _, _, rfl, rfl, len_le (by omega), rfl, ?_⟩
        rw [dec_str, strip_empty]
        exact q
      · have e2 : decide (c ∈ smalls) = false := by
          cases z : decide (c ∈ smalls) with
          | false => rfl
          | true => exact absurd z e1
        rw [e2, Bool.false_and] at q
        exact q
def spIsName : Sp := fun vs H Q _ => ∃ (x : List Nat), vs = [.str (S x)] ∧ x.length ≤ 1000 ∧ Q (.bl (!decide (x = [110, 111, 116]) && plainB x)) H
theorem lit_not : ("not" : Str) = S [110, 111, 116] := by decide +kernel
theorem ok_is_name (T : Tx K mg) : Cal P w K mg base 2 "is_name" spIsName [] := by
  refine cal_ok T.df_is_name T.mg_is_name (fun _ _ _ _ _ _ us hl => match us, hl with | [_], _ => rfl) sc_is_name (fun vs H Q E h => ?_) (fun f cdv A outer s H vs Q E hr h => ?_)
  · obtain ⟨x, rfl, _⟩ := h
    rfl
  · obtain ⟨x, rfl, hlen, q⟩ := h
    refine ⟨_, pss_one (ps_ret (pe_and (pe_cmpR op_ne (pv 0) pe_str (nomark _)) (pe_one (pe_c (ok_is_plain T) hr (by decide) (by rfl) (pa_cons (pv 0) pa_nil))))), ?_⟩
    refine ⟨_, rfl, rfl, _, rfl, ?_⟩
    rw [lit_not, dec_S]
    refine ite2 (fun e => ?_) (fun e => ?_)
    · rw [e, Bool.true_and] at q
      exact ⟨_, rfl, x, rfl, hlen, q⟩
    · have e2 : (!decide (x = [110, 111, 116])) = false := by
        cases z : (!decide (x = [110, 111, 116])) with
        | false => rfl
        | true => exact absurd z e
      rw [e2, Bool.false_and] at q
      exact q
def spMarked : Sp := fun vs H Q _ => ∃ (x : List Nat), vs = [.str (S x)] ∧ x.length ≤ 1000 ∧ Q (.str (S (39 :: (enc x ++ [39])))) H
theorem ok_marked (T : Tx K mg) : Cal P w K mg base 1 "marked" spMarked [] := by
  obtain ⟨fd, F⟩ := T.df_marked
  have b : Binds K fd ["said"] [] := FunD.bindsN F fun _ _ _ _ _ _ us hl => match us, hl with | [_], _ => rfl
  have kp := F.kp
  obtain ⟨oc, od, dV, kV, doc, pm, an, cdv, ct, osl, rfl, lk, hcd, _, _⟩ := F.ex
  refine ⟨_, _, ["said"], [], L2.fn_ofT lk hcd sc_marked (by decide +kernel) (by decide) (fun vs H Q E h => ?_) (fun A outer s H vs Q E hr h => ?_), T.mg_marked, kp, b, .nil⟩
  · obtain ⟨x, rfl, _⟩ := h
    rfl
  · obtain ⟨x, rfl, hlen, q⟩ := h
    refine ⟨_, CwR.psst_one (CwR.pst_ret (CwR.pet_op op_add_str (CwR.pet_op op_add_str (CwR.PET.of pe_str) (CwR.pet_replT (CwR.pet_replT (CwR.pet_replC (pv 0) (by decide +kernel)) (by decide +kernel)) (by decide +kernel))) (CwR.PET.of pe_str))), ?_⟩
    have h1 : Txt.replace (S x) ("\\" : Str) ("\\\\" : Str) = S (StrLaws.replL [92] [92, 92] x) := by rw [lit_bs, lit_bs2, replace_S _ _ _ (by decide)]
    have h2 : Txt.replace (S (StrLaws.replL [92] [92, 92] x)) ("'" : Str) ("\\'" : Str) = S (StrLaws.replL [39] [92, 39] (StrLaws.replL [92] [92, 92] x)) := by rw [lit_q, lit_bq, replace_S _ _ _ (by decide)]
    have h3 : Txt.replace (S (StrLaws.replL [39] [92, 39] (StrLaws.replL [92] [92, 92] x))) ("\n" : Str) ("\\n" : Str) = S (enc x) := by rw [lit_nl, lit_bn, replace_S _ _ _ (by decide), enc_repl]
    have l1 : (StrLaws.replL [92] [92, 92] x).length ≤ 2 * x.length := repl1_len 92 [92, 92] (by decide) x
    have l2 : (StrLaws.replL [39] [92, 39] (StrLaws.replL [92] [92, 92] x)).length ≤ 2 * (StrLaws.replL [92] [92, 92] x).length := repl1_len 39 [92, 39] (by decide) (StrLaws.replL [92] [92, 92] x)
    have b2 : ("\\\\" : Str).length = 2 := by rw [lit_bs2, S_len]; rfl
    have b3 : ("\\'" : Str).length = 2 := by rw [lit_bq, S_len]; rfl
    have b4 : ("\\n" : Str).length = 2 := by rw [lit_bn, S_len]; rfl
    have le := enc_len x
    refine ⟨_, rfl, S x, rfl, ?_, _, rfl, ?_, _, rfl, ?_, _, _, rfl, rfl, ?_, _, _, rfl, rfl, ?_, ?_⟩
    · rw [S_len, b2]
      omega
    · rw [h1, S_len, b3]
      omega
    · rw [h1, h2, S_len, b4]
      omega
    · rw [h1, h2, h3, lit_q, S_len, S_len]
      exact Nat.le_trans (show 1 + (enc x).length ≤ 10000 by omega) (by decide)
    · rw [h1, h2, h3, lit_q, S_cat, S_len, S_len]
      exact Nat.le_trans (show ([39] ++ enc x).length + 1 ≤ 10000 by rw [List.length_append, List.length_singleton]; omega) (by decide)
    · rw [h1, h2, h3, lit_q, S_cat, S_cat]
      exact q
end
end K46
set_option Elab.async false
set_option linter.all false
set_option maxRecDepth 100000
set_option maxHeartbeats 4000000
/-! Values, terms, atoms, facts written. -/
namespace K46
open PySem PySem.Spec PyProof.Rows L2 SX
open C8 (Cal Met Mak pe_c pe_mt pe_mt0 pe_mk fn0 pe_gc pss_cut)
section
variable {P : Program} {w : World} {K : PySem.W.Frag} {mg : Str → Option Value} {base : Heap}
theorem kws_eq : ([.str "not", .str "count", .str "sum", .str "least", .str "most"] : List V) = kws.map fun l => V.str (S l) := by decide +kernel
theorem log2_ok {n : Nat} (h : n < 10 ^ 18) : n.log2 < 1920 := by
  by_cases h0 : n = 0
  · subst h0
    decide
  · have h2 : n < 2 ^ 60 := Nat.lt_of_lt_of_le h (by decide)
    have := (Nat.log2_lt h0).mpr h2
    omega
def spToldValue : Sp := fun vs H Q _ => ∃ (v : Vl), vs = [v.v] ∧ v.Ok ∧ ∀ H', Same H H' → Q (.str (S v.told)) H'
theorem ok_told_value (T : Tx K mg) : Cal P w K mg base 2 "told_value" spToldValue [] := by
  refine cal_ok T.df_told_value T.mg_told_value (fun _ _ _ _ _ _ us hl => match us, hl with | [_], _ => rfl) sc_told_value (fun vs H Q E h => ?_) (fun f cdv A outer s H vs Q E hr h => ?_)
  · obtain ⟨v, rfl, _⟩ := h
    rfl
  · obtain ⟨v, rfl, hv, q⟩ := h
    refine ⟨_, pss_cons (ps_if (pt_val (pe_c (ok_is_number T) hr (by decide) (by rfl) (pa_cons (pv 0) pa_nil))) (pss_one (ps_ret (pe_callTy call_str_int (by rfl) T.fr_str (by decide +kernel) (pa_cons (pv 0) pa_nil)))) pss_nil)
      (pss_cons (ps_if (PW.pt (pw_and (pt_val (pe_c (ok_is_plain T) hr (by decide) (by rfl) (pa_cons (pv 0) pa_nil)))
          (pw_and1 (pt_cmpR op_notIn_seq (pv 0) (pe_tup (pa_cons pe_str (pa_cons pe_str (pa_cons pe_str (pa_cons pe_str (pa_cons pe_str pa_nil)))))) rfl)))) (pss_one (ps_ret (pv 0))) pss_nil)
      (pss_one (ps_ret (pe_c (ok_marked T) hr (by decide) (by rfl) (pa_cons (pv 0) pa_nil))))), ?_⟩
    refine ⟨_, rfl, v, rfl, _, rfl, ?_⟩
    cases v with
    | int n =>
      refine iteT ⟨_, rfl, n, rfl, log2_ok hv, ?_⟩
      have e : (Str.ofString (toString n)) = S (digits n) := str_digits n
      have q2 := q H (Same.refl H)
      show Q (V.str (Str.ofString (toString n))) H
      rw [e]
      exact q2
    | str x =>
      have hx : x.length ≤ 1000 := Nat.le_trans hv.1 (by decide)
      refine iteF ⟨_, rfl, x, rfl, hx, _, rfl, ?_⟩
      have et : (Vl.str x).told = if bareB x = true then x else 39 :: (enc x ++ [39]) := rfl
      have marks : bareB x = false → ∀ H', Same H H' → (tRet (tCall spMarked [] C8.E0 (tCons (tVar 0) tNil))) { nx := fun _ H' => Q .non H', rt := Q } [some (.str (S x))] H' := fun hb H' sm => by
        refine ⟨_, rfl, x, rfl, hx, ?_⟩
        have q2 := q H' sm
        rw [et, hb, if_neg Bool.false_ne_true] at q2
        exact q2
      refine ite2 (fun e1 => ?_) (fun e1 => ?_)
      · refine ⟨_, rfl, by show 5 ≤ sizeLine; decide, fun t0 ht0 => ?_⟩
        have sm : Same H (upd H t0 (.tup [.str "not", .str "count", .str "sum", .str "least", .str "most"])) := same_new ht0
        refine ⟨t0, _, rfl, .inr (SqT.of upd_same), rfl, by rw [kws_eq]; exact flat_S _, _, rfl, ?_⟩
        rw [if_pos rfl, kws_eq]
        have ei : inV (V.str (S x)) (kws.map fun l => V.str (S l)) = decide (x ∈ kws) := inV_S x kws
        show if (!inV (V.str (S x)) (kws.map fun l => V.str (S l))) = true then _ else _
        rw [ei]
        have eb : bareB x = !decide (x ∈ kws) := by
          unfold bareB
          rw [e1, Bool.true_and]
        refine ite2 (fun e2 => ?_) (fun e2 => ?_)
        · refine ⟨_, rfl, ?_⟩
          have q2 := q _ sm
          rw [et, eb, e2, if_pos rfl] at q2
          rw [← kws_eq]
          exact q2
        · refine marks ?_ _ ?_
          · rw [eb]
            cases z : (!decide (x ∈ kws)) with
            | false => rfl
            | true => exact absurd z e2
          · rw [← kws_eq]
            exact sm
      · refine marks ?_ H (Same.refl H)
        unfold bareB
        cases z : plainB x with
        | false => rfl
        | true => exact absurd z e1
def spIsKept : Sp := fun vs H Q _ => ∃ (c d : Nat) (x : List Nat), vs = [.str (S (c :: d :: x))] ∧ x.length ≤ 1000 ∧ c ≠ 95 ∧ Q (.bl false) H
theorem ok_is_kept (T : Tx K mg) : Cal P w K mg base 1 "is_kept" spIsKept [] := by
  refine cal_ok T.df_is_kept T.mg_is_kept (fun _ _ _ _ _ _ us hl => match us, hl with | [_], _ => rfl) sc_is_kept (fun vs H Q E h => ?_) (fun f cdv A outer s H vs Q E hr h => ?_)
  · obtain ⟨c, d, x, rfl, _⟩ := h
    rfl
  · obtain ⟨c, d, x, rfl, hx, hc, q⟩ := h
    refine ⟨_, pss_one (ps_ret (pe_and (pe_cmpR op_gt (pe_callB call_len_str (by rfl) T.fr_len PySem.boot_len (pa_cons (pv 0) pa_nil)) pe_int (nomark _)) (pe_and (pe_cmpR op_eq (pe_ix ix_str (pv 0) pe_int (fun _ _ => rfl)) pe_str (nomark _))
      (pe_one (pe_cmpR op_eq (pe_bm PySem.F.plainAttrs_str PySem.F.slot_str_strip PySem.F.type_str_strip mt_stripChars (pe_slice sl_str (pv 0) (po_some pe_int) po_none) (pa_cons pe_str pa_nil)) pe_str (nomark _)))))), ?_⟩
    have hl : (c :: d :: x).length ≤ 10000 := by
      rw [List.length_cons, List.length_cons]
      omega
    refine ⟨_, rfl, _, rfl, len_le hl, _, _, rfl, rfl, _, rfl, ?_⟩
    rw [decide_eq_true (show (1 : Int) < ((S (c :: d :: x)).length : Nat) by rw [S_len, List.length_cons, List.length_cons]; omega)]
    refine iteT ⟨_, rfl, _, _, c, rfl, rfl, len_le hl, at_drop (i := 0) (r := d :: x) rfl, rfl, _, rfl, ?_⟩
    rw [sg_ne lit_low hc]
    exact iteF q
/-- a term that is a value, or the variable Xy -/
def spToldTerm (K : PySem.W.Frag) : Sp := fun vs H Q _ => ∃ (a : Addr), vs = [.ref a] ∧ ((∃ v : Vl, TmAt K H a v ∧ v.Ok ∧ ∀ H', Same H H' → Q (.str (S v.told)) H') ∨ (∃ dx : Addr, H a = some (.ins (aTerm K) dx (tf (S [88, 121]) .non)) ∧ Q (.str (S [88, 121])) H))
theorem ok_told_term (T : Tx K mg) : Cal P w K mg base 3 "told_term" (spToldTerm K) [] := by
  refine cal_ok T.df_told_term T.mg_told_term (fun _ _ _ _ _ _ us hl => match us, hl with | [_], _ => rfl) sc_told_term (fun vs H Q E h => ?_) (fun f cdv A outer s H vs Q E hr h => ?_)
  · obtain ⟨a, rfl, _⟩ := h
    rfl
  · obtain ⟨a, rfl, h⟩ := h
    refine ⟨_, pss_cons (ps_if (pt_val (pe_mt0 (ok_is_variable T) hr (by decide) (pv 0))) (pss_one (ps_ret (pe_ifExp (pt_val (pe_c (ok_is_kept T) hr (by decide) (by rfl) (pa_cons (pe_fld (pv 0) rfl) pa_nil))) pe_str (pe_fld (pv 0) rfl)))) pss_nil)
      (pss_one (ps_ret (pe_c (ok_told_value T) hr (by decide) (by rfl) (pa_cons (pe_fld (pv 0) rfl) pa_nil)))), ?_⟩
    rcases h with ⟨v, ⟨dx, ha⟩, hv, q⟩ | ⟨dx, ha, q⟩
    · refine ⟨_, rfl, a, dx, _, rfl, ha, rfl, a, dx, _, _, rfl, ha, _, rfl, ?_⟩
      rw [decide_eq_true rfl]
      refine iteF ⟨_, rfl, a, _, dx, _, _, rfl, ha, T.cl_Term, T.na_Term_value, rfl, v, rfl, hv, q⟩
    · refine ⟨_, rfl, a, dx, _, rfl, ha, rfl, a, dx, _, _, rfl, ha, _, rfl, ?_⟩
      rw [decide_eq_false (show ¬ S [88, 121] = ("" : Str) by decide +kernel)]
      refine iteT ⟨_, rfl, a, _, dx, _, _, rfl, ha, T.cl_Term, T.na_Term_name, rfl, 88, 121, [], rfl, by decide, by decide, _, rfl, ?_⟩
      exact iteF ⟨_, rfl, a, _, dx, _, _, rfl, ha, T.cl_Term, T.na_Term_name, rfl, q⟩
/-! ### atoms -/
theorem told_sum : ∀ {vs : List Vl}, (∀ v ∈ vs, v.Ok) → ((vs.map Vl.told).map (·.length)).sum ≤ 19 * vs.length
  | [], _ => Nat.le_refl _
  | v :: vs, h => by
    have h1 := told_len (h v (List.mem_cons_self ..))
    have h2 := told_sum (vs := vs) fun x hx => h x (List.mem_cons_of_mem _ hx)
    rw [List.map_cons, List.map_cons, List.sum_cons, List.length_cons]
    omega
theorem map_take_snoc {α β : Type} (f : α → β) {vs : List α} {i : Nat} {v : α} (h : vs[i]? = some v) : (vs.take (i + 1)).map f = (vs.take i).map f ++ [f v] := by
  rw [List.take_add_one, h, List.map_append]
  rfl
def spToldAtom (K : PySem.W.Frag) : Sp := fun vs H Q _ => ∃ (nm : List Nat) (lp : Addr) (as : List Addr) (us : List Vl), vs = [.str (S nm), .ref lp] ∧ SqL K H lp (as.map V.ref) ∧ TmsL K H as us ∧ (∀ v ∈ us, v.Ok) ∧ nm.length ≤ 1000 ∧ us.length ≤ 100 ∧
  ∀ H', Same H H' → Q (.str (S (atomL nm us))) H'
theorem ok_told_atom (T : Tx K mg) : Cal P w K mg base 4 "told_atom" (spToldAtom K) [] := by
  refine cal_ok T.df_told_atom T.mg_told_atom (fun _ _ _ _ _ _ us hl => match us, hl with | [_, _], _ => rfl) sc_told_atom (fun vs H Q E h => ?_) (fun f cdv A outer s H vs Q E hr h => ?_)
  · obtain ⟨nm, lp, as, us, rfl, _⟩ := h
    rfl
  · obtain ⟨nm, lp, as, us, rfl, hS, hT, hv, hnm, hus, q⟩ := h
    have nd := sc_told_atom.nd
    refine ⟨_, pss_one (ps_ret (pe_ifExp (pt_cmpR op_eq (pe_callB call_len_seq (by rfl) T.fr_len PySem.boot_len (pa_cons (pv 1) pa_nil)) pe_int (nomark _)) (pv 0)
      (pe_op op_add_str (pe_op op_add_str (pe_op op_add_str (pv 0) pe_str)
        (pe_join pe_str (pe_lc (own := [("term", 2)]) (g := gName 2) (tt := tYes) rfl nd (pi_list (pv 1)) (blkOk_by (own := [("term", 2)]) (N := ["name", "terms", "term"]) (sc := C8.fnScope s_told_atom) (by decide +kernel))
          (fun _ _ _ _ _ => pg_name (i := 2) nd rfl (Or.inl rfl)) (fun _ _ _ _ _ => pts_nil) (fun _ _ _ _ _ => pe_c (ok_told_term T) hr (by decide) (by rfl) (pa_cons (pv 2) pa_nil))))) pe_str))), ?_⟩
    have hlen : (as.map V.ref).length = us.length := by rw [List.length_map, hT.1]
    refine ⟨_, rfl, lp, _, rfl, .inl hS, rfl, _, rfl, ?_⟩
    refine ite2 (fun e => ?_) (fun e => ?_)
    · have e1 := V.int.inj (of_decide_eq_true e)
      have e2 : us = [] := List.length_eq_zero_iff.mp (by omega)
      subst e2
      exact ⟨_, rfl, q H (Same.refl H)⟩
    · have hne : us ≠ [] := fun z => by
        subst z
        refine e (decide_eq_true ?_)
        rw [hlen]
        rfl
      refine ⟨_, rfl, _, _, rfl, rfl, ?_, ⟨_, rfl⟩, _, rfl, lp, rfl, ⟨_, hS⟩, fun D hD => lc_list (K := K) (a := lp) (xs := as.map V.ref) (fun i H' => Same H H' ∧ H' D = some (.lst ((us.take i).map fun v => V.str (S v.told)))) ⟨same_new hD, upd_same⟩ (fun i H' _ h => h.1.seq hS) ?_ ?_⟩
      · rw [lit_open, S_len, S_len]
        exact Nat.le_trans (show nm.length + 1 ≤ 10000 by omega) (by decide)
      · rintro i x H' hi ⟨sm, hD'⟩
        obtain ⟨a, ha, rfl⟩ : ∃ a, as[i]? = some a ∧ x = V.ref a := by
          rw [List.getElem?_map] at hi
          cases z : as[i]? with
          | none =>
            rw [z] at hi
            cases hi
          | some a =>
            rw [z] at hi
            exact ⟨a, rfl, (Option.some.inj hi).symm⟩
        obtain ⟨v, hvi, htm⟩ := hT.at ha
        refine ⟨rfl, _, rfl, a, rfl, .inl ⟨v, htm.same sm, hv v (List.mem_of_getElem? hvi), fun H'' sm2 => ⟨_, sm2 _ _ hD', ?_, ?_, ?_⟩⟩⟩
        · rw [List.length_map, List.length_take]
          exact small1000 (by omega)
        · exact fun b o z => by
            rw [upd_ne (ne_of_none z hD)]
            exact sm2 _ _ (sm _ _ z)
        · rw [upd_same, map_take_snoc _ hvi]
      · rintro H' ⟨sm, hD'⟩
        rw [hlen, List.take_length] at hD'
        have e3 : (us.map fun v => V.str (S v.told)) = ((us.map Vl.told).map S).map V.str := by
          rw [List.map_map, List.map_map]
          rfl
        rw [e3] at hD'
        have hrow := rowL_len hv
        refine ⟨_, D, (us.map Vl.told).map S, rfl, rfl, .inl (SqL.of hD'), ?_, _, _, rfl, rfl, ?_, _, _, rfl, rfl, ?_, ?_⟩
        · rw [lens, List.length_map, List.length_map, lit_sep, S_len]
          have := told_sum hv
          show _ + us.length * 2 ≤ 16777216
          omega
        · rw [lit_open, lit_sep, join_S, S_cat, S_len, S_len, List.length_append]
          show nm.length + 1 + (rowL us).length ≤ sizeLine
          exact Nat.le_trans (show nm.length + 1 + (rowL us).length ≤ 10000 by omega) (by decide)
        · rw [lit_open, lit_sep, lit_close, join_S, S_cat, S_cat, S_len, S_len, List.length_append, List.length_append]
          show nm.length + 1 + (rowL us).length + 1 ≤ sizeLine
          exact Nat.le_trans (show nm.length + 1 + (rowL us).length + 1 ≤ 10000 by omega) (by decide)
        · rw [lit_open, lit_sep, lit_close, join_S, S_cat, S_cat, S_cat]
          have q2 := q H' sm
          unfold atomL at q2
          rw [if_neg hne] at q2
          have e4 : nm ++ [40] ++ TL.joinL [44, 32] (us.map Vl.told) ++ [41] = nm ++ (40 :: (rowL us ++ [41])) := by
            show nm ++ [40] ++ rowL us ++ [41] = _
            rw [List.append_assoc, List.append_assoc]
            rfl
          rw [e4]
          exact q2
def spFactText (K : PySem.W.Frag) : Sp := fun vs H Q _ => ∃ (nm : List Nat) (tp : Addr) (us : List Vl), vs = [.str (S nm), .ref tp] ∧ SqT K H tp (us.map Vl.v) ∧ (∀ v ∈ us, v.Ok) ∧ nm.length ≤ 1000 ∧ us.length ≤ 100 ∧ ∀ H', Same H H' → Q (.str (S (factL nm us))) H'
theorem same_seqT {K : PySem.W.Frag} {H H' : Hp} {a : Addr} {xs : List V} (e : Same H H') (h : SqT K H a xs) : SqT K H' a xs := by
  rcases h with (h | ⟨o, h⟩) | h
  · exact .inl (.inl (e _ _ h))
  · exact .inl (.inr ⟨o, e _ _ h⟩)
  · exact .inr h
theorem atomL_len {nm : List Nat} {us : List Vl} (hv : ∀ v ∈ us, v.Ok) (hn : nm.length ≤ 1000) (hu : us.length ≤ 100) : (atomL nm us).length ≤ 4000 := by
  have := rowL_len hv
  unfold atomL
  split
  · omega
  · rw [List.length_append, List.length_cons, List.length_append, List.length_singleton]
    omega
/-- the terms of values, made one by one -/
theorem ok_fact_text (T : Tx K mg) : Cal P w K mg base 5 "fact_text" (spFactText K) [] := by
  refine cal_ok T.df_fact_text T.mg_fact_text (fun _ _ _ _ _ _ us hl => match us, hl with | [_, _], _ => rfl) sc_fact_text (fun vs H Q E h => ?_) (fun f cdv A outer s H vs Q E hr h => ?_)
  · obtain ⟨nm, tp, us, rfl, _⟩ := h
    rfl
  · obtain ⟨nm, tp, us, rfl, hS, hv, hnm, hus, q⟩ := h
    have nd := sc_fact_text.nd
    refine ⟨_, pss_one (ps_ret (pe_op op_add_str (pe_c (ok_told_atom T) hr (by decide) (by rfl) (pa_cons (pv 0) (pa_cons (pe_lc (own := [("value", 2)]) (g := gName 2) (tt := tYes) rfl nd (pi_tup (pv 1)) (blkOk_by (own := [("value", 2)]) (N := ["name", "row", "value"]) (sc := C8.fnScope s_fact_text) (by decide +kernel))
          (fun _ _ _ _ _ => pg_name (i := 2) nd rfl (Or.inl rfl)) (fun _ _ _ _ _ => pts_nil) (fun _ _ _ _ _ => pe_c (ok_val T) hr (by decide) (by rfl) (pa_cons (pv 2) pa_nil))) pa_nil))) pe_str)), ?_⟩
    refine ⟨_, rfl, _, rfl, tp, rfl, ⟨_, hS⟩, fun D hD => lc_tup (K := K) (a := tp) (xs := us.map Vl.v) (fun i H' => Same H H' ∧ ∃ as : List Addr, H' D = some (.lst (as.map V.ref)) ∧ TmsL K H' as (us.take i)) ⟨same_new hD, [], upd_same, .nil⟩ (fun i H' _ h => same_seqT h.1 hS) ?_ ?_⟩
    · rintro i x H' hi ⟨sm, as, hD', hT⟩
      obtain ⟨v, hvi, rfl⟩ : ∃ v, us[i]? = some v ∧ x = v.v := by
        rw [List.getElem?_map] at hi
        cases z : us[i]? with
        | none =>
          rw [z] at hi
          cases hi
        | some v =>
          rw [z] at hi
          exact ⟨v, rfl, (Option.some.inj hi).symm⟩
      refine ⟨rfl, _, rfl, v, rfl, fun H'' a sm2 ha htm => ⟨_, sm2 _ _ hD', ?_, ?_, as ++ [a], ?_, ?_⟩⟩
      · rw [List.length_map, hT.1, List.length_take]
        exact small1000 (by omega)
      · exact fun b o z => by
          rw [upd_ne (ne_of_none z hD)]
          exact sm2 _ _ (sm _ _ z)
      · rw [upd_same, List.map_append]
        rfl
      · have e : us.take (i + 1) = us.take i ++ [v] := by
          rw [List.take_add_one, hvi]
          rfl
        rw [e]
        have hDD : H'' D = some (.lst (as.map V.ref)) := sm2 _ _ hD'
        have k : ∀ a v, TmAt K H'' a v → TmAt K (upd H'' D (.lst (as.map V.ref ++ [.ref a]))) a v := fun a v h => h.mod (A := [D]) (Mod.upd (by simp)) (by
          rw [List.mem_singleton]
          exact h.ne_lst hDD)
        have k2 : ∀ b u, TmAt K H'' b u → TmAt K (upd H'' D (.lst (as.map V.ref ++ [.ref a]))) b u := fun b u h => h.mod (A := [D]) (Mod.upd (by simp)) (by
          rw [List.mem_singleton]
          exact h.ne_lst hDD)
        exact TmsL.snoc ((hT.same sm2).keep k2) (k2 a v htm)
    · rintro H' ⟨sm, as, hD', hT⟩
      rw [List.length_map, List.take_length] at hT
      refine ⟨nm, D, as, us, rfl, SqL.of hD', hT, hv, hnm, hus, fun H'' sm2 => ⟨_, _, rfl, rfl, ?_, ?_⟩⟩
      · rw [lit_dot, S_len, S_len]
        exact Nat.le_trans (show (atomL nm us).length + 1 ≤ 10000 by have := atomL_len hv hnm hus; omega) (by decide)
      · rw [lit_dot, S_cat]
        exact q H'' (sm.trans sm2)
end
end K46
set_option Elab.async false
set_option linter.all false
set_option maxRecDepth 100000
set_option maxHeartbeats 4000000
/-! Rules, clauses, facts. -/
namespace K46
open PySem PySem.Spec PyProof.Rows L2 SX
open C8 (Cal Met Mak pe_c pe_mt pe_mt0 pe_mk fn0 pe_gc pss_cut)
/-- an expression that the proof never comes to -/
theorem pe_never {X : Cx} {e : Expr} : PE X e (fun _ _ _ => False) := ⟨fun _ _ _ _ _ _ h => h.elim⟩
theorem pt_never {X : Cx} {e : Expr} : PT X e (fun _ _ _ => False) := ⟨fun _ _ _ _ _ _ h => h.elim⟩
section
variable {K : PySem.W.Frag} {H H1 : Hp} {p C dx a : Addr} {fs : List (Str × V)} {xs : List V}
/-- a list stands behind a change of an instance -/
theorem seq_ins (h : SqL K H a xs) (hp : H p = some (.ins C dx fs)) (m : Mod [p] H H1) : SqL K H1 a xs := by
  rcases h with (h | ⟨o, h⟩) | h
  · exact .inl (.inl (m _ _ h (by rw [List.mem_singleton]; exact ne_of h hp fun z => nomatch z)))
  · exact .inl (.inr ⟨o, m _ _ h (by rw [List.mem_singleton]; exact ne_of h hp fun z => nomatch z)⟩)
  · exact .inr h
theorem tup_ins {t : Addr} (h : H t = some (.tup xs)) (hp : H p = some (.ins C dx fs)) : t ≠ p := ne_of h hp fun z => nomatch z
theorem TmsL.ins {as : List Addr} {us : List Vl} (h : TmsL K H as us) (hp : H p = some (.ins C dx [])) (m : Mod [p] H H1) : TmsL K H1 as us := h.keep fun a v q => q.mod m (by
  rw [List.mem_singleton]
  obtain ⟨d, e⟩ := q
  refine ne_of e hp fun z => ?_
  injection z with _ _ z
  cases z)
end
/-- a rule without a body: a fact -/
def RuleAt (K : PySem.W.Frag) (H : Hp) (ru : Addr) (nm : Str) (as : List Addr) (us : List Vl) : Prop := ∃ dx ts bd sd : Addr, H ru = some (.ins (aRule K) dx (uf nm ts bd sd)) ∧ H ts = some (.tup (as.map V.ref)) ∧ H bd = some (.tup []) ∧ TmsL K H as us
theorem RuleAt.same {K : PySem.W.Frag} {H H' : Hp} {ru : Addr} {nm : Str} {as : List Addr} {us : List Vl} (h : RuleAt K H ru nm as us) (m : Same H H') : RuleAt K H' ru nm as us := by
  obtain ⟨dx, ts, bd, sd, h1, h2, h3, h4⟩ := h
  exact ⟨dx, ts, bd, sd, m _ _ h1, m _ _ h2, m _ _ h3, h4.same m⟩
section
variable {P : Program} {w : World} {K : PySem.W.Frag} {mg : Str → Option Value} {base : Heap}
def spNamesIn (K : PySem.W.Frag) : Sp := fun vs H Q _ => ∃ (tp : Addr) (as : List Addr) (us : List Vl), vs = [.ref tp] ∧ SqT K H tp (as.map V.ref) ∧ TmsL K H as us ∧ ∀ (H' : Hp) (t : Addr), Same H H' → H t = none → H' t = some (.tup []) → Q (.ref t) H'
theorem ok_names_in (T : Tx K mg) : Cal P w K mg base 2 "names_in" (spNamesIn K) [] := by
  refine cal_ok T.df_names_in T.mg_names_in (fun _ _ _ _ _ _ us hl => match us, hl with | [_], _ => rfl) sc_names_in (fun vs H Q E h => ?_) (fun f cdv A outer s H vs Q E hr h => ?_)
  · obtain ⟨tp, as, us, rfl, _⟩ := h
    rfl
  · obtain ⟨tp, as, us, rfl, hS, hT, q⟩ := h
    have nd := sc_names_in.nd
    refine ⟨_, pss_cons (ps_set (i := 1) nd rfl (.inl rfl) (pe_lst pa_nil))
      (pss_cons (ps_for PassesOwn.never rfl (pi_tup (pv 0)) (pg_name (i := 2) nd rfl (.inl rfl))
        (pss_one (ps_if (PW.pt (pw_and (pt_val (pe_mt0 (ok_is_variable T) hr (by decide) (pv 2))) (pw_and1 pt_never))) pss_never pss_nil)))
      (pss_one (ps_ret (pe_callTy call_tuple_of (by rfl) T.fr_tuple (by decide +kernel) (pa_cons (pv 1) pa_nil))))), ?_⟩
    refine ⟨Nat.zero_le _, fun l hl => ?_⟩
    have sm : Same H (upd H l (.lst [])) := same_new hl
    refine ⟨_, rfl, tp, rfl, ⟨_, same_seqT sm hS⟩, for_tup (K := K) (a := tp) (xs := as.map V.ref) (fun i σ H' => (∃ v, σ = [some (.ref tp), some (.ref l), v]) ∧ H' = upd H l (.lst [])) ⟨⟨none, rfl⟩, rfl⟩ (fun i σ H' _ h => by rw [h.2]; exact same_seqT sm hS) ?_ ?_⟩
    · rintro i x σ H' hi ⟨⟨v, rfl⟩, rfl⟩
      obtain ⟨a, ha, rfl⟩ : ∃ a, as[i]? = some a ∧ x = V.ref a := by
        rw [List.getElem?_map] at hi
        cases z : as[i]? with
        | none =>
          rw [z] at hi
          cases hi
        | some a =>
          rw [z] at hi
          exact ⟨a, rfl, (Option.some.inj hi).symm⟩
      obtain ⟨v', _, htm⟩ := hT.at ha
      obtain ⟨da, hta⟩ := htm.same sm
      refine ⟨_, rfl, a, da, _, rfl, hta, rfl, a, da, _, _, rfl, hta, _, rfl, ?_⟩
      exact ⟨⟨_, rfl⟩, rfl⟩
    · rintro σ H' ⟨⟨v, rfl⟩, rfl⟩
      refine ⟨_, rfl, l, _, rfl, .inl ⟨SqL.of upd_same, fun t ht => ?_⟩⟩
      exact q _ t (sm.trans (same_new ht)) (sm.free ht) upd_same
def spRuleInit (K : PySem.W.Frag) : Sp := fun vs H Q _ => ∃ (p dx : Addr) (nm : Str) (lt lb : Addr) (as : List Addr) (us : List Vl), vs = [.ref p, .str nm, .ref lt, .ref lb, .non] ∧ H p = some (.ins (aRule K) dx []) ∧ SqL K H lt (as.map V.ref) ∧ TmsL K H as us ∧ SqL K H lb [] ∧
  ∀ H', Mod [p] H H' → RuleAt K H' p nm as us → Q .non H'
theorem ok_Rule (T : Tx K mg) : Mak P w K mg base 3 "Rule" (aRule K) (spRuleInit K) [.non] := by
  refine mak_dfl T.df_Rule_init T.mk_Rule T.mg_Rule (fun fd F => FunD.binds1 F 4 0 (by decide) rfl fun T' kV doc pm an cdv ct us its h1 h2 => match us, its, h1, h2 with | [_, _, _, _], [_], _, _ => ⟨_, rfl, rfl⟩) sc_Rule_init (fun vs H Q E h => ?_) (fun f cdv A outer s H vs Q E hr h => ?_)
  · obtain ⟨p, dx, nm, lt, lb, as, us, rfl, _⟩ := h
    rfl
  · obtain ⟨p, dx, nm, lt, lb, as, us, rfl, hp, hS, hT, hB, q⟩ := h
    have nd := sc_Rule_init.nd
    refine ⟨_, pss_cons (ps_fld (pv 0) (pv 1) rfl)
      (pss_cons (ps_fld (pv 0) (pe_callTy call_tuple_of (by rfl) T.fr_tuple (by decide +kernel) (pa_cons (pv 2) pa_nil)) rfl)
      (pss_cons (ps_fld (pv 0) (pe_callTy call_tuple_of (by rfl) T.fr_tuple (by decide +kernel) (pa_cons (pv 3) pa_nil)) rfl)
      (pss_cons (ps_fld (pv 0) (pv 4) rfl)
      (pss_cut (ps_fld (pv 0) pe_dnewK rfl)
      (pss_cons (ps_for PassesOwn.never rfl (pi_tup (pe_c (ok_names_in T) hr (by decide) (by rfl) (pa_cons (pe_fld (pv 0) rfl) pa_nil))) (pg_name (i := 1) nd rfl (.inl rfl)) pss_never)
      (pss_one (ps_for PassesOwn.never rfl (pi_tup (pe_fld (pv 0) rfl)) (pg_name (i := 5) nd rfl (.inl rfl)) pss_never))))))), ?_⟩
    refine ⟨_, rfl, _, rfl, p, _, dx, _, rfl, hp, T.cl_Rule, T.na_Rule_name, (by show 0 < 1000; decide), ?_⟩
    -- self.terms
    have m1 : Mod [p] H (upd H p (.ins (aRule K) dx (putF "name" (.str nm) []))) := Mod.upd (by simp)
    refine ⟨_, rfl, lt, _, rfl, .inl ⟨seq_ins hS hp m1, fun ts hts => ?_⟩⟩
    have nts : ts ≠ p := fun e => by
      rw [e, upd_same] at hts
      cases hts
    refine ⟨_, rfl, p, _, dx, _, rfl, (upd_ne nts.symm).trans upd_same, T.cl_Rule, T.na_Rule_terms, (by show 1 < 1000; decide), ?_⟩
    -- self.body
    have m2 := (m1.trans (Mod.new hts (o := .tup (as.map V.ref)))).trans (Mod.upd (A := [p]) (p := p) (o := .ins (aRule K) dx (putF "terms" (.ref ts) (putF "name" (.str nm) []))) (by simp))
    refine ⟨_, rfl, lb, _, rfl, .inl ⟨seq_ins hB hp m2, fun bd hbd => ?_⟩⟩
    have nbd : bd ≠ p := fun e => by
      rw [e, upd_same] at hbd
      cases hbd
    have nbt : bd ≠ ts := fun e => by
      rw [e, upd_ne nts, upd_same] at hbd
      cases hbd
    refine ⟨_, rfl, p, _, dx, _, rfl, (upd_ne nbd.symm).trans upd_same, T.cl_Rule, T.na_Rule_body, (by show 2 < 1000; decide), ?_⟩
    -- self.summed
    refine ⟨_, rfl, _, rfl, p, _, dx, _, rfl, upd_same, T.cl_Rule, T.na_Rule_summed, (by show 3 < 1000; decide), ?_⟩
    rw [upd_upd]
    -- self.stands
    refine ⟨fun σ' H' => ∃ sd, σ' = [some (.ref p), some (.str nm), some (.ref lt), some (.ref lb), some .non, none] ∧ Mod [p] H H' ∧ H' p = some (.ins (aRule K) dx (uf nm ts bd sd)) ∧ H' ts = some (.tup (as.map V.ref)) ∧ H' bd = some (.tup []), ?_, ?_⟩
    · intro sd hsd
      have nsp : sd ≠ p := fun e => by
        rw [e, upd_same] at hsd
        cases hsd
      have nsb : sd ≠ bd := fun e => by
        rw [e, upd_ne nbd, upd_same] at hsd
        cases hsd
      have nst : sd ≠ ts := fun e => by
        rw [e, upd_ne nts, upd_ne nbt.symm, upd_ne nts, upd_same] at hsd
        cases hsd
      refine ⟨_, rfl, p, _, dx, _, rfl, (upd_ne nsp.symm).trans upd_same, T.cl_Rule, T.na_Rule_stands, (by show 4 < 1000; decide), ?_⟩
      have m3 := (((m2.trans (Mod.new hbd (o := .tup []))).trans (Mod.upd (A := [p]) (p := p) (o := .ins (aRule K) dx (putF "summed" .non (putF "body" (.ref bd) (putF "terms" (.ref ts) (putF "name" (.str nm) []))))) (by simp))).trans (Mod.new hsd (o := .dK []))).trans
        (Mod.upd (A := [p]) (p := p) (o := .ins (aRule K) dx (putF "stands" (.ref sd) (putF "summed" .non (putF "body" (.ref bd) (putF "terms" (.ref ts) (putF "name" (.str nm) [])))))) (by simp))
      refine ⟨sd, rfl, m3, ?_, ?_, ?_⟩
      · rw [upd_same]
        rfl
      · rw [upd_ne nts, upd_ne nst.symm, upd_ne nts, upd_ne nbt.symm, upd_ne nts, upd_same]
      · rw [upd_ne nbd, upd_ne nsb.symm, upd_ne nbd, upd_same]
    · rintro σ' H' ⟨sd, rfl, m3, h1, h2, h3⟩
      have hT3 : TmsL K H' as us := hT.ins hp m3
      refine ⟨_, rfl, p, _, dx, _, _, rfl, h1, T.cl_Rule, T.na_Rule_terms, rfl, ts, as, us, rfl, SqT.of h2, hT3, fun H2 t sm nt ht => ?_⟩
      refine ⟨t, rfl, ⟨_, SqT.of ht⟩, for_tup (K := K) (a := t) (xs := []) (fun i σ H'' => σ = [some (.ref p), some (.str nm), some (.ref lt), some (.ref lb), some .non, none] ∧ H'' = H2) ⟨rfl, rfl⟩ (fun i σ H'' _ h => by rw [h.2]; exact SqT.of ht) (fun i x σ H'' hi _ => by simp at hi) ?_⟩
      rintro σ H'' ⟨rfl, rfl⟩
      refine ⟨_, rfl, p, _, dx, _, _, rfl, sm _ _ h1, T.cl_Rule, T.na_Rule_body, rfl, bd, rfl, ⟨_, SqT.of (sm _ _ h3)⟩, for_tup (K := K) (a := bd) (xs := []) (fun i σ H3 => H3 = H'') rfl (fun i σ H3 _ h => by rw [h]; exact SqT.of (sm _ _ h3)) (fun i x σ H3 hi _ => by simp at hi) ?_⟩
      rintro σ H3 rfl
      exact q _ (m3.trans (Mod.of_same sm)) ⟨dx, ts, bd, sd, sm _ _ h1, sm _ _ h2, sm _ _ h3, hT3.same sm⟩
def spClauseInit (K : PySem.W.Frag) : Sp := fun vs H Q _ => ∃ (p dx ru lb : Addr), vs = [.ref p, .str "rule", .ref ru, .ref lb] ∧ H p = some (.ins (aClause K) dx []) ∧ SqL K H lb [] ∧ ∀ (H' : Hp) (bd : Addr), Mod [p] H H' → H' p = some (.ins (aClause K) dx (lf ru bd)) → Q .non H'
theorem ok_Clause (T : Tx K mg) : Mak P w K mg base 1 "Clause" (aClause K) (spClauseInit K) [] := by
  refine mak_ok T.df_Clause_init T.mk_Clause T.mg_Clause (fun _ _ _ _ _ _ us hl => match us, hl with | [_, _, _, _], _ => rfl) sc_Clause_init (fun vs H Q E h => ?_) (fun f cdv A outer s H vs Q E hr h => ?_)
  · obtain ⟨p, dx, ru, lb, rfl, _⟩ := h
    rfl
  · obtain ⟨p, dx, ru, lb, rfl, hp, hB, q⟩ := h
    refine ⟨_, pss_cons (ps_fld (pv 0) (pv 1) rfl) (pss_cons (ps_fld (pv 0) (pv 2) rfl) (pss_one (ps_fld (pv 0) (pe_callTy call_tuple_of (by rfl) T.fr_tuple (by decide +kernel) (pa_cons (pv 3) pa_nil)) rfl))), ?_⟩
    refine ⟨_, rfl, _, rfl, p, _, dx, _, rfl, hp, T.cl_Clause, T.na_Clause_kind, (by show 0 < 1000; decide), ?_⟩
    refine ⟨_, rfl, _, rfl, p, _, dx, _, rfl, upd_same, T.cl_Clause, T.na_Clause_rule, (by show 1 < 1000; decide), ?_⟩
    rw [upd_upd]
    have m1 : Mod [p] H (upd H p (.ins (aClause K) dx (putF "rule" (.ref ru) (putF "kind" (.str "rule") [])))) := Mod.upd (by simp)
    refine ⟨_, rfl, lb, _, rfl, .inl ⟨seq_ins hB hp m1, fun bd hbd => ?_⟩⟩
    have nbd : bd ≠ p := fun e => by
      rw [e, upd_same] at hbd
      cases hbd
    refine ⟨_, rfl, p, _, dx, _, rfl, (upd_ne nbd.symm).trans upd_same, T.cl_Clause, T.na_Clause_body, (by show 2 < 1000; decide), ?_⟩
    refine q _ bd ((m1.trans (Mod.new hbd)).trans (Mod.upd (by simp))) ?_
    rw [upd_same]
    rfl
def spIsFact (K : PySem.W.Frag) : Sp := fun vs H Q _ => ∃ (ru : Addr) (nm : Str) (as : List Addr) (us : List Vl), vs = [.ref ru] ∧ RuleAt K H ru nm as us ∧ ∀ H', Same H H' → Q (.bl true) H'
theorem ok_is_fact (T : Tx K mg) : Cal P w K mg base 3 "is_fact" (spIsFact K) [] := by
  refine cal_ok T.df_is_fact T.mg_is_fact (fun _ _ _ _ _ _ us hl => match us, hl with | [_], _ => rfl) sc_is_fact (fun vs H Q E h => ?_) (fun f cdv A outer s H vs Q E hr h => ?_)
  · obtain ⟨ru, nm, as, us, rfl, _⟩ := h
    rfl
  · obtain ⟨ru, nm, as, us, rfl, ⟨dx, ts, bd, sd, h1, h2, h3, hT⟩, q⟩ := h
    refine ⟨_, pss_one (ps_ret (pe_and (pe_cmpR (op_eqD hr.units) (pe_fld (pv 0) rfl) (pe_tup pa_nil) (nomark _)) (pe_one (pe_cmpR (op_eqD hr.units) (pe_c (ok_names_in T) hr (by decide) (by rfl) (pa_cons (pe_fld (pv 0) rfl) pa_nil)) (pe_tup pa_nil) (nomark _))))), ?_⟩
    refine ⟨_, rfl, ru, _, dx, _, _, rfl, h1, T.cl_Rule, T.na_Rule_body, rfl, Nat.zero_le _, fun e1 he1 => ?_⟩
    have s1 : Same H (upd H e1 (.tup [])) := same_new he1
    refine ⟨.tuple [], .tuple [], .tup (SqT.of (s1 _ _ h3)) .nil, .tup (SqT.of upd_same) .nil, by decide +kernel, by decide +kernel, _, rfl, ?_⟩
    rw [show PyData.eqv (.tuple []) (.tuple []) = true by decide +kernel]
    refine iteT ⟨_, rfl, ru, _, dx, _, _, rfl, s1 _ _ h1, T.cl_Rule, T.na_Rule_terms, rfl, ts, as, us, rfl, SqT.of (s1 _ _ h2), hT.same s1, fun H2 t s2 nt ht => ?_⟩
    refine ⟨Nat.zero_le _, fun e2 he2 => ?_⟩
    have s3 : Same H2 (upd H2 e2 (.tup [])) := same_new he2
    refine ⟨.tuple [], .tuple [], .tup (SqT.of (s3 _ _ ht)) .nil, .tup (SqT.of upd_same) .nil, by decide +kernel, by decide +kernel, ?_⟩
    rw [show PyData.eqv (.tuple []) (.tuple []) = true by decide +kernel]
    exact q _ ((s1.trans s2).trans s3)
def spRowOf (K : PySem.W.Frag) : Sp := fun vs H Q _ => ∃ (ru : Addr) (nm : Str) (as : List Addr) (us : List Vl), vs = [.ref ru] ∧ RuleAt K H ru nm as us ∧ us.length ≤ 100 ∧ ∀ (H' : Hp) (t : Addr), Same H H' → H' t = some (.tup (us.map Vl.v)) → Q (.ref t) H'
/-- the values of terms, one by one -/
theorem ok_row_of (T : Tx K mg) : Cal P w K mg base 4 "row_of" (spRowOf K) [] := by
  refine cal_ok T.df_row_of T.mg_row_of (fun _ _ _ _ _ _ us hl => match us, hl with | [_], _ => rfl) sc_row_of (fun vs H Q E h => ?_) (fun f cdv A outer s H vs Q E hr h => ?_)
  · obtain ⟨ru, nm, as, us, rfl, _⟩ := h
    rfl
  · obtain ⟨ru, nm, as, us, rfl, hru, hlen, q⟩ := h
    have nd := sc_row_of.nd
    refine ⟨_, pss_cons (ps_if (pt_not (pt_val (pe_c (ok_is_fact T) hr (by decide) (by rfl) (pa_cons (pv 0) pa_nil)))) pss_never pss_nil)
      (pss_one (ps_ret (pe_callTy call_tuple_of (by rfl) T.fr_tuple (by decide +kernel) (pa_cons (pe_lc (own := [("term", 1)]) (g := gName 1) (tt := tYes) (te := tFld K (tVar 1) "value") rfl nd (pi_tup (pe_fld (pv 0) rfl)) (blkOk_by (own := [("term", 1)]) (N := ["rule", "term"]) (sc := C8.fnScope s_row_of) (by decide +kernel))
          (fun _ _ _ _ _ => pg_name (i := 1) nd rfl (Or.inl rfl)) (fun _ _ _ _ _ => pts_nil) (fun _ _ _ _ _ => pe_fld (pv 1) rfl)) pa_nil)))), ?_⟩
    refine ⟨_, rfl, ru, nm, as, us, rfl, hru, fun H1 s1 => ⟨_, rfl, iteF ?_⟩⟩
    obtain ⟨dx, ts, bd, sd, h1, h2, h3, hT⟩ := hru.same s1
    refine ⟨_, rfl, ru, _, dx, _, _, rfl, h1, T.cl_Rule, T.na_Rule_terms, rfl, ts, rfl, ⟨_, SqT.of h2⟩, fun D hD => lc_tup (K := K) (a := ts) (xs := as.map V.ref) (fun i H' => Same H1 H' ∧ H' D = some (.lst ((us.take i).map Vl.v))) ⟨same_new hD, upd_same⟩ (fun i H' _ h => SqT.of (h.1 _ _ h2)) ?_ ?_⟩
    · rintro i x H' hi ⟨sm, hD'⟩
      obtain ⟨a, ha, rfl⟩ : ∃ a, as[i]? = some a ∧ x = V.ref a := by
        rw [List.getElem?_map] at hi
        cases z : as[i]? with
        | none =>
          rw [z] at hi
          cases hi
        | some a =>
          rw [z] at hi
          exact ⟨a, rfl, (Option.some.inj hi).symm⟩
      obtain ⟨v, hvi, htm⟩ := hT.at ha
      obtain ⟨da, hta⟩ := htm.same sm
      refine ⟨rfl, _, rfl, a, _, da, _, _, rfl, hta, T.cl_Term, T.na_Term_value, rfl, _, hD', ?_, ?_, ?_⟩
      · rw [List.length_map, List.length_take]
        exact small1000 (by omega)
      · exact fun b o z => by
          rw [upd_ne (ne_of_none z hD)]
          exact sm _ _ z
      · rw [upd_same, map_take_snoc _ hvi]
    · rintro H' ⟨sm, hD'⟩
      have hl : (as.map V.ref).length = us.length := by rw [List.length_map, hT.1]
      rw [hl, List.take_length] at hD'
      refine ⟨D, _, rfl, .inl ⟨SqL.of hD', fun t ht => ?_⟩⟩
      exact q _ t ((s1.trans sm).trans (same_new ht)) upd_same
end
end K46
set_option Elab.async false
set_option linter.all false
set_option maxRecDepth 100000
set_option maxHeartbeats 4000000
/-! The rule told again; the reader, first part. -/
namespace K46
open PySem PySem.Spec PyProof.Rows L2 SX
open C8 (Cal Met Mak pe_c pe_mt pe_mt0 pe_mk fn0 pe_gc pss_cut)
section
variable {P : Program} {w : World} {K : PySem.W.Frag} {mg : Str → Option Value} {base : Heap}
def spToldRule (K : PySem.W.Frag) : Sp := fun vs H Q _ => ∃ (ru : Addr) (nm : List Nat) (as : List Addr) (us : List Vl), vs = [.ref ru] ∧ RuleAt K H ru (S nm) as us ∧ (∀ v ∈ us, v.Ok) ∧ nm.length ≤ 1000 ∧ us.length ≤ 100 ∧ ∀ H', Same H H' → Q (.str (S (factL nm us))) H'
theorem ok_told_rule (T : Tx K mg) : Cal P w K mg base 4 "told_rule" (spToldRule K) [] := by
  refine cal_ok T.df_told_rule T.mg_told_rule (fun _ _ _ _ _ _ us hl => match us, hl with | [_], _ => rfl) sc_told_rule (fun vs H Q E h => ?_) (fun f cdv A outer s H vs Q E hr h => ?_)
  · obtain ⟨ru, nm, as, us, rfl, _⟩ := h
    rfl
  · obtain ⟨ru, nm, as, us, rfl, hru, hv, hnm, hus, q⟩ := h
    have nd := sc_told_rule.nd
    refine ⟨_, pss_cons (ps_setLc (i := 1) (own := [("term", 2)]) (g := gName 2) (tt := tYes) rfl nd rfl rfl (sw_true rfl rfl rfl (by decide +kernel)) (pi_tup (pe_fld (pv 0) rfl)) (blkOk_by (own := [("term", 2)]) (N := ["rule", "words", "term", "place", "kind", "head"]) (sc := C8.fnScope s_told_rule) (by decide +kernel))
          (fun _ _ _ _ _ => pg_name (i := 2) nd rfl (Or.inl rfl)) (fun _ _ _ _ _ => pts_nil) (fun _ _ _ _ _ => pe_c (ok_told_term T) hr (by decide) (by rfl) (pa_cons (pv 2) pa_nil)))
      (pss_cons (ps_if (pt_cmp (pc_notN (pe_fld (pv 0) rfl)) rfl) pss_never pss_nil)
      (pss_cons (ps_set (i := 5) nd rfl (.inl rfl) (pe_ifExp (pt_cmpR (op_eqNil hr.units) (pv 1) (pe_lst pa_nil) (nomark _)) (pe_fld (pv 0) rfl)
        (pe_op op_add_str (pe_op op_add_str (pe_op op_add_str (pe_fld (pv 0) rfl) pe_str) (pe_join pe_str (pv 1))) pe_str)))
      (pss_one (ps_ret (pe_ifExp (pt_cmpR (op_eqD hr.units) (pe_fld (pv 0) rfl) (pe_tup pa_nil) (nomark _)) (pe_op op_add_str (pv 5) pe_str) pe_never))))), ?_⟩
    obtain ⟨dx, ts, bd, sd, h1, h2, h3, hT⟩ := hru
    have hl : (as.map V.ref).length = us.length := by rw [List.length_map, hT.1]
    have hal := atomL_len hv hnm hus
    have hrow := rowL_len hv
    -- the words
    refine ⟨_, rfl, ru, _, dx, _, _, rfl, h1, T.cl_Rule, T.na_Rule_terms, rfl, ts, rfl, ⟨_, SqT.of h2⟩, fun D hD => lc_tup (K := K) (a := ts) (xs := as.map V.ref) (fun i H' => Same H H' ∧ H' D = some (.lst ((us.take i).map fun v => V.str (S v.told)))) ⟨same_new hD, upd_same⟩ (fun i H' _ h => SqT.of (h.1 _ _ h2)) ?_ ?_⟩
    · rintro i x H' hi ⟨sm, hD'⟩
      obtain ⟨a, ha, rfl⟩ : ∃ a, as[i]? = some a ∧ x = V.ref a := by
        rw [List.getElem?_map] at hi
        cases z : as[i]? with
        | none =>
          rw [z] at hi
          cases hi
        | some a =>
          rw [z] at hi
          exact ⟨a, rfl, (Option.some.inj hi).symm⟩
      obtain ⟨v, hvi, htm⟩ := hT.at ha
      refine ⟨rfl, _, rfl, a, rfl, .inl ⟨v, htm.same sm, hv v (List.mem_of_getElem? hvi), fun H'' sm2 => ⟨_, sm2 _ _ hD', ?_, ?_, ?_⟩⟩⟩
      · rw [List.length_map, List.length_take]
        exact small1000 (by omega)
      · exact fun b o z => by
          rw [upd_ne (ne_of_none z hD)]
          exact sm2 _ _ (sm _ _ z)
      · rw [upd_same, map_take_snoc _ hvi]
    · rintro H' ⟨sm, hD'⟩
      rw [hl, List.take_length] at hD'
      -- no sum
      refine ⟨_, rfl, ru, _, dx, _, _, rfl, sm _ _ h1, T.cl_Rule, T.na_Rule_summed, rfl, _, rfl, iteF ?_⟩
      -- the head
      refine ⟨_, rfl, Nat.zero_le _, fun n0 hn0 => ?_⟩
      have s1 : Same H' (upd H' n0 (.lst [])) := same_new hn0
      refine ⟨D, n0, _, rfl, rfl, SqL.of (s1 _ _ hD'), SqL.of upd_same, _, rfl, ?_⟩
      rw [if_neg Bool.false_ne_true]
      have fin : (tRet (tIf (tTest (tOp (rEqD K) (tFld K (tVar 0) "body") (tTup tNil))) (tOp (fun x y H Q => ∃ i j, x = .str i ∧ y = .str j ∧ i.length + j.length ≤ sizeLine ∧ Q (.str (i ++ j)) H) (tVar 5) (tC (.str ".")) ) (fun _ _ _ => False))) { nx := fun _ H' => Q .non H', rt := Q }
          [some (.ref ru), some (.ref D), none, none, none, some (.str (S (atomL nm us)))] (upd H' n0 (.lst [])) := by
        refine ⟨_, rfl, ru, _, dx, _, _, rfl, s1 _ _ (sm _ _ h1), T.cl_Rule, T.na_Rule_body, rfl, Nat.zero_le _, fun e1 he1 => ?_⟩
        have s2 : Same (upd H' n0 (.lst [])) (upd (upd H' n0 (.lst [])) e1 (.tup [])) := same_new he1
        refine ⟨.tuple [], .tuple [], .tup (SqT.of (s2 _ _ (s1 _ _ (sm _ _ h3)))) .nil, .tup (SqT.of upd_same) .nil, by decide +kernel, by decide +kernel, _, rfl, ?_⟩
        rw [show PyData.eqv (.tuple []) (.tuple []) = true by decide +kernel]
        refine iteT ⟨_, rfl, _, _, rfl, rfl, ?_, ?_⟩
        · rw [lit_dot, S_len, S_len]
          exact Nat.le_trans (show (atomL nm us).length + 1 ≤ 10000 by omega) (by decide)
        · rw [lit_dot, S_cat]
          exact q _ ((sm.trans s1).trans s2)
      cases us with
      | nil =>
        refine iteT ⟨_, rfl, ru, _, dx, _, _, rfl, s1 _ _ (sm _ _ h1), T.cl_Rule, T.na_Rule_name, rfl, ?_⟩
        exact fin
      | cons u us =>
        have e3 : ((u :: us).map fun v => V.str (S v.told)) = (((u :: us).map Vl.told).map S).map V.str := by
          rw [List.map_map, List.map_map]
          rfl
        refine iteF ⟨_, rfl, ru, _, dx, _, _, rfl, s1 _ _ (sm _ _ h1), T.cl_Rule, T.na_Rule_name, rfl, _, _, rfl, rfl, ?_, ⟨_, rfl⟩, _, rfl, _, D, ((u :: us).map Vl.told).map S, rfl, rfl, .inl (SqL.of (by rw [← e3]; exact s1 _ _ hD')), ?_, _, _, rfl, rfl, ?_, _, _, rfl, rfl, ?_, ?_⟩
        · rw [lit_open, S_len, S_len]
          exact Nat.le_trans (show nm.length + 1 ≤ 10000 by omega) (by decide)
        · rw [lens, List.length_map, List.length_map, lit_sep, S_len]
          have := told_sum hv
          show _ + (u :: us).length * 2 ≤ 16777216
          omega
        · rw [lit_open, lit_sep, join_S, S_cat, S_len, S_len, List.length_append]
          show nm.length + 1 + (rowL (u :: us)).length ≤ sizeLine
          exact Nat.le_trans (show nm.length + 1 + (rowL (u :: us)).length ≤ 10000 by omega) (by decide)
        · rw [lit_open, lit_sep, lit_close, join_S, S_cat, S_cat, S_len, S_len, List.length_append, List.length_append]
          show nm.length + 1 + (rowL (u :: us)).length + 1 ≤ sizeLine
          exact Nat.le_trans (show nm.length + 1 + (rowL (u :: us)).length + 1 ≤ 10000 by omega) (by decide)
        · rw [lit_open, lit_sep, lit_close, join_S, S_cat, S_cat, S_cat]
          have e4 : nm ++ [40] ++ TL.joinL [44, 32] ((u :: us).map Vl.told) ++ [41] = atomL nm (u :: us) := by
            show nm ++ [40] ++ rowL (u :: us) ++ [41] = if u :: us = [] then nm else nm ++ (40 :: (rowL (u :: us) ++ [41]))
            rw [if_neg (List.cons_ne_nil _ _), List.append_assoc, List.append_assoc]
            rfl
          rw [e4]
          exact fin
/-! ### the reader -/
def spReadInit (K : PySem.W.Frag) : Sp := fun vs H Q _ => ∃ (p dx tp : Addr), vs = [.ref p, .ref tp] ∧ H p = some (.ins (aRead K) dx []) ∧ Q .non (upd H p (.ins (aRead K) dx (rf tp 0 0)))
theorem ok_Read_init (T : Tx K mg) : Mak P w K mg base 1 "Reader" (aRead K) (spReadInit K) [] := by
  refine mak_ok T.df_Reader_init T.mk_Reader T.mg_Reader (fun _ _ _ _ _ _ us hl => match us, hl with | [_, _], _ => rfl) sc_Reader_init (fun vs H Q E h => ?_) (fun f cdv A outer s H vs Q E hr h => ?_)
  · obtain ⟨p, dx, tp, rfl, _⟩ := h
    rfl
  · obtain ⟨p, dx, tp, rfl, hp, q⟩ := h
    refine ⟨_, pss_cons (ps_fld (pv 0) (pv 1) rfl) (pss_cons (ps_fld (pv 0) pe_int rfl) (pss_one (ps_fld (pv 0) pe_int rfl))), ?_⟩
    refine ⟨_, rfl, _, rfl, p, _, dx, _, rfl, hp, T.cl_Reader, T.na_Reader_signs, (by show 0 < 1000; decide), ?_⟩
    refine ⟨_, rfl, p, _, dx, _, rfl, upd_same, T.cl_Reader, T.na_Reader_place, (by show 1 < 1000; decide), ?_⟩
    rw [upd_upd]
    refine ⟨_, rfl, p, _, dx, _, rfl, upd_same, T.cl_Reader, T.na_Reader_bare, (by show 2 < 1000; decide), ?_⟩
    rw [upd_upd]
    exact q
theorem dec_le {a b : Nat} : decide ((a : Int) ≤ (b : Int)) = decide (a ≤ b) := by
  by_cases h : a ≤ b
  · rw [decide_eq_true h, decide_eq_true (Int.ofNat_le.mpr h)]
  · rw [decide_eq_false h, decide_eq_false fun z => h (Int.ofNat_le.mp z)]
/-- where a reader stands -/
def RdAt (K : PySem.W.Frag) (H : Hp) (p dx tp : Addr) (i b : Nat) : Prop := H p = some (.ins (aRead K) dx (rf tp (i : Nat) (b : Nat)))
def spRAtEnd (K : PySem.W.Frag) : Sp := fun vs H Q _ => ∃ (p dx tp : Addr) (i b : Nat) (ts : List Tok), vs = [.ref p] ∧ RdAt K H p dx tp i b ∧ SgnsAt K H tp ts ∧ Q (.bl (decide (ts.length ≤ i))) H
theorem ok_RAtEnd (T : Tx K mg) : Met P w K mg base 1 (aRead K) "at_end" (spRAtEnd K) [] := by
  refine met_ok T.df_Reader_at_end T.cl_Reader T.me_Reader_at_end (fun _ _ _ _ _ _ us hl => match us, hl with | [_], _ => rfl) sc_Reader_at_end (fun vs H Q E h => ?_) (fun f cdv A outer s H vs Q E hr h => ?_)
  · obtain ⟨p, dx, tp, i, b, ts, rfl, _⟩ := h
    rfl
  · obtain ⟨p, dx, tp, i, b, ts, rfl, hp, ⟨as, h1, h2⟩, q⟩ := h
    refine ⟨_, pss_one (ps_ret (pe_cmpR op_ge (pe_fld (pv 0) rfl) (pe_callB call_len_seq (by rfl) T.fr_len PySem.boot_len (pa_cons (pe_fld (pv 0) rfl) pa_nil)) (nomark _))), ?_⟩
    refine ⟨_, rfl, p, _, dx, _, _, rfl, hp, T.cl_Reader, T.na_Reader_place, rfl, _, rfl, p, _, dx, _, _, rfl, hp, T.cl_Reader, T.na_Reader_signs, rfl, tp, _, rfl, .inr (SqT.of h1), _, _, rfl, rfl, ?_⟩
    show Q (.bl (decide (((as.map V.ref).length : Int) ≤ (i : Int)))) H
    rw [dec_le, List.length_map, h2.1]
    exact q
def spHere (K : PySem.W.Frag) : Sp := fun vs H Q _ => ∃ (p dx tp : Addr) (i b : Nat) (ts : List Tok) (t : Tok), vs = [.ref p] ∧ RdAt K H p dx tp i b ∧ SgnsAt K H tp ts ∧ ts[i]? = some t ∧ ∀ a, SgnAt K H a t → Q (.ref a) H
theorem ok_here (T : Tx K mg) : Met P w K mg base 2 (aRead K) "here" (spHere K) [] := by
  refine met_ok T.df_Reader_here T.cl_Reader T.me_Reader_here (fun _ _ _ _ _ _ us hl => match us, hl with | [_], _ => rfl) sc_Reader_here (fun vs H Q E h => ?_) (fun f cdv A outer s H vs Q E hr h => ?_)
  · obtain ⟨p, dx, tp, i, b, ts, t, rfl, _⟩ := h
    rfl
  · obtain ⟨p, dx, tp, i, b, ts, t, rfl, hp, hs, ht, q⟩ := h
    refine ⟨_, pss_cons (ps_if (pt_val (pe_mt0 (ok_RAtEnd T) hr (by decide) (pv 0))) pss_never pss_nil) (pss_one (ps_ret (pe_ix ix_tup (pe_fld (pv 0) rfl) (pe_fld (pv 0) rfl) (fun _ _ => rfl)))), ?_⟩
    have hi := (List.getElem?_eq_some_iff.mp ht).1
    obtain ⟨as, h1, h2⟩ := id hs
    obtain ⟨a, ha, hsg⟩ := h2.get ht
    refine ⟨_, rfl, p, dx, _, rfl, hp, rfl, p, dx, tp, i, b, ts, rfl, hp, hs, _, rfl, ?_⟩
    rw [decide_eq_false (show ¬ ts.length ≤ i by omega)]
    refine iteF ⟨_, rfl, p, _, dx, _, _, rfl, hp, T.cl_Reader, T.na_Reader_signs, rfl, _, rfl, p, _, dx, _, _, rfl, hp, T.cl_Reader, T.na_Reader_place, rfl, tp, _, _, .ref a, rfl, rfl, SqT.of h1, atI_nat (by rw [List.getElem?_map, ha]; rfl), q a hsg⟩
def hereB (ts : List Tok) (i : Nat) (m : Str) : Bool := match ts[i]? with
  | some t => decide (t.kd = "mark") && decide (S t.sd = m)
  | none => false
def spIsHere (K : PySem.W.Frag) : Sp := fun vs H Q _ => ∃ (p dx tp : Addr) (i b : Nat) (ts : List Tok) (m : Str), vs = [.ref p, .str m] ∧ RdAt K H p dx tp i b ∧ SgnsAt K H tp ts ∧ Q (.bl (hereB ts i m)) H
theorem ok_is_here (T : Tx K mg) : Met P w K mg base 2 (aRead K) "is_here" (spIsHere K) [] := by
  refine met_ok T.df_Reader_is_here T.cl_Reader T.me_Reader_is_here (fun _ _ _ _ _ _ us hl => match us, hl with | [_, _], _ => rfl) sc_Reader_is_here (fun vs H Q E h => ?_) (fun f cdv A outer s H vs Q E hr h => ?_)
  · obtain ⟨p, dx, tp, i, b, ts, m, rfl, _⟩ := h
    rfl
  · obtain ⟨p, dx, tp, i, b, ts, m, rfl, hp, hs, q⟩ := h
    refine ⟨_, pss_one (ps_ret (pe_and (pe_not (pe_mt0 (ok_RAtEnd T) hr (by decide) (pv 0))) (pe_one (pe_mt (ok_Sign_is_mark T) hr (by decide) (pe_ix ix_tup (pe_fld (pv 0) rfl) (pe_fld (pv 0) rfl) (fun _ _ => rfl)) (pa_cons (pv 1) pa_nil))))), ?_⟩
    refine ⟨_, rfl, p, dx, _, rfl, hp, rfl, p, dx, tp, i, b, ts, rfl, hp, hs, _, rfl, _, rfl, ?_⟩
    unfold hereB at q
    cases ht : ts[i]? with
    | none =>
      rw [ht] at q
      have hi : ts.length ≤ i := List.getElem?_eq_none_iff.mp ht
      rw [decide_eq_true hi]
      exact iteF q
    | some t =>
      rw [ht] at q
      have hi := (List.getElem?_eq_some_iff.mp ht).1
      obtain ⟨as, h1, h2⟩ := id hs
      obtain ⟨a, ha, hsg⟩ := h2.get ht
      obtain ⟨da, r, c, ha2⟩ := id hsg
      rw [decide_eq_false (show ¬ ts.length ≤ i by omega)]
      exact iteT ⟨_, rfl, p, _, dx, _, _, rfl, hp, T.cl_Reader, T.na_Reader_signs, rfl, _, rfl, p, _, dx, _, _, rfl, hp, T.cl_Reader, T.na_Reader_place, rfl, tp, _, _, .ref a, rfl, rfl, SqT.of h1, atI_nat (by rw [List.getElem?_map, ha]; rfl), a, da, _, rfl, ha2, rfl, _, rfl, a, t, m, rfl, hsg, q⟩
def spTake (K : PySem.W.Frag) : Sp := fun vs H Q _ => ∃ (p dx tp : Addr) (i b : Nat) (ts : List Tok) (m : Str), vs = [.ref p, .str m] ∧ RdAt K H p dx tp i b ∧ SgnsAt K H tp ts ∧ hereB ts i m = true ∧ ∀ H', Mod [p] H H' → RdAt K H' p dx tp (i + 1) b → Q .non H'
theorem ok_take (T : Tx K mg) : Met P w K mg base 3 (aRead K) "take" (spTake K) [] := by
  refine met_ok T.df_Reader_take T.cl_Reader T.me_Reader_take (fun _ _ _ _ _ _ us hl => match us, hl with | [_, _], _ => rfl) sc_Reader_take (fun vs H Q E h => ?_) (fun f cdv A outer s H vs Q E hr h => ?_)
  · obtain ⟨p, dx, tp, i, b, ts, m, rfl, _⟩ := h
    rfl
  · obtain ⟨p, dx, tp, i, b, ts, m, rfl, hp, hs, hb, q⟩ := h
    refine ⟨_, pss_cons (ps_if (pt_not (pt_val (pe_mt (ok_is_here T) hr (by decide) (pv 0) (pa_cons (pv 1) pa_nil)))) pss_never pss_nil) (pss_one (ps_fldaug (pv 0) pe_int in_add)), ?_⟩
    refine ⟨_, rfl, p, dx, _, rfl, hp, rfl, _, rfl, p, dx, tp, i, b, ts, m, rfl, hp, hs, _, rfl, ?_⟩
    rw [hb]
    refine iteF ⟨_, rfl, p, _, dx, _, _, rfl, hp, T.cl_Reader, T.na_Reader_place, rfl, _, _, rfl, rfl, dx, _, hp, (by show 3 < 1000; decide), ?_⟩
    refine q _ (Mod.upd (by simp)) ?_
    show upd _ _ _ _ = _
    rw [upd_same]
    rfl
def spWord (K : PySem.W.Frag) : Sp := fun vs H Q _ => ∃ (p dx tp : Addr) (i b : Nat) (ts : List Tok) (x : List Nat), vs = [.ref p] ∧ RdAt K H p dx tp i b ∧ SgnsAt K H tp ts ∧ ts[i]? = some (.word x) ∧ ∀ H', Mod [p] H H' → RdAt K H' p dx tp (i + 1) b → Q (.str (S x)) H'
theorem ok_word (T : Tx K mg) : Met P w K mg base 3 (aRead K) "word" (spWord K) [] := by
  refine met_ok T.df_Reader_word T.cl_Reader T.me_Reader_word (fun _ _ _ _ _ _ us hl => match us, hl with | [_], _ => rfl) sc_Reader_word (fun vs H Q E h => ?_) (fun f cdv A outer s H vs Q E hr h => ?_)
  · obtain ⟨p, dx, tp, i, b, ts, x, rfl, _⟩ := h
    rfl
  · obtain ⟨p, dx, tp, i, b, ts, x, rfl, hp, hs, ht, q⟩ := h
    have nd := sc_Reader_word.nd
    refine ⟨_, pss_cons (ps_set (i := 1) nd rfl (.inl rfl) (pe_mt0 (ok_here T) hr (by decide) (pv 0))) (pss_cons (ps_if (pt_cmpR op_ne (pe_fld (pv 1) rfl) pe_str (nomark _)) pss_never pss_nil)
      (pss_cons (ps_fldaug (pv 0) pe_int in_add) (pss_one (ps_ret (pe_fld (pv 1) rfl))))), ?_⟩
    refine ⟨_, rfl, p, dx, _, rfl, hp, rfl, p, dx, tp, i, b, ts, _, rfl, hp, hs, ht, fun a hsg => ?_⟩
    obtain ⟨da, r, c, ha⟩ := id hsg
    refine ⟨_, rfl, a, _, da, _, _, rfl, ha, T.cl_Sign, T.na_Sign_kind, rfl, rfl, _, rfl, ?_⟩
    rw [show decide (V.str (Tok.word x).kd = V.str ("word" : Str)) = true from decide_eq_true rfl]
    refine iteF ⟨_, rfl, p, _, dx, _, _, rfl, hp, T.cl_Reader, T.na_Reader_place, rfl, _, _, rfl, rfl, dx, _, hp, (by show 3 < 1000; decide), ?_⟩
    refine ⟨_, rfl, a, _, da, _, _, rfl, (upd_ne (hsg.ne_read hp)).trans ha, T.cl_Sign, T.na_Sign_said, rfl, ?_⟩
    refine q _ (Mod.upd (by simp)) ?_
    show upd _ _ _ _ = _
    rw [upd_same]
    rfl
end
end K46
set_option Elab.async false
set_option linter.all false
set_option maxRecDepth 100000
set_option maxHeartbeats 4000000
/-! The reader, second part: terms, heads. -/
namespace K46
open PySem PySem.Spec PyProof.Rows L2 SX
open C8 (Cal Met Mak pe_c pe_mt pe_mt0 pe_mk fn0 pe_gc pss_cut)
theorem ifF {c : Bool} {A B : Prop} (h : c = false) (x : B) : if c = true then A else B := by
  rw [h, if_neg Bool.false_ne_true]
  exact x
theorem ifT {c : Bool} {A B : Prop} (h : c = true) (x : A) : if c = true then A else B := by
  rw [h, if_pos rfl]
  exact x
theorem kd_num_mark : decide (V.str ("number" : Str) = V.str ("mark" : Str)) = false := by decide +kernel
theorem kd_num_num : decide (V.str ("number" : Str) = V.str ("number" : Str)) = true := by decide +kernel
theorem kd_num_word : (!decide (V.str ("number" : Str) = V.str ("word" : Str))) = true := by decide +kernel
theorem str_tok (x : List Nat) : (Vl.str x).tok.sd = x ∧ decide (V.str (Vl.str x).tok.kd = V.str ("mark" : Str)) = false ∧ decide (V.str (Vl.str x).tok.kd = V.str ("number" : Str)) = false ∧ decide (V.str (Vl.str x).tok.kd = V.str ("name" : Str)) = false ∧
    (bareB x = true → (!decide (V.str (Vl.str x).tok.kd = V.str ("word" : Str))) = false) ∧ (¬ bareB x = true → (!decide (V.str (Vl.str x).tok.kd = V.str ("word" : Str))) = true) := by
  have e : (Vl.str x).tok = if bareB x = true then Tok.word x else Tok.quo x := rfl
  rw [e]
  by_cases h : bareB x = true
  · rw [if_pos h]
    refine ⟨rfl, ?_, ?_, ?_, fun _ => ?_, fun z => absurd h z⟩
    · show decide (V.str ("word" : Str) = V.str ("mark" : Str)) = false
      decide +kernel
    · show decide (V.str ("word" : Str) = V.str ("number" : Str)) = false
      decide +kernel
    · show decide (V.str ("word" : Str) = V.str ("name" : Str)) = false
      decide +kernel
    · show (!decide (V.str ("word" : Str) = V.str ("word" : Str))) = false
      decide +kernel
  · rw [if_neg h]
    refine ⟨rfl, ?_, ?_, ?_, fun z => absurd z h, fun _ => ?_⟩
    · show decide (V.str ("quoted" : Str) = V.str ("mark" : Str)) = false
      decide +kernel
    · show decide (V.str ("quoted" : Str) = V.str ("number" : Str)) = false
      decide +kernel
    · show decide (V.str ("quoted" : Str) = V.str ("name" : Str)) = false
      decide +kernel
    · show (!decide (V.str ("quoted" : Str) = V.str ("word" : Str))) = true
      decide +kernel
theorem sums_kws {x : List Nat} (h : x ∉ kws) : x ∉ sumsL := fun z => h (by
  have : ∀ y ∈ sumsL, y ∈ kws := by decide
  exact this x z)
section
variable {P : Program} {w : World} {K : PySem.W.Frag} {mg : Str → Option Value} {base : Heap}
def spTerm (K : PySem.W.Frag) : Sp := fun vs H Q _ => ∃ (p dx tp : Addr) (i b : Nat) (ts : List Tok) (v : Vl), vs = [.ref p] ∧ RdAt K H p dx tp i b ∧ SgnsAt K H tp ts ∧ ts[i]? = some v.tok ∧ v.Ok ∧
  ∀ (H' : Hp) (a : Addr), Mod [p] H H' → RdAt K H' p dx tp (i + 1) b → TmAt K H' a v → Q (.ref a) H'
theorem ok_term (T : Tx K mg) : Met P w K mg base 4 (aRead K) "term" (spTerm K) [] := by
  refine met_ok T.df_Reader_term T.cl_Reader T.me_Reader_term (fun _ _ _ _ _ _ us hl => match us, hl with | [_], _ => rfl) sc_Reader_term (fun vs H Q E h => ?_) (fun f cdv A outer s H vs Q E hr h => ?_)
  · obtain ⟨p, dx, tp, i, b, ts, v, rfl, _⟩ := h
    rfl
  · obtain ⟨p, dx, tp, i, b, ts, v, rfl, hp, hs, ht, hv, q⟩ := h
    have nd := sc_Reader_term.nd
    refine ⟨_, pss_cons (ps_set (i := 1) nd rfl (.inl rfl) (pe_mt0 (ok_here T) hr (by decide) (pv 0)))
      (pss_cons (ps_if (pt_cmpR op_eq (pe_fld (pv 1) rfl) pe_str (nomark _)) pss_never pss_nil)
      (pss_cons (ps_fldaug (pv 0) pe_int in_add)
      (pss_cons (ps_if (pt_cmpR op_eq (pe_fld (pv 1) rfl) pe_str (nomark _)) (pss_one (ps_ret (pe_c (ok_val T) hr (by decide) (by rfl) (pa_cons (pe_callTy call_int_str (by rfl) T.fr_int (by decide +kernel) (pa_cons (pe_fld (pv 1) rfl) pa_nil)) pa_nil)))) pss_nil)
      (pss_cons (ps_if (pt_cmpR op_eq (pe_fld (pv 1) rfl) pe_str (nomark _)) pss_never pss_nil)
      (pss_one (ps_ret (pe_c (ok_val T) hr (by decide) (by rfl) (pa_cons (pe_fld (pv 1) rfl) pa_nil)))))))), ?_⟩
    refine ⟨_, rfl, p, dx, _, rfl, hp, rfl, p, dx, tp, i, b, ts, _, rfl, hp, hs, ht, fun a hsg => ?_⟩
    obtain ⟨da, r, c, ha⟩ := id hsg
    have m1 : Mod [p] H (upd H p (.ins (aRead K) dx (rf tp ((i + 1 : Nat) : Int) (b : Nat)))) := Mod.upd (by simp)
    have hp1 : RdAt K (upd H p (.ins (aRead K) dx (rf tp ((i + 1 : Nat) : Int) (b : Nat)))) p dx tp (i + 1) b := upd_same
    have ha1 : (upd H p (.ins (aRead K) dx (rf tp ((i + 1 : Nat) : Int) (b : Nat)))) a = some (.ins (aSign K) da (sf v.tok.kd (S v.tok.sd) r c)) := (upd_ne (hsg.ne_read hp)).trans ha
    cases v with
    | int n =>
      refine ⟨_, rfl, a, _, da, _, _, rfl, ha, T.cl_Sign, T.na_Sign_kind, rfl, rfl, _, rfl, ifF kd_num_mark ?_⟩
      refine ⟨_, rfl, p, _, dx, _, _, rfl, hp, T.cl_Reader, T.na_Reader_place, rfl, _, _, rfl, rfl, dx, _, hp, (by show 3 < 1000; decide), ?_⟩
      refine ⟨_, rfl, a, _, da, _, _, rfl, ha1, T.cl_Sign, T.na_Sign_kind, rfl, rfl, _, rfl, ifT kd_num_num ?_⟩
      refine ⟨_, rfl, a, _, da, _, _, rfl, ha1, T.cl_Sign, T.na_Sign_said, rfl, _, n, rfl, int_digits hv, ?_, .int n, rfl, fun H2 t sm nt htm => ?_⟩
      · show (S (digits n)).length ≤ 640
        rw [S_len]
        exact Nat.le_trans (digits_len hv) (by decide)
      · exact q H2 t (m1.trans (Mod.of_same sm)) (sm _ _ hp1) htm
    | str x =>
      obtain ⟨e1, e2, e3, e4, _, _⟩ := str_tok x
      refine ⟨_, rfl, a, _, da, _, _, rfl, ha, T.cl_Sign, T.na_Sign_kind, rfl, rfl, _, rfl, ifF e2 ?_⟩
      refine ⟨_, rfl, p, _, dx, _, _, rfl, hp, T.cl_Reader, T.na_Reader_place, rfl, _, _, rfl, rfl, dx, _, hp, (by show 3 < 1000; decide), ?_⟩
      refine ⟨_, rfl, a, _, da, _, _, rfl, ha1, T.cl_Sign, T.na_Sign_kind, rfl, rfl, _, rfl, ifF e3 ?_⟩
      refine ⟨_, rfl, a, _, da, _, _, rfl, ha1, T.cl_Sign, T.na_Sign_kind, rfl, rfl, _, rfl, ifF e4 ?_⟩
      refine ⟨_, rfl, a, _, da, _, _, rfl, ha1, T.cl_Sign, T.na_Sign_said, rfl, .str x, ?_, fun H2 t sm nt htm => ?_⟩
      · rw [e1]
        rfl
      · exact q H2 t (m1.trans (Mod.of_same sm)) (sm _ _ hp1) htm
def spSummed (K : PySem.W.Frag) : Sp := fun vs H Q _ => ∃ (p dx tp : Addr) (i b : Nat) (ts : List Tok) (v : Vl), vs = [.ref p] ∧ RdAt K H p dx tp i b ∧ SgnsAt K H tp ts ∧ ts[i]? = some v.tok ∧ Q (.bl false) H
theorem ok_summed (T : Tx K mg) : Met P w K mg base 3 (aRead K) "summed_here" (spSummed K) [] := by
  refine met_ok T.df_Reader_summed_here T.cl_Reader T.me_Reader_summed_here (fun _ _ _ _ _ _ us hl => match us, hl with | [_], _ => rfl) sc_Reader_summed_here (fun vs H Q E h => ?_) (fun f cdv A outer s H vs Q E hr h => ?_)
  · obtain ⟨p, dx, tp, i, b, ts, v, rfl, _⟩ := h
    rfl
  · obtain ⟨p, dx, tp, i, b, ts, v, rfl, hp, hs, ht, q⟩ := h
    have nd := sc_Reader_summed_here.nd
    refine ⟨_, pss_cons (ps_set (i := 1) nd rfl (.inl rfl) (pe_mt0 (ok_here T) hr (by decide) (pv 0)))
      (pss_cons (ps_if (PW.pt (pw_or (pt_cmpR op_ne (pe_fld (pv 1) rfl) pe_str (nomark _)) (pw_or (pt_cmpR op_notIn_seq (pe_fld (pv 1) rfl) (pe_glob (v := .ref (He.ga K "SUMS")) rfl T.mg_SUMS rfl) rfl) (pw_or1 pt_never)))) (pss_one (ps_ret pe_bl)) pss_nil)
      pss_never), ?_⟩
    refine ⟨_, rfl, p, dx, _, rfl, hp, rfl, p, dx, tp, i, b, ts, _, rfl, hp, hs, ht, fun a hsg => ?_⟩
    obtain ⟨da, r, c, ha⟩ := id hsg
    cases v with
    | int n => exact ⟨_, rfl, a, _, da, _, _, rfl, ha, T.cl_Sign, T.na_Sign_kind, rfl, rfl, _, rfl, ifT kd_num_word q⟩
    | str x =>
      obtain ⟨e1, _, _, _, e5, e6⟩ := str_tok x
      refine ⟨_, rfl, a, _, da, _, _, rfl, ha, T.cl_Sign, T.na_Sign_kind, rfl, rfl, _, rfl, ?_⟩
      by_cases hb : bareB x = true
      · have hn := sums_kws (bare_plain hb).2
        refine ifF (e5 hb) ⟨_, rfl, a, _, da, _, _, rfl, ha, T.cl_Sign, T.na_Sign_said, rfl, _, _, rfl, .inr (T.tu_SUMS _), rfl, by rw [sums_eq]; exact flat_S _, _, rfl, ?_⟩
        refine ifT ?_ q
        rw [if_pos rfl, e1, sums_eq, inV_S, decide_eq_false hn]
        rfl
      · exact ifT (e6 hb) q
end
end K46
set_option Elab.async false
set_option linter.all false
set_option maxRecDepth 100000
set_option maxHeartbeats 4000000
/-! The reader, third part: heads. -/
namespace K46
open PySem PySem.Spec PyProof.Rows L2 SX
open C8 (Cal Met Mak pe_c pe_mt pe_mt0 pe_mk fn0 pe_gc pss_cut)
theorem hereB_mk {ts : List Tok} {i c : Nat} {m : Str} {l : List Nat} (h : ts[i]? = some (.mk c)) (hm : m = S l) : hereB ts i m = decide ([c] = l) := by
  unfold hereB
  rw [h, hm]
  show (decide (("mark" : Str) = "mark") && decide (S [c] = S l)) = decide ([c] = l)
  rw [decide_eq_true rfl, Bool.true_and]
  by_cases e : [c] = l
  · rw [decide_eq_true e, decide_eq_true (congrArg S e)]
  · rw [decide_eq_false e, decide_eq_false fun z => e (S_inj z)]
theorem hereB_word {ts : List Tok} {i : Nat} {x : List Nat} {m : Str} (h : ts[i]? = some (.word x)) : hereB ts i m = false := by
  unfold hereB
  rw [h]
  show (decide (("word" : Str) = "mark") && decide (S x = m)) = false
  rw [show decide (("word" : Str) = "mark") = false by decide +kernel, Bool.false_and]
theorem TmsL.read {K : PySem.W.Frag} {H H1 : Hp} {as : List Addr} {us : List Vl} {p dx tp : Addr} {i b : Nat} (h : TmsL K H as us) (hp : RdAt K H p dx tp i b) (m : Mod [p] H H1) : TmsL K H1 as us := h.keep fun a v q => q.mod m (by
  rw [List.mem_singleton]
  exact q.ne_read hp)
theorem SgnsAt.rd {K : PySem.W.Frag} {H H1 : Hp} {ts : List Tok} {p dx tp q : Addr} {i b : Nat} (h : SgnsAt K H tp ts) (hp : RdAt K H p dx q i b) (m : Mod [p] H H1) : SgnsAt K H1 tp ts := SgnsAt.read h hp m
theorem lst_rd {K : PySem.W.Frag} {H H1 : Hp} {xs : List V} {l p dx tp : Addr} {i b : Nat} (h : H l = some (.lst xs)) (hp : RdAt K H p dx tp i b) (m : Mod [p] H H1) : H1 l = some (.lst xs) := m _ _ h (by
  rw [List.mem_singleton]
  exact ne_of h hp fun z => nomatch z)
/-- the place behind j terms -/
def plc (j : Nat) : Nat := if j = 0 then 2 else 2 * j + 1
structure HdInv (K : PySem.W.Frag) (H : Hp) (p dx tp : Addr) (b : Nat) (l : Addr) (us : List Vl) (j : Nat) (as : List Addr) (H' : Hp) : Prop where
  md : Mod [p] H H'
  rd : RdAt K H' p dx tp (plc j) b
  ls : H' l = some (.lst (as.map V.ref))
  tm : TmsL K H' as (us.take j)
section
variable {P : Program} {w : World} {K : PySem.W.Frag} {mg : Str → Option Value} {base : Heap}
def spHead (K : PySem.W.Frag) : Sp := fun vs H Q _ => ∃ (p dx tp : Addr) (b : Nat) (nm : List Nat) (us : List Vl), vs = [.ref p] ∧ RdAt K H p dx tp 0 b ∧ SgnsAt K H tp (factToks nm us) ∧ (∀ v ∈ us, v.Ok) ∧ us.length ≤ 100 ∧
  ∀ (H' : Hp) (q l : Addr) (as : List Addr), Mod [p] H H' → RdAt K H' p dx tp (if us = [] then 1 else 2 * us.length + 2) b → H' q = some (.tup [.str (S nm), .ref l, .non]) → H' l = some (.lst (as.map V.ref)) → TmsL K H' as us → Q (.ref q) H'
theorem ok_head (T : Tx K mg) : Met P w K mg base 5 (aRead K) "head" (spHead K) [] := by
  refine met_ok T.df_Reader_head T.cl_Reader T.me_Reader_head (fun _ _ _ _ _ _ us hl => match us, hl with | [_], _ => rfl) sc_Reader_head (fun vs H Q E h => ?_) (fun f cdv A outer s H vs Q E hr h => ?_)
  · obtain ⟨p, dx, tp, b, nm, us, rfl, _⟩ := h
    rfl
  · obtain ⟨p, dx, tp, b, nm, us, rfl, hp, hs, hv, hus, q⟩ := h
    have nd := sc_Reader_head.nd
    refine ⟨_, pss_cons (ps_par3 (i := 1) (j := 2) (l := 3) rfl nd rfl rfl rfl (by decide) (by decide) (by decide) rfl rfl rfl (pa_cons (pe_mt0 (ok_word T) hr (by decide) (pv 0)) (pa_cons (pe_lst pa_nil) (pa_cons pe_non pa_nil))) rfl)
      (pss_cons (ps_if (pt_val (pe_mt (ok_is_here T) hr (by decide) (pv 0) (pa_cons pe_str pa_nil)))
        (pss_cons (ps_expr (pe_mt (ok_take T) hr (by decide) (pv 0) (pa_cons pe_str pa_nil)))
          (pss_cons (ps_while PassesOwn.never (PW.pt (pw_or (pt_cmpR (op_eqNil hr.units) (pv 2) (pe_lst pa_nil) (nomark _)) (pw_or1 (pt_val (pe_mt (ok_is_here T) hr (by decide) (pv 0) (pa_cons pe_str pa_nil))))))
            (pss_cut (ps_if (pt_cmpR (op_neNil hr.units) (pv 2) (pe_lst pa_nil) (nomark _)) (pss_one (ps_expr (pe_mt (ok_take T) hr (by decide) (pv 0) (pa_cons pe_str pa_nil)))) pss_nil)
              (pss_one (ps_if (pt_val (pe_mt0 (ok_summed T) hr (by decide) (pv 0))) pss_never
                (pss_one (ps_expr (pe_bm PySem.F.plainAttrs_list PySem.F.slot_list_append PySem.F.type_list_append mt_append (pv 2) (pa_cons (pe_mt0 (ok_term T) hr (by decide) (pv 0)) pa_nil))))))))
          (pss_one (ps_expr (pe_mt (ok_take T) hr (by decide) (pv 0) (pa_cons pe_str pa_nil)))))) pss_nil)
      (pss_one (ps_ret (pe_tup (pa_cons (pv 1) (pa_cons (pv 2) (pa_cons (pv 3) pa_nil))))))), ?_⟩
    -- name, terms, summed = self.word(), [], None
    refine ⟨_, rfl, p, dx, _, rfl, hp, rfl, p, dx, tp, 0, b, _, nm, rfl, hp, hs, ft_name, fun H1 m1 r1 => ⟨Nat.zero_le _, fun l hl => ⟨_, _, _, rfl, ?_⟩⟩⟩
    have m2 : Mod [p] H (upd H1 l (.lst [])) := m1.trans (Mod.new hl)
    have hlp : l ≠ p := fun e => by
      have r1' : H1 p = some (.ins (aRead K) dx (rf tp ((0 + 1 : Nat) : Int) (b : Nat))) := r1
      rw [e, r1'] at hl
      cases hl
    have hl0 : H l = none := by
      cases z : H l with
      | none => rfl
      | some o =>
        rw [m1 _ _ z (by simp [hlp])] at hl
        cases hl
    have r2 : RdAt K (upd H1 l (.lst [])) p dx tp 1 b := (upd_ne hlp.symm).trans r1
    have s2 := hs.rd hp m2
    refine ⟨_, rfl, p, dx, _, rfl, r2, rfl, p, dx, tp, 1, b, _, _, rfl, r2, s2, _, rfl, ?_⟩
    -- the end
    have fin : ∀ (H' : Hp) (as : List Addr), Mod [p] H H' → RdAt K H' p dx tp (if us = [] then 1 else 2 * us.length + 2) b → H' l = some (.lst (as.map V.ref)) → TmsL K H' as us →
        (tRet (tTup (tCons (tVar 1) (tCons (tVar 2) (tCons (tVar 3) tNil))))) { nx := fun _ H' => Q .non H', rt := Q } [some (.ref p), some (.str (S nm)), some (.ref l), some .non] H' := fun H' as md rd hls htm => by
      refine ⟨_, rfl, _, rfl, _, rfl, (by show 3 ≤ sizeLine; decide), fun t ht => ?_⟩
      have sm : Same H' (upd H' t (.tup [.str (S nm), .ref l, .non])) := same_new ht
      exact q _ t l as (md.trans (Mod.of_same sm)) (sm _ _ rd) upd_same (sm _ _ hls) (htm.same sm)
    by_cases hne : us = []
    · subst hne
      have h1 : (factToks nm [])[1]? = some (.mk 46) := rfl
      refine ifF ?_ ?_
      · rw [hereB_mk h1 lit_open]
        decide
      · exact fin _ [] m2 r2 upd_same .nil
    · have h1 := ft_open (nm := nm) hne
      refine ifT ?_ ?_
      · rw [hereB_mk h1 lit_open]
        decide
      -- self.take('(')
      refine ⟨_, rfl, p, dx, _, rfl, r2, rfl, p, dx, tp, 1, b, _, _, rfl, r2, s2, by rw [hereB_mk h1 lit_open]; decide, fun H3 m3 r3 => ?_⟩
      have ls3 : H3 l = some (.lst []) := lst_rd upd_same r2 m3
      refine ⟨fun m σ H' => ∃ (j : Nat) (as : List Addr), m = us.length - j ∧ j ≤ us.length ∧ σ = [some (.ref p), some (.str (S nm)), some (.ref l), some .non] ∧ HdInv K H p dx tp b l us j as H', ⟨us.length, 0, [], by omega, Nat.zero_le _, rfl, m2.trans m3, r3, ls3, by rw [List.take_zero]; exact .nil⟩, ?_⟩
      rintro m σ H' ⟨j, as, rfl, hj, rfl, I⟩
      obtain ⟨md, rd, ls, tm⟩ := id I
      have sg := hs.rd hp md
      have hasl : as.length = j := by rw [tm.1, List.length_take]; omega
      -- terms == [] or self.is_here(',')
      refine ⟨_, rfl, Nat.zero_le _, fun n0 hn0 => ?_⟩
      have sm0 : Same H' (upd H' n0 (.lst [])) := same_new hn0
      refine ⟨l, n0, _, rfl, rfl, SqL.of (sm0 _ _ ls), SqL.of upd_same, _, rfl, ?_⟩
      rw [if_neg Bool.false_ne_true]
      have I0 : HdInv K H p dx tp b l us j as (upd H' n0 (.lst [])) := ⟨md.trans (Mod.of_same sm0), sm0 _ _ rd, sm0 _ _ ls, tm.same sm0⟩
      generalize upd H' n0 (.lst []) = H4 at I0
      obtain ⟨md4, rd4, ls4, tm4⟩ := id I0
      have sg4 := hs.rd hp md4
      -- one more term
      have turn : j < us.length → ∃ N : L2.St → Hp → Prop, (∀ σ' H', N σ' H' → ∃ m', m' < us.length - j ∧ ∃ (j : Nat) (as : List Addr), m' = us.length - j ∧ j ≤ us.length ∧ σ' = [some (.ref p), some (.str (S nm)), some (.ref l), some .non] ∧ HdInv K H p dx tp b l us j as H') ∧
          (C8.tCut (tIfS (tTest (tOp (rNil K true) (tVar 2) (tLst tNil))) (tDrop (tMeth (aRead K) "take" (spTake K) [] C8.E0 (tVar 0) (tCons (tC (.str ",")) tNil))) tNext)
            (tIfS (tB (tMeth (aRead K) "summed_here" (spSummed K) [] C8.E0 (tVar 0) tNil)) tNever (tDrop (tBM K "list" rAppend (tVar 2) (tCons (tMeth (aRead K) "term" (spTerm K) [] C8.E0 (tVar 0) tNil) tNil)))))
            { nx := N, rt := Q, ct := N, bk := fun _ _ => True } [some (.ref p), some (.str (S nm)), some (.ref l), some .non] H4 := fun hlt => by
        obtain ⟨v, hvj⟩ : ∃ v, us[j]? = some v := ⟨us[j], List.getElem?_eq_getElem hlt⟩
        refine ⟨fun σ' H' => ∃ as2, σ' = [some (.ref p), some (.str (S nm)), some (.ref l), some .non] ∧ HdInv K H p dx tp b l us (j + 1) as2 H', fun σ' H' hN => ?_, ?_⟩
        · obtain ⟨as2, e1, e2⟩ := hN
          exact ⟨us.length - (j + 1), by omega, j + 1, as2, rfl, hlt, e1, e2⟩
        refine ⟨fun σ' H' => σ' = [some (.ref p), some (.str (S nm)), some (.ref l), some .non] ∧ Mod [p] H H' ∧ RdAt K H' p dx tp (2 * j + 2) b ∧ H' l = some (.lst (as.map V.ref)) ∧ TmsL K H' as (us.take j), ?_, ?_⟩
        · refine ⟨_, rfl, Nat.zero_le _, fun n1 hn1 => ?_⟩
          have sm1 : Same H4 (upd H4 n1 (.lst [])) := same_new hn1
          have md5 : Mod [p] H (upd H4 n1 (.lst [])) := md4.trans (Mod.of_same sm1)
          have rd5 : RdAt K (upd H4 n1 (.lst [])) p dx tp (plc j) b := sm1 _ _ rd4
          have ls5 := sm1 _ _ ls4
          refine ⟨l, n1, _, rfl, rfl, SqL.of ls5, SqL.of upd_same, _, rfl, ?_⟩
          rw [if_pos rfl]
          cases j with
          | zero =>
            have ea : as = [] := List.length_eq_zero_iff.mp hasl
            subst ea
            exact ifF rfl ⟨rfl, md5, rd5, ls5, tm4.same sm1⟩
          | succ j =>
            have ea : (!(as.map V.ref).isEmpty) = true := by
              cases as with
              | nil => simp at hasl
              | cons a r => rfl
            have hsep : (factToks nm us)[plc (j + 1)]? = some (.mk 44) := by
              have := ft_sep (nm := nm) hne (j := j) hlt
              rw [show plc (j + 1) = 2 * j + 3 by unfold plc; rw [if_neg (by omega)]; omega]
              exact this
            refine ifT ea ⟨_, rfl, p, dx, _, rfl, rd5, rfl, p, dx, tp, _, b, _, _, rfl, rd5, hs.rd hp md5, by rw [hereB_mk hsep lit_comma]; decide, fun H6 m6 r6 => ?_⟩
            refine ⟨rfl, md5.trans m6, ?_, lst_rd ls5 rd5 m6, (tm4.same sm1).read rd5 m6⟩
            rw [show 2 * (j + 1) + 2 = plc (j + 1) + 1 by unfold plc; rw [if_neg (by omega)]]
            exact r6
        · rintro σ' H5 ⟨rfl, md5, rd5, ls5, tm5⟩
          have htok := ft_val (nm := nm) hne hvj
          refine ⟨_, rfl, p, dx, _, rfl, rd5, rfl, p, dx, tp, _, b, _, v, rfl, rd5, hs.rd hp md5, htok, _, rfl, iteF ?_⟩
          refine ⟨_, rfl, .inl ⟨rfl, _, SqL.of ls5⟩, _, rfl, p, dx, _, rfl, rd5, rfl, p, dx, tp, _, b, _, v, rfl, rd5, hs.rd hp md5, htok, hv v (List.mem_of_getElem? hvj), fun H6 a m6 r6 htm => ?_⟩
          have ls6 := lst_rd ls5 rd5 m6
          refine ⟨l, _, _, rfl, rfl, ls6, ?_, as ++ [a], rfl, ?_, ?_, ?_, ?_⟩
          · rw [List.length_map, hasl]
            exact small1000 (by omega)
          · intro b' o e n
            have nb : b' ≠ l := ne_of_none e hl0
            rw [upd_ne nb]
            exact m6 _ _ (md5 _ _ e n) n
          · refine (upd_ne hlp.symm).trans ?_
            have e : plc (j + 1) = 2 * j + 2 + 1 := by
              unfold plc
              rw [if_neg (by omega)]
              omega
            rw [e]
            exact r6
          · rw [upd_same, List.map_append]
            rfl
          · have e : us.take (j + 1) = us.take j ++ [v] := by
              rw [List.take_add_one, hvj]
              rfl
            rw [e]
            have k : ∀ b u, TmAt K H6 b u → TmAt K (upd H6 l (.lst (as.map V.ref ++ [.ref a]))) b u := fun b u h => h.mod (A := [l]) (Mod.upd (by simp)) (by
              rw [List.mem_singleton]
              exact h.ne_lst ls6)
            exact TmsL.snoc ((tm5.read rd5 m6).keep k) (k a v htm)
      by_cases hj0 : j = 0
      · subst hj0
        have ea : as = [] := List.length_eq_zero_iff.mp hasl
        subst ea
        exact ifT rfl (turn (List.length_pos_iff.mpr hne))
      · have ea : (as.map V.ref).isEmpty = false := by
          cases as with
          | nil => exact absurd hasl.symm hj0
          | cons a r => rfl
        refine ifF ea ⟨_, rfl, p, dx, _, rfl, rd4, rfl, p, dx, tp, _, b, _, _, rfl, rd4, sg4, _, rfl, ?_⟩
        have epl : plc j = 2 * j + 1 := by
          unfold plc
          rw [if_neg hj0]
        by_cases hjn : j < us.length
        · have hsep : (factToks nm us)[plc j]? = some (.mk 44) := by
            have := ft_sep (nm := nm) hne (j := j - 1) (by omega)
            rw [epl, show 2 * j + 1 = 2 * (j - 1) + 3 by omega]
            exact this
          refine ifT ?_ (turn hjn)
          rw [hereB_mk hsep lit_comma]
          decide
        · have ej : j = us.length := by omega
          have hcl : (factToks nm us)[plc j]? = some (.mk 41) := by
            rw [epl, ej]
            exact ft_close hne
          refine ifF ?_ ?_
          · rw [hereB_mk hcl lit_comma]
            decide
          -- self.take(')')
          refine ⟨_, rfl, p, dx, _, rfl, rd4, rfl, p, dx, tp, _, b, _, _, rfl, rd4, sg4, by rw [hereB_mk hcl lit_close]; decide, fun H6 m6 r6 => ?_⟩
          refine fin H6 as (md4.trans m6) ?_ (lst_rd ls4 rd4 m6) ?_
          · rw [if_neg hne, ← ej]
            rw [show 2 * j + 2 = plc j + 1 by rw [epl]]
            exact r6
          · have t6 := tm4.read rd4 m6
            rw [ej, List.take_length] at t6
            exact t6
end
end K46
set_option Elab.async false
set_option linter.all false
set_option maxRecDepth 100000
set_option maxHeartbeats 4000000
/-! Clauses read, texts read. -/
namespace K46
open PySem PySem.Spec PyProof.Rows L2 SX
open C8 (Cal Met Mak pe_c pe_mt pe_mt0 pe_mk fn0 pe_gc pss_cut)
/-- a clause that is a fact -/
def ClAt (K : PySem.W.Frag) (H : Hp) (c : Addr) (nm : Str) (us : List Vl) : Prop := ∃ (dx ru bd : Addr) (as : List Addr), H c = some (.ins (aClause K) dx (lf ru bd)) ∧ RuleAt K H ru nm as us
theorem ClAt.same {K : PySem.W.Frag} {H H' : Hp} {c : Addr} {nm : Str} {us : List Vl} (h : ClAt K H c nm us) (m : Same H H') : ClAt K H' c nm us := by
  obtain ⟨dx, ru, bd, as, h1, h2⟩ := h
  exact ⟨dx, ru, bd, as, m _ _ h1, h2.same m⟩
def lenT (us : List Vl) : Nat := if us = [] then 2 else 2 * us.length + 3
theorem ft_length {nm : List Nat} {us : List Vl} : (factToks nm us).length = lenT us := by
  unfold lenT
  by_cases h : us = []
  · subst h
    rfl
  · rw [if_neg h, ft_len h]
theorem ft_last {nm : List Nat} {us : List Vl} : (factToks nm us)[if us = [] then 1 else 2 * us.length + 2]? = some (.mk 46) := by
  by_cases h : us = []
  · subst h
    rfl
  · rw [if_neg h, ft_dot h]
theorem last_len {us : List Vl} : (if us = [] then 1 else 2 * us.length + 2) + 1 = lenT us := by
  unfold lenT
  split
  · rfl
  · omega
section
variable {P : Program} {w : World} {K : PySem.W.Frag} {mg : Str → Option Value} {base : Heap}
def spClause (K : PySem.W.Frag) : Sp := fun vs H Q _ => ∃ (p dx tp : Addr) (b : Nat) (nm : List Nat) (us : List Vl), vs = [.ref p] ∧ RdAt K H p dx tp 0 b ∧ SgnsAt K H tp (factToks nm us) ∧ (∀ v ∈ us, v.Ok) ∧ us.length ≤ 100 ∧
  ∀ (H' : Hp) (c : Addr), Mod [p] H H' → RdAt K H' p dx tp (lenT us) 0 → ClAt K H' c (S nm) us → Q (.ref c) H'
theorem ok_clause (T : Tx K mg) : Met P w K mg base 6 (aRead K) "clause" (spClause K) [] := by
  refine met_ok T.df_Reader_clause T.cl_Reader T.me_Reader_clause (fun _ _ _ _ _ _ us hl => match us, hl with | [_], _ => rfl) sc_Reader_clause (fun vs H Q E h => ?_) (fun f cdv A outer s H vs Q E hr h => ?_)
  · obtain ⟨p, dx, tp, b, nm, us, rfl, _⟩ := h
    rfl
  · obtain ⟨p, dx, tp, b, nm, us, rfl, hp, hs, hv, hus, q⟩ := h
    have nd := sc_Reader_clause.nd
    refine ⟨_, pss_cons (ps_fld (pv 0) pe_int rfl)
      (pss_cons (ps_if (PW.pt (pw_or (pt_val (pe_mt (ok_is_here T) hr (by decide) (pv 0) (pa_cons pe_str pa_nil))) (pw_or1 (pt_val (pe_mt (ok_is_here T) hr (by decide) (pv 0) (pa_cons pe_str pa_nil)))))) pss_never pss_nil)
      (pss_cons (ps_asg (pe_mt0 (ok_head T) hr (by decide) (pv 0)) (pg_tup rfl (pgs_cons (pg_name (i := 3) nd rfl (.inl rfl)) (pgs_cons (pg_name (i := 4) nd rfl (.inl rfl)) (pgs_cons (pg_name (i := 5) nd rfl (.inl rfl)) pgs_nil)))))
      (pss_cons (ps_set (i := 2) nd rfl (.inl rfl) (pe_lst pa_nil))
      (pss_cons (ps_if (pt_val (pe_mt (ok_is_here T) hr (by decide) (pv 0) (pa_cons pe_str pa_nil))) pss_never pss_nil)
      (pss_cons (ps_expr (pe_mt (ok_take T) hr (by decide) (pv 0) (pa_cons pe_str pa_nil)))
      (pss_cons (ps_if (pt_cmp (pc_isN (pv 5)) rfl) (pss_one (ps_ret (pe_mk (ok_Clause T) hr (by decide) (by rfl) (pa_cons pe_str (pa_cons (pe_mk (ok_Rule T) hr (by decide) (by rfl) (pa_cons (pv 3) (pa_cons (pv 4) (pa_cons (pv 2) pa_nil)))) (pa_cons (pv 2) pa_nil)))))) pss_nil)
      pss_never)))))), ?_⟩
    -- self.bare = 0
    refine ⟨_, rfl, p, _, dx, _, rfl, hp, T.cl_Reader, T.na_Reader_bare, (by show 3 < 1000; decide), ?_⟩
    have m1 : Mod [p] H (upd H p (.ins (aRead K) dx (rf tp ((0 : Nat) : Int) ((0 : Nat) : Int)))) := Mod.upd (by simp)
    have r1 : RdAt K (upd H p (.ins (aRead K) dx (rf tp ((0 : Nat) : Int) ((0 : Nat) : Int)))) p dx tp 0 0 := upd_same
    have s1 := hs.rd hp m1
    -- '?-', '!'
    refine ⟨_, rfl, p, dx, _, rfl, r1, rfl, p, dx, tp, 0, 0, _, _, rfl, r1, s1, _, rfl, ifF (hereB_word ft_name) ?_⟩
    refine ⟨_, rfl, p, dx, _, rfl, r1, rfl, p, dx, tp, 0, 0, _, _, rfl, r1, s1, _, rfl, ifF (hereB_word ft_name) ?_⟩
    -- the head
    refine ⟨_, rfl, p, dx, _, rfl, r1, rfl, p, dx, tp, 0, nm, us, rfl, r1, s1, hv, hus, fun H2 t l as m2 r2 ht hl htm => ?_⟩
    refine ⟨t, _, rfl, SqT.of ht, rfl, _, _, rfl, _, _, rfl, _, _, rfl, rfl, ?_⟩
    -- body = []
    refine ⟨Nat.zero_le _, fun bl hbl => ?_⟩
    have sm3 : Same H2 (upd H2 bl (.lst [])) := same_new hbl
    have r3 : RdAt K (upd H2 bl (.lst [])) p dx tp _ 0 := sm3 _ _ r2
    have s3 := (s1.rd r1 m2).same sm3
    refine ⟨_, rfl, p, dx, _, rfl, r3, rfl, p, dx, tp, _, 0, _, _, rfl, r3, s3, _, rfl, ifF (by rw [hereB_mk ft_last lit_if]; decide) ?_⟩
    refine ⟨_, rfl, p, dx, _, rfl, r3, rfl, p, dx, tp, _, 0, _, _, rfl, r3, s3, by rw [hereB_mk ft_last lit_dot]; decide, fun H4 m4 r4 => ?_⟩
    rw [last_len] at r4
    have l4 : H4 l = some (.lst (as.map V.ref)) := lst_rd (sm3 _ _ hl) r3 m4
    have b4 : H4 bl = some (.lst []) := lst_rd upd_same r3 m4
    have t4 : TmsL K H4 as us := (htm.same sm3).read r3 m4
    -- summed is None
    refine ⟨_, rfl, _, rfl, iteT ?_⟩
    -- Clause('rule', Rule(name, terms, body), body)
    refine ⟨_, rfl, _, rfl, _, rfl, fun ru rd nr nrd nne => ?_⟩
    have sm5 : Same H4 (upd (upd H4 rd (.own ru)) ru (.ins (aRule K) rd [])) := same_made nr nrd
    refine ⟨ru, rd, S nm, l, bl, as, us, rfl, upd_same, SqL.of (sm5 _ _ l4), t4.same sm5, SqL.of (sm5 _ _ b4), fun H6 m6 hru => ⟨rfl, ?_⟩⟩
    have sm6 : Same H4 H6 := fun z o e => m6 _ _ (sm5 _ _ e) (by
      rw [List.mem_singleton]
      exact ne_of_none e nr)
    refine ⟨_, rfl, fun c cd nc ncd nne2 => ?_⟩
    have sm7 : Same H6 (upd (upd H6 cd (.own c)) c (.ins (aClause K) cd [])) := same_made nc ncd
    refine ⟨c, cd, ru, bl, rfl, upd_same, SqL.of (sm7 _ _ (sm6 _ _ b4)), fun H8 bd m8 hc => ⟨rfl, ?_⟩⟩
    have sm8 : Same H6 H8 := fun z o e => m8 _ _ (sm7 _ _ e) (by
      rw [List.mem_singleton]
      exact ne_of_none e nc)
    refine q H8 c ?_ (sm8 _ _ (sm6 _ _ r4)) ⟨cd, ru, bd, as, hc, hru.same sm8⟩
    exact ((((m1.trans m2).trans (Mod.of_same sm3)).trans m4).trans (Mod.of_same sm6)).trans (Mod.of_same sm8)
/-- a name that may be told -/
def NmOk (nm : List Nat) : Prop := (∃ c w', nm = c :: w' ∧ c ∈ smalls ∧ ∀ x ∈ w', x ∈ inner) ∧ nm.length ≤ 1000
theorem tok_sd_len {v : Vl} (h : v.Ok) : v.tok.sd.length ≤ 1000 := by
  cases v with
  | int n => exact Nat.le_trans (digits_len h) (by decide)
  | str x =>
    rw [(str_tok x).1]
    exact Nat.le_trans h.1 (by decide)
theorem argToks_sd : ∀ {us : List Vl}, (∀ v ∈ us, v.Ok) → ∀ t ∈ argToks us, t.sd.length ≤ 1000
  | [], _, t, ht => by cases ht
  | [v], h, t, ht => by
    have e : t = v.tok := List.mem_singleton.mp ht
    rw [e]
    exact tok_sd_len (h v (List.mem_cons_self ..))
  | v :: u :: r, h, t, ht => by
    have ht2 : t ∈ v.tok :: .mk 44 :: argToks (u :: r) := ht
    rcases List.mem_cons.mp ht2 with e | ht3
    · rw [e]
      exact tok_sd_len (h v (List.mem_cons_self ..))
    · rcases List.mem_cons.mp ht3 with e | ht4
      · rw [e]
        show ([44] : List Nat).length ≤ 1000
        decide
      · exact argToks_sd (us := u :: r) (fun x hx => h x (List.mem_cons_of_mem _ hx)) t ht4
theorem factToks_sd {nm : List Nat} {us : List Vl} (hn : nm.length ≤ 1000) (h : ∀ v ∈ us, v.Ok) : ∀ t ∈ factToks nm us, t.sd.length ≤ 1000 := fun t ht => by
  have mk : ∀ c, (Tok.mk c).sd.length ≤ 1000 := fun c => by
    show ([c] : List Nat).length ≤ 1000
    exact Nat.succ_le_succ (Nat.zero_le _)
  unfold factToks at ht
  rcases List.mem_cons.mp ht with e | ht
  · rw [e]
    exact hn
  · split at ht
    · rw [List.mem_singleton.mp ht]
      exact mk _
    · rcases List.mem_cons.mp ht with e | ht
      · rw [e]
        exact mk _
      · rcases List.mem_append.mp ht with ht | ht
        · exact argToks_sd h t ht
        · rcases List.mem_cons.mp ht with e | ht
          · rw [e]
            exact mk _
          · rw [List.mem_singleton.mp ht]
            exact mk _
def spRead (K : PySem.W.Frag) : Sp := fun vs H Q _ => ∃ (nm : List Nat) (us : List Vl), vs = [.str (S (factL nm us))] ∧ NmOk nm ∧ (∀ v ∈ us, v.Ok) ∧ us.length ≤ 100 ∧ ∀ (H' : Hp) (t c : Addr), Same H H' → H' t = some (.tup [.ref c]) → ClAt K H' c (S nm) us → Q (.ref t) H'
theorem ok_read (T : Tx K mg) : Cal P w K mg base 7 "read" (spRead K) [] := by
  refine cal_ok T.df_read T.mg_read (fun _ _ _ _ _ _ us hl => match us, hl with | [_], _ => rfl) sc_read (fun vs H Q E h => ?_) (fun f cdv A outer s H vs Q E hr h => ?_)
  · obtain ⟨nm, us, rfl, _⟩ := h
    rfl
  · obtain ⟨nm, us, rfl, ⟨hnm, hnl⟩, hv, hus, q⟩ := h
    have nd := sc_read.nd
    refine ⟨_, pss_cons (ps_set (i := 1) nd rfl (.inl rfl) (pe_mk (ok_Read_init T) hr (by decide) (by rfl) (pa_cons (pe_c (ok_cut T) hr (by decide) (by rfl) (pa_cons (pv 0) pa_nil)) pa_nil)))
      (pss_cons (ps_set (i := 2) nd rfl (.inl rfl) (pe_lst pa_nil))
      (pss_cons (ps_while PassesOwn.never (pt_not (pt_val (pe_mt0 (ok_RAtEnd T) hr (by decide) (pv 1)))) (pss_one (ps_expr (pe_bm PySem.F.plainAttrs_list PySem.F.slot_list_append PySem.F.type_list_append mt_append (pv 2) (pa_cons (pe_mt0 (ok_clause T) hr (by decide) (pv 1)) pa_nil)))))
      (pss_one (ps_ret (pe_callTy call_tuple_of (by rfl) T.fr_tuple (by decide +kernel) (pa_cons (pv 2) pa_nil)))))), ?_⟩
    have hal := atomL_len hv hnl hus
    have hfl : (factL nm us).length ≤ 10000 := by
      unfold factL
      rw [List.length_append, List.length_singleton]
      omega
    have htl : (factToks nm us).length ≤ 1000 := by
      rw [ft_length]
      unfold lenT
      split <;> omega
    -- reader = Reader(cut(text))
    refine ⟨_, rfl, factL nm us, factToks nm us, rfl, hfl, cuts_fact hnm hv, htl, factToks_sd hnl hv, fun H1 tp sm1 sg1 ntp => ?_⟩
    intro p dx np ndx nne
    refine ⟨p, dx, tp, rfl, upd_same, rfl, ?_⟩
    rw [upd_upd]
    have sm2 : Same H1 (upd (upd H1 dx (.own p)) p (.ins (aRead K) dx (rf tp 0 0))) := same_made np ndx
    -- found = []
    refine ⟨Nat.zero_le _, fun l hl => ?_⟩
    have sm3 : Same (upd (upd H1 dx (.own p)) p (.ins (aRead K) dx (rf tp 0 0))) (upd (upd (upd H1 dx (.own p)) p (.ins (aRead K) dx (rf tp 0 0))) l (.lst [])) := same_new hl
    have rd3 : RdAt K (upd (upd (upd H1 dx (.own p)) p (.ins (aRead K) dx (rf tp 0 0))) l (.lst [])) p dx tp 0 0 := sm3 _ _ upd_same
    have sg3 : SgnsAt K (upd (upd (upd H1 dx (.own p)) p (.ins (aRead K) dx (rf tp 0 0))) l (.lst [])) tp (factToks nm us) := (sg1.same sm2).same sm3
    have ls3 : (upd (upd (upd H1 dx (.own p)) p (.ins (aRead K) dx (rf tp 0 0))) l (.lst [])) l = some (.lst []) := upd_same
    have smA : Same H (upd (upd (upd H1 dx (.own p)) p (.ins (aRead K) dx (rf tp 0 0))) l (.lst [])) := (sm1.trans sm2).trans sm3
    have hp0 : H p = none := sm1.free np
    have hl0 : H l = none := (sm1.trans sm2).free hl
    have hlen : 0 < lenT us := by
      unfold lenT
      split <;> omega
    refine ⟨fun m σ H' => σ = [some (.str (S (factL nm us))), some (.ref p), some (.ref l)] ∧ Same H H' ∧ SgnsAt K H' tp (factToks nm us) ∧ ((m = 1 ∧ RdAt K H' p dx tp 0 0 ∧ H' l = some (.lst [])) ∨ (m = 0 ∧ RdAt K H' p dx tp (lenT us) 0 ∧ ∃ c, H' l = some (.lst [.ref c]) ∧ ClAt K H' c (S nm) us)),
      ⟨1, rfl, smA, sg3, .inl ⟨rfl, rd3, ls3⟩⟩, ?_⟩
    rintro m σ H' ⟨rfl, sm, sg, h⟩
    rcases h with ⟨rfl, rd, ls⟩ | ⟨rfl, rd, c, ls, hc⟩
    · refine ⟨_, rfl, p, dx, _, rfl, rd, rfl, p, dx, tp, 0, 0, _, rfl, rd, sg, _, rfl, ?_⟩
      rw [ft_length, decide_eq_false (show ¬ lenT us ≤ 0 by omega)]
      refine iteT ?_
      refine ⟨fun σ' H'' => σ' = [some (.str (S (factL nm us))), some (.ref p), some (.ref l)] ∧ Same H H'' ∧ SgnsAt K H'' tp (factToks nm us) ∧ RdAt K H'' p dx tp (lenT us) 0 ∧ ∃ c, H'' l = some (.lst [.ref c]) ∧ ClAt K H'' c (S nm) us, fun σ' H'' hN => ⟨0, by decide, hN.1, hN.2.1, hN.2.2.1, .inr ⟨rfl, hN.2.2.2⟩⟩, ?_⟩
      refine ⟨_, rfl, .inl ⟨rfl, _, SqL.of ls⟩, _, rfl, p, dx, _, rfl, rd, rfl, p, dx, tp, 0, nm, us, rfl, rd, sg, hv, hus, fun H5 c m5 r5 hc => ?_⟩
      have ls5 := lst_rd ls rd m5
      have hpl : p ≠ l := (ne_of ls rd fun z => nomatch z).symm
      refine ⟨l, _, _, rfl, rfl, ls5, by decide, rfl, ?_, ?_, ?_, c, upd_same, ?_⟩
      · intro b o e
        rw [upd_ne (ne_of_none e hl0)]
        exact m5 _ _ (sm _ _ e) (by
          rw [List.mem_singleton]
          exact ne_of_none e hp0)
      · obtain ⟨as, z1, z2⟩ := sg.rd rd m5
        refine ⟨as, (upd_ne (ne_of z1 ls5 fun z => nomatch z)).trans z1, z2.keep fun a t h => ?_⟩
        exact h.mod (A := [l]) (Mod.upd (by simp)) (by
          rw [List.mem_singleton]
          exact h.ne_lst ls5)
      · exact (upd_ne hpl).trans r5
      · obtain ⟨dc, ru, bd, as, c1, dr, ts, bd2, sd, c2, c3, c4, c5⟩ := hc
        have k : ∀ {a : Addr} {o : HO}, H5 a = some o → (∀ xs, o ≠ .lst xs) → upd H5 l (.lst ([] ++ [.ref c])) a = some o := fun {a o} e h => (upd_ne (ne_of e ls5 (h _))).trans e
        exact ⟨dc, ru, bd, as, k c1 (fun _ z => nomatch z), dr, ts, bd2, sd, k c2 (fun _ z => nomatch z), k c3 (fun _ z => nomatch z), k c4 (fun _ z => nomatch z), c5.keep fun a v h => h.mod (A := [l]) (Mod.upd (by simp)) (by
          rw [List.mem_singleton]
          exact h.ne_lst ls5)⟩
    · refine ⟨_, rfl, p, dx, _, rfl, rd, rfl, p, dx, tp, lenT us, 0, _, rfl, rd, sg, _, rfl, ?_⟩
      rw [ft_length, decide_eq_true (Nat.le_refl _)]
      refine iteF ⟨_, rfl, l, _, rfl, .inl ⟨SqL.of ls, fun t ht => ?_⟩⟩
      have sm4 : Same H' (upd H' t (.tup [.ref c])) := same_new ht
      exact q _ t c (sm.trans sm4) upd_same (hc.same sm4)
def spReadRule (K : PySem.W.Frag) : Sp := fun vs H Q _ => ∃ (nm : List Nat) (us : List Vl), vs = [.str (S (factL nm us))] ∧ NmOk nm ∧ (∀ v ∈ us, v.Ok) ∧ us.length ≤ 100 ∧ ∀ (H' : Hp) (ru : Addr) (as : List Addr), Same H H' → RuleAt K H' ru (S nm) as us → Q (.ref ru) H'
theorem ok_read_rule (T : Tx K mg) : Cal P w K mg base 8 "read_rule" (spReadRule K) [] := by
  refine cal_ok T.df_read_rule T.mg_read_rule (fun _ _ _ _ _ _ us hl => match us, hl with | [_], _ => rfl) sc_read_rule (fun vs H Q E h => ?_) (fun f cdv A outer s H vs Q E hr h => ?_)
  · obtain ⟨nm, us, rfl, _⟩ := h
    rfl
  · obtain ⟨nm, us, rfl, hnm, hv, hus, q⟩ := h
    have nd := sc_read_rule.nd
    refine ⟨_, pss_cons (ps_set (i := 1) nd rfl (.inl rfl) (pe_c (ok_read T) hr (by decide) (by rfl) (pa_cons (pv 0) pa_nil)))
      (pss_cons (ps_if (PW.pt (pw_or (pt_cmpR op_ne (pe_callB call_len_seq (by rfl) T.fr_len PySem.boot_len (pa_cons (pv 1) pa_nil)) pe_int (nomark _)) (pw_or1 (pt_cmpR op_ne (pe_fld (pe_ix ix_tup (pv 1) pe_int (fun _ _ => rfl)) rfl) pe_str (nomark _))))) pss_never pss_nil)
      (pss_one (ps_ret (pe_fld (pe_ix ix_tup (pv 1) pe_int (fun _ _ => rfl)) rfl)))), ?_⟩
    refine ⟨_, rfl, nm, us, rfl, hnm, hv, hus, fun H1 t c sm ht hc => ?_⟩
    obtain ⟨dc, ru, bd, as, h1, h2⟩ := hc
    refine ⟨_, rfl, t, _, rfl, .inr (SqT.of ht), rfl, _, rfl, ifF (by rw [decide_eq_true (show V.int (([V.ref c].length : Nat) : Int) = V.int 1 from rfl)]; rfl) ?_⟩
    refine ⟨_, rfl, t, _, _, _, rfl, rfl, SqT.of ht, atI_nat (j := 0) rfl, c, _, dc, _, _, rfl, h1, T.cl_Clause, T.na_Clause_kind, rfl, rfl, _, rfl, ifF (by decide +kernel) ?_⟩
    exact ⟨_, rfl, t, _, _, _, rfl, rfl, SqT.of ht, atI_nat (j := 0) rfl, c, _, dc, _, _, rfl, h1, T.cl_Clause, T.na_Clause_rule, rfl, q H1 ru as sm h2⟩
def spReadFact (K : PySem.W.Frag) : Sp := fun vs H Q _ => ∃ (nm : List Nat) (us : List Vl), vs = [.str (S (factL nm us))] ∧ NmOk nm ∧ (∀ v ∈ us, v.Ok) ∧ us.length ≤ 100 ∧ ∀ (H' : Hp) (t r : Addr), Same H H' → H' t = some (.tup [.str (S nm), .ref r]) → H' r = some (.tup (us.map Vl.v)) → Q (.ref t) H'
theorem ok_read_fact (T : Tx K mg) : Cal P w K mg base 9 "read_fact" (spReadFact K) [] := by
  refine cal_ok T.df_read_fact T.mg_read_fact (fun _ _ _ _ _ _ us hl => match us, hl with | [_], _ => rfl) sc_read_fact (fun vs H Q E h => ?_) (fun f cdv A outer s H vs Q E hr h => ?_)
  · obtain ⟨nm, us, rfl, _⟩ := h
    rfl
  · obtain ⟨nm, us, rfl, hnm, hv, hus, q⟩ := h
    have nd := sc_read_fact.nd
    refine ⟨_, pss_cons (ps_try_thru0 (pss_one (ps_set (i := 1) nd rfl (.inl rfl) (pe_c (ok_read_rule T) hr (by decide) (by rfl) (pa_cons (pv 0) pa_nil)))))
      (pss_cons (ps_if (PW.pt (pw_or (pt_cmp (pc_isN (pv 1)) rfl) (pw_or1 (pt_not (pt_val (pe_c (ok_is_fact T) hr (by decide) (by rfl) (pa_cons (pv 1) pa_nil))))))) pss_never pss_nil)
      (pss_one (ps_ret (pe_tup (pa_cons (pe_fld (pv 1) rfl) (pa_cons (pe_c (ok_row_of T) hr (by decide) (by rfl) (pa_cons (pv 1) pa_nil)) pa_nil)))))), ?_⟩
    refine ⟨_, rfl, nm, us, rfl, hnm, hv, hus, fun H1 ru as sm1 hru => ?_⟩
    refine ⟨_, rfl, _, rfl, ifF (decide_eq_false fun z => nomatch z) ?_⟩
    refine ⟨_, rfl, ru, _, as, us, rfl, hru, fun H2 sm2 => ⟨_, rfl, iteF ?_⟩⟩
    obtain ⟨dx, ts, bd, sd, h1, h2, h3, h4⟩ := hru.same sm2
    refine ⟨_, rfl, ru, _, dx, _, _, rfl, h1, T.cl_Rule, T.na_Rule_name, rfl, _, rfl, ru, _, as, us, rfl, ⟨dx, ts, bd, sd, h1, h2, h3, h4⟩, hus, fun H3 r sm3 hr3 => ⟨by show 2 ≤ sizeLine; decide, fun t ht => ?_⟩⟩
    have sm4 : Same H3 (upd H3 t (.tup [.str (S nm), .ref r])) := same_new ht
    exact q _ t r (((sm1.trans sm2).trans sm3).trans sm4) upd_same (sm4 _ _ hr3)
end
end K46
set_option Elab.async false
set_option linter.all false
set_option maxRecDepth 100000
set_option maxHeartbeats 4000000
/-! The law's dice. -/
namespace K46
open PySem PySem.Spec PyProof.Rows L2 SX
open C8 (Cal Met Mak pe_c pe_mt pe_mt0 pe_mk fn0 pe_gc pss_cut)
/-- three numbers stand at d -/
def DiceAt (H : Hp) (d : Addr) : Prop := ∃ a b c : Int, H d = some (.lst [.int a, .int b, .int c])
theorem DiceAt.same {H H' : Hp} {d : Addr} (h : DiceAt H d) (m : Same H H') : DiceAt H' d := by
  obtain ⟨a, b, c, e⟩ := h
  exact ⟨a, b, c, m _ _ e⟩
section
variable {P : Program} {w : World} {K : PySem.W.Frag} {mg : Str → Option Value} {base : Heap}
def spDice : Sp := fun vs H Q _ => ∃ (n : Int), vs = [.int n] ∧ ∀ (H' : Hp) (d : Addr), Same H H' → H d = none → DiceAt H' d → Q (.ref d) H'
theorem ok_dice (T : Tx K mg) : Cal P w K mg base 1 "_law_dice" spDice [] := by
  refine cal_ok T.df_law_dice T.mg_law_dice (fun _ _ _ _ _ _ us hl => match us, hl with | [_], _ => rfl) sc_law_dice (fun vs H Q E h => ?_) (fun f cdv A outer s H vs Q E hr h => ?_)
  · obtain ⟨n, rfl, _⟩ := h
    rfl
  · obtain ⟨n, rfl, q⟩ := h
    refine ⟨_, pss_cons (ps_if (pt_chain op_lt op_lt (pe_op op_sub pe_int pe_int) (pv 0) pe_int) (pss_one (ps_ret (pe_lst (pa_cons (pe_callB call_abs (by rfl) T.fr_abs (by decide +kernel) (pa_cons (pv 0) pa_nil)) (pa_cons pe_int (pa_cons pe_int pa_nil)))))) pss_nil)
      (pss_one (ps_ret (pe_lst (pa_cons (pv 0) (pa_cons (pe_op op_add pe_int (pe_op op_mod (pe_callTy call_int1 (by rfl) T.fr_int (by decide +kernel) (pa_cons (pv 0) pa_nil)) pe_int)) (pa_cons (pe_callTy call_int1 (by rfl) T.fr_int (by decide +kernel) (pa_cons (pe_cmpR op_ge (pv 0) (pe_op op_pow pe_int pe_int) (nomark _)) pa_nil)) pa_nil)))))), ?_⟩
    have second : (tRet (tLst (tCons (tVar 0) (tCons (tOp (rI0 fun i j => .int (i + j)) (tC (.int 1)) (tOp (rI (fun _ j => 0 < j) fun i j => .int (i % j)) (tCB (fun xs H Q => (∃ i, xs = [.int i] ∧ Q (.int i) H) ∨ ∃ k, xs = [.bl k] ∧ Q (.int (if k then 1 else 0)) H) (tCons (tVar 0) tNil)) (tC (.int 1009)))) (tCons (tCB (fun xs H Q => (∃ i, xs = [.int i] ∧ Q (.int i) H) ∨ ∃ k, xs = [.bl k] ∧ Q (.int (if k then 1 else 0)) H) (tCons (tOp (rI0 fun i j => .bl (decide (j ≤ i))) (tVar 0) (tOp (rI CPow fun i j => .int (i ^ j.toNat)) (tC (.int 10)) (tC (.int 18)))) tNil)) tNil)))))
        { nx := fun _ H' => Q .non H', rt := Q } [some (.int n)] H := by
      refine ⟨_, rfl, _, rfl, .inl ⟨_, rfl, _, _, rfl, rfl, (by show (0 : Int) < 1009; decide), _, _, rfl, rfl, _, rfl, _, _, rfl, rfl, ⟨by decide, by decide, by decide⟩, _, _, rfl, rfl, .inr ⟨_, rfl, ?_⟩⟩⟩
      refine ⟨by show 3 ≤ sizeLine; decide, fun d hd => ?_⟩
      exact q _ d (same_new hd) hd ⟨_, _, _, upd_same⟩
    refine ⟨_, _, rfl, rfl, _, rfl, _, _, rfl, rfl, _, rfl, ?_⟩
    refine ite2 (fun e => ?_) (fun e => ?_)
    · refine ⟨_, _, rfl, rfl, _, rfl, ?_⟩
      refine ite2 (fun e2 => ?_) (fun e2 => second)
      refine ⟨_, rfl, _, rfl, by show 3 ≤ sizeLine; decide, fun d hd => ?_⟩
      exact q _ d (same_new hd) hd ⟨_, _, _, upd_same⟩
    · exact ⟨_, rfl, iteF second⟩
def spRoll : Sp := fun vs H Q _ => ∃ (d : Addr) (m : Int), vs = [.ref d, .int m] ∧ DiceAt H d ∧ 0 < m ∧ m < 1000000 ∧ ∀ (r a b c : Int), 0 ≤ r → r < m → Q (.int r) (upd H d (.lst [.int a, .int b, .int c]))
theorem ok_roll (T : Tx K mg) : Cal P w K mg base 1 "_law_roll" spRoll [] := by
  refine cal_ok T.df_law_roll T.mg_law_roll (fun _ _ _ _ _ _ us hl => match us, hl with | [_, _], _ => rfl) sc_law_roll (fun vs H Q E h => ?_) (fun f cdv A outer s H vs Q E hr h => ?_)
  · obtain ⟨d, m, rfl, _⟩ := h
    rfl
  · obtain ⟨d, m, rfl, ⟨a, b, c, hd⟩, hm, hm2, q⟩ := h
    have nd := sc_law_roll.nd
    refine ⟨_, pss_cons (ps_if (PW.pt (pw_or (pt_cmpR op_eq (pe_ix ix_list (pv 0) pe_int (fun _ _ => rfl)) pe_int (nomark _)) (pw_or1 (PW.pt (pw_and (pt_cmpR op_eq (pe_ix ix_list (pv 0) pe_int (fun _ _ => rfl)) pe_int (nomark _)) (pw_and1 (pt_cmpR op_gt (pe_ix ix_list (pv 0) pe_int (fun _ _ => rfl)) pe_int (nomark _))))))))
        (pss_cons (ps_set (i := 2) nd rfl (.inl rfl) (pe_op op_mod (pe_callTy call_int1 (by rfl) T.fr_int (by decide +kernel) (pa_cons (pe_ix ix_list (pv 0) pe_int (fun _ _ => rfl)) pa_nil)) (pv 1)))
          (pss_cons (ps_asg (pe_op op_fdiv (pe_ix ix_list (pv 0) pe_int (fun _ _ => rfl)) (pv 1)) (pg_sub (pv 0) pe_int set_list)) (pss_one (ps_ret (pv 2))))) pss_nil)
      (pss_cons (ps_asg pe_int (pg_sub (pv 0) pe_int set_list))
      (pss_cons (ps_asg (pe_op op_mod (pe_callTy call_int1 (by rfl) T.fr_int (by decide +kernel) (pa_cons (pe_op op_add (pe_op op_add (pe_op op_mul (pe_ix ix_list (pv 0) pe_int (fun _ _ => rfl)) pe_int) (pe_op op_mul (pe_ix ix_list (pv 0) pe_int (fun _ _ => rfl)) pe_int)) pe_int) pa_nil)) pe_int) (pg_sub (pv 0) pe_int set_list))
      (pss_cons (ps_asg (pe_op op_add (pe_ix ix_list (pv 0) pe_int (fun _ _ => rfl)) pe_int) (pg_sub (pv 0) pe_int set_list))
      (pss_one (ps_ret (pe_op op_mod (pe_callTy call_int1 (by rfl) T.fr_int (by decide +kernel) (pa_cons (pe_op op_add (pe_op op_fdiv (pe_ix ix_list (pv 0) pe_int (fun _ _ => rfl)) pe_int) (pe_ix ix_list (pv 0) pe_int (fun _ _ => rfl))) pa_nil)) (pv 1))))))), ?_⟩
    have at0 : ∀ x y z : V, atI [x, y, z] 0 = some x := fun _ _ _ => rfl
    have at1 : ∀ x y z : V, atI [x, y, z] 1 = some y := fun _ _ _ => rfl
    have at2 : ∀ x y z : V, atI [x, y, z] 2 = some z := fun _ _ _ => rfl
    have first : (tSeq (tAsg (tOp (rI (fun _ j => 0 < j) fun i j => .int (i % j)) (tCB (fun xs H Q => (∃ i, xs = [.int i] ∧ Q (.int i) H) ∨ ∃ k, xs = [.bl k] ∧ Q (.int (if k then 1 else 0)) H) (tCons (tOp (rIxL K) (tVar 0) (tC (.int 0))) tNil)) (tVar 1)) (gName 2))
        (tSeq (tAsg (tOp (rI CDiv fun i j => .int (i / j)) (tOp (rIxL K) (tVar 0) (tC (.int 0))) (tVar 1)) (gSub (tVar 0) (tC (.int 0)) rSetL)) (tRet (tVar 2)))) { nx := fun _ _ => True, rt := Q } [some (.ref d), some (.int m), none] H := by
      refine ⟨_, rfl, d, _, _, .int a, rfl, rfl, SqL.of hd, at0 _ _ _, .inl ⟨_, rfl, _, rfl, _, _, rfl, rfl, hm, ?_⟩⟩
      refine ⟨_, rfl, d, _, _, .int a, rfl, rfl, SqL.of hd, at0 _ _ _, _, rfl, _, _, rfl, rfl, ⟨hm, by omega⟩, _, rfl, d, _, _, 0, rfl, rfl, hd, rfl, ?_⟩
      exact ⟨_, rfl, q _ _ _ _ (Int.emod_nonneg _ (by omega)) (Int.emod_lt_of_pos _ hm)⟩
    have second : (tSeq (tAsg (tC (.int 0)) (gSub (tVar 0) (tC (.int 2)) rSetL))
        (tSeq (tAsg (tOp (rI (fun _ j => 0 < j) fun i j => .int (i % j)) (tCB (fun xs H Q => (∃ i, xs = [.int i] ∧ Q (.int i) H) ∨ ∃ k, xs = [.bl k] ∧ Q (.int (if k then 1 else 0)) H) (tCons (tOp (rI0 fun i j => .int (i + j)) (tOp (rI0 fun i j => .int (i + j)) (tOp (rI CMul fun i j => .int (i * j)) (tOp (rIxL K) (tVar 0) (tC (.int 0))) (tC (.int 48271))) (tOp (rI CMul fun i j => .int (i * j)) (tOp (rIxL K) (tVar 0) (tC (.int 1))) (tC (.int 69621)))) (tC (.int 11))) tNil)) (tC (.int 2147483647))) (gSub (tVar 0) (tC (.int 0)) rSetL))
        (tSeq (tAsg (tOp (rI0 fun i j => .int (i + j)) (tOp (rIxL K) (tVar 0) (tC (.int 1))) (tC (.int 1))) (gSub (tVar 0) (tC (.int 1)) rSetL))
        (tRet (tOp (rI (fun _ j => 0 < j) fun i j => .int (i % j)) (tCB (fun xs H Q => (∃ i, xs = [.int i] ∧ Q (.int i) H) ∨ ∃ k, xs = [.bl k] ∧ Q (.int (if k then 1 else 0)) H) (tCons (tOp (rI0 fun i j => .int (i + j)) (tOp (rI CDiv fun i j => .int (i / j)) (tOp (rIxL K) (tVar 0) (tC (.int 0))) (tC (.int 7))) (tOp (rIxL K) (tVar 0) (tC (.int 0)))) tNil)) (tVar 1)))))) { nx := fun _ H' => Q .non H', rt := Q } [some (.ref d), some (.int m), none] H := by
      refine ⟨_, rfl, d, _, _, 2, rfl, rfl, hd, rfl, ?_⟩
      refine ⟨_, rfl, d, _, _, .int a, rfl, rfl, SqL.of upd_same, at0 _ _ _, _, _, rfl, rfl, .inr ⟨by decide, by decide⟩, _, rfl, d, _, _, .int b, rfl, rfl, SqL.of upd_same, at1 _ _ _, _, _, rfl, rfl, .inr ⟨by decide, by decide⟩, _, _, rfl, rfl, _, _, rfl, rfl, .inl ⟨_, rfl, _, _, rfl, rfl, (by show (0 : Int) < 2147483647; decide), _, rfl, d, _, _, 0, rfl, rfl, upd_same, rfl, ?_⟩⟩
      rw [upd_upd]
      refine ⟨_, rfl, d, _, _, .int b, rfl, rfl, SqL.of upd_same, at1 _ _ _, _, _, rfl, rfl, _, rfl, d, _, _, 1, rfl, rfl, upd_same, rfl, ?_⟩
      rw [upd_upd]
      refine ⟨_, rfl, d, _, _, _, rfl, rfl, SqL.of upd_same, at0 _ _ _, _, _, rfl, rfl, ⟨by decide, by decide⟩, _, rfl, d, _, _, _, rfl, rfl, SqL.of upd_same, at0 _ _ _, _, _, rfl, rfl, .inl ⟨_, rfl, _, rfl, _, _, rfl, rfl, hm, ?_⟩⟩
      exact q _ _ _ _ (Int.emod_nonneg _ (by omega)) (Int.emod_lt_of_pos _ hm)
    refine ⟨_, rfl, d, _, _, .int c, rfl, rfl, SqL.of hd, at2 _ _ _, rfl, _, rfl, ?_⟩
    refine ite2 (fun e => first) (fun e => ?_)
    refine ⟨_, rfl, d, _, _, .int c, rfl, rfl, SqL.of hd, at2 _ _ _, rfl, _, rfl, ?_⟩
    refine ite2 (fun e2 => ?_) (fun e2 => iteF second)
    refine ⟨_, rfl, d, _, _, .int a, rfl, rfl, SqL.of hd, at0 _ _ _, _, _, rfl, rfl, _, rfl, ?_⟩
    exact ite2 (fun e3 => first) (fun e3 => second)
def spRounds (K : PySem.W.Frag) : Sp := fun vs H Q _ => ∃ (a : Addr) (ns : List Int), vs = [.ref a, .int 1] ∧ SqL K H a (ns.map V.int) ∧ ns.length ≤ 63 ∧ ∀ (H' : Hp) (r d : Addr), H' r = some (.lst [.ref d]) → DiceAt H' d → Q (.ref r) H'
theorem cut_one1 (xs : List V) : cutV xs none (some 1) = xs.take 1 := by
  unfold cutV
  rw [HT.sIx_none, show HT.sIx xs.length xs.length (some 1) = min 1 xs.length from HT.sIx_nat xs.length xs.length 1, List.drop_zero, Nat.sub_zero]
  cases xs with
  | nil => rfl
  | cons x r =>
    rw [show min 1 (x :: r).length = 1 by rw [List.length_cons]; omega]
theorem ok_rounds (T : Tx K mg) : Cal P w K mg base 2 "_law_rounds" (spRounds K) [] := by
  refine cal_ok T.df_law_rounds T.mg_law_rounds (fun _ _ _ _ _ _ us hl => match us, hl with | [_, _], _ => rfl) sc_law_rounds (fun vs H Q E h => ?_) (fun f cdv A outer s H vs Q E hr h => ?_)
  · obtain ⟨a, ns, rfl, _⟩ := h
    rfl
  · obtain ⟨a, ns, rfl, hS, hlen, q⟩ := h
    have nd := sc_law_rounds.nd
    refine ⟨_, pss_cons (ps_set (i := 2) nd rfl (.inl rfl) (pe_slice sl_list (pv 0) po_none (po_some (pv 1))))
      (pss_cut (ps_if (pt_cmpR (op_eqNil hr.units) (pv 2) (pe_lst pa_nil) (nomark _)) (pss_one (ps_set (i := 2) nd rfl (.inl rfl) (pe_lst (pa_cons pe_int pa_nil)))) pss_nil)
      (pss_one (ps_ret (pe_lc (own := [("_law_cell", 3)]) (g := gName 3) (tt := tYes) rfl nd (pi_list (pv 2)) (blkOk_by (own := [("_law_cell", 3)]) (N := ["_law_script", "_law_most", "_law_cells", "_law_cell"]) (sc := C8.fnScope s_law_rounds) (by decide +kernel))
          (fun _ _ _ _ _ => pg_name (i := 3) nd rfl (Or.inl rfl)) (fun _ _ _ _ _ => pts_nil) (fun _ _ _ _ _ => pe_c (ok_dice T) hr (by decide) (by rfl) (pa_cons (pv 3) pa_nil)))))), ?_⟩
    refine ⟨_, rfl, _, rfl, 1, rfl, a, _, rfl, hS, fun ca hca => ?_⟩
    rw [cut_one1]
    refine ⟨fun σ' H' => ∃ (ca : Addr) (n : Int), σ' = [some (.ref a), some (.int 1), some (.ref ca), none] ∧ H' ca = some (.lst [.int n]), ?_, ?_⟩
    · refine ⟨_, rfl, Nat.zero_le _, fun n0 hn0 => ?_⟩
      have sm : Same (upd H ca (.lst ((ns.map V.int).take 1))) (upd (upd H ca (.lst ((ns.map V.int).take 1))) n0 (.lst [])) := same_new hn0
      refine ⟨ca, n0, _, rfl, rfl, SqL.of (sm _ _ upd_same), SqL.of upd_same, _, rfl, ?_⟩
      rw [if_neg Bool.false_ne_true]
      cases ns with
      | nil =>
        refine iteT ⟨by show 1 ≤ sizeLine; decide, fun cb hcb => ?_⟩
        exact ⟨cb, 0, rfl, upd_same⟩
      | cons n r =>
        refine iteF ?_
        exact ⟨ca, n, rfl, sm _ _ upd_same⟩
    · rintro σ' H' ⟨ca, n, rfl, h1⟩
      refine ⟨_, rfl, ca, rfl, ⟨_, SqL.of h1⟩, fun D hD => lc_list (K := K) (a := ca) (xs := [V.int n]) (fun i H'' => Same H' H'' ∧ (i = 0 → H'' D = some (.lst [])) ∧ (i = 1 → ∃ d, H'' D = some (.lst [.ref d]) ∧ DiceAt H'' d)) ⟨same_new hD, fun _ => upd_same, fun z => absurd z (by decide)⟩ (fun i H'' _ h => SqL.of (h.1 _ _ h1)) ?_ ?_⟩
      · rintro i x H'' hi ⟨sm, g0, _⟩
        have hi0 : i = 0 := by
          cases i with
          | zero => rfl
          | succ i => simp at hi
        subst hi0
        have ex : V.int n = x := Option.some.inj hi
        subst ex
        refine ⟨rfl, _, rfl, n, rfl, fun H3 d sm2 nd2 hd => ⟨[], sm2 _ _ (g0 rfl), by decide, ?_, fun z => absurd z (by decide), fun _ => ⟨d, upd_same, ?_⟩⟩⟩
        · exact fun b o z => by
            rw [upd_ne (ne_of_none z hD)]
            exact sm2 _ _ (sm _ _ z)
        · obtain ⟨a', b', c', hd'⟩ := hd
          exact ⟨a', b', c', (upd_ne (ne_of hd' (sm2 _ _ (g0 rfl)) fun z => by injection z with z; cases z)).trans hd'⟩
      · rintro H'' ⟨sm, _, g1⟩
        obtain ⟨d, e1, e2⟩ := g1 rfl
        exact q H'' D d e1 e2
end
end K46
set_option Elab.async false
set_option linter.all false
set_option maxRecDepth 100000
set_option maxHeartbeats 4000000
/-! One turn of the law. Made of K46W.txt by genw.py. -/
namespace K46
open PySem PySem.Spec PyProof.Rows L2 SX
open C8 (Cal Met Mak pe_c pe_mt pe_mt0 pe_mk fn0 pe_gc pss_cut)
abbrev NL : List Str := ["_law_script", "_law_dice_here", "_law_row", "_law_turn", "_law_number", "_law_k", "_law_value", "_law_text", "_law_signs", "_law_plain_now", "_law_sign", "_law_rule", "_law_term"]
def bodyOf : Stmt → List Stmt
  | .For (body := b) .. => b
  | _ => []
def sBody : List Stmt := bodyOf ((C8.fnBody s_law).getD 0 (.Pass ⟨0, 0, 0, 0⟩))
def sTurn : List Stmt := bodyOf (sBody.getD 1 (.Pass ⟨0, 0, 0, 0⟩))
def sPick : Stmt := sTurn.getD 0 (.Pass ⟨0, 0, 0, 0⟩)
abbrev XL (P : Program) (w : World) (K : PySem.W.Frag) (mg : Str → Option Value) (base : Heap) (f : Addr) (cdv : Value) (A : Around) (outer : List Env) (s : Shared) (H : Hp) (E : XK) : Cx := (cxOf C8.CX0 P w K mg base NL "law" (C8.fnScope s_law) f cdv A outer s H E).nox
abbrev RoomL (k : Nat) (A : Around) (s : Shared) (f : Addr) (cdv : Value) : Prop := Room k (A.deeper (envOfC "law" (C8.fnScope s_law) s.heap.objs.size f cdv))
/-- the law's slots -/
abbrev sl (sa d row : Addr) (x3 x4 x5 x6 x7 x8 x9 x10 x11 x12 : Option V) : L2.St := [some (.ref sa), some (.ref d), some (.ref row), x3, x4, x5, x6, x7, x8, x9, x10, x11, x12]
/-- the dice, the row, the rounds -/
structure J (d row R : Addr) (us : List Vl) (H : Hp) : Prop where
  di : DiceAt H d
  ro : H row = some (.lst (us.map Vl.v))
  rr : H R = some (.lst [.ref d])
structure Apart (d row R : Addr) : Prop where
  dr : d ≠ row
  rd : R ≠ d
  rr : R ≠ row
section
variable {d row R : Addr} {us : List Vl} {H H' : Hp}
theorem J.same (j : J d row R us H) (m : Same H H') : J d row R us H' := ⟨j.di.same m, m _ _ j.ro, m _ _ j.rr⟩
theorem J.roll (j : J d row R us H) (ap : Apart d row R) (a b c : Int) : J d row R us (upd H d (.lst [.int a, .int b, .int c])) := ⟨⟨a, b, c, upd_same⟩, (upd_ne ap.dr.symm).trans j.ro, (upd_ne ap.rd).trans j.rr⟩
end
theorem specials_eq : ([.str "not", .str "count", .str "sum", .str "least", .str "most", .str "", .str "e", .str "_", .str "V1"] : List V) = specials.map fun l => V.str (S l) := by decide +kernel
theorem alpha_eq : ("abZ_9 '\\\n,.(:-#*" : Str) = S alpha := by decide +kernel
theorem joinL_nil : ∀ cs : List Nat, TL.joinL [] (cs.map fun c => [c]) = cs
  | [] => rfl
  | [c] => rfl
  | c :: e :: r => by
    have ih := joinL_nil (e :: r)
    show [c] ++ ([] ++ TL.joinL [] ((e :: r).map fun c => [c])) = c :: e :: r
    rw [ih]
    rfl
theorem at_specials {r : Int} (h0 : 0 ≤ r) (h1 : r < 9) : ∃ x, x ∈ specials ∧ atI (specials.map fun l => V.str (S l)) r = some (.str (S x)) := by
  obtain ⟨n, rfl⟩ : ∃ n : Nat, r = (n : Int) := ⟨r.toNat, by omega⟩
  have hn : n < specials.length := by show n < 9; omega
  exact ⟨specials[n], List.getElem_mem hn, atI_nat (by rw [List.getElem?_map, List.getElem?_eq_getElem hn]; rfl)⟩
theorem at_alpha {r : Int} (h0 : 0 ≤ r) (h1 : r < 16) : ∃ c, c ∈ alpha ∧ atI (S alpha).cps.toList r = some c := by
  obtain ⟨n, rfl⟩ : ∃ n : Nat, r = (n : Int) := ⟨r.toNat, by omega⟩
  have hn : n < alpha.length := by show n < 16; omega
  exact ⟨alpha[n], List.getElem_mem hn, atI_nat (by show alpha[n]? = _; exact List.getElem?_eq_getElem hn)⟩
section
variable {P : Program} {w : World} {K : PySem.W.Frag} {mg : Str → Option Value} {base : Heap} {f : Addr} {cdv : Value} {A : Around} {outer : List Env} {s : Shared} {H : Hp} {E : XK}
/-- a value is drawn -/
theorem pick_ok (T : Tx K mg) (hr : RoomL 9 A s f cdv) : ∃ t : TS, PS (XL P w K mg base f cdv A outer s H E) sPick t ∧ ∀ (D : Ends) (sa d row R : Addr) (us : List Vl) (x3 x4 x5 x6 x7 x8 x9 x10 x11 x12 : Option V) (H' : Hp), Apart d row R → J d row R us H' →
    (∀ (v : Vl) (y4 y5 : Option V) (H'' : Hp), v.Ok → J d row R us H'' → D.nx (sl sa d row x3 y4 y5 (some v.v) x7 x8 x9 x10 x11 x12) H'') → t D (sl sa d row x3 x4 x5 x6 x7 x8 x9 x10 x11 x12) H' := by
  have nd := sc_law.nd
  refine ⟨_, ps_if (pt_cmpR op_eq (pe_c (ok_roll T) hr (by decide) (by rfl) (pa_cons (pv 1) (pa_cons pe_int pa_nil))) pe_int (nomark _))
      (pss_cons (ps_set (i := 4) nd rfl (.inl rfl) (pe_c (ok_roll T) hr (by decide) (by rfl) (pa_cons (pv 1) (pa_cons pe_int pa_nil))))
      (pss_cons (ps_for PassesOwn.never rfl (pi_range1 rfl T.fr_range (pa_cons (pe_c (ok_roll T) hr (by decide) (by rfl) (pa_cons (pv 1) (pa_cons pe_int pa_nil))) pa_nil)) (pg_name (i := 5) nd rfl (.inl rfl)) (pss_one (ps_set (i := 4) nd rfl (.inl rfl) (pe_op op_mul (pv 4) pe_int))))
      (pss_cons (ps_set (i := 4) nd rfl (.inl rfl) (pe_op op_sub (pv 4) (pe_op op_mul (pe_c (ok_roll T) hr (by decide) (by rfl) (pa_cons (pv 1) (pa_cons pe_int pa_nil))) pe_int)))
      (pss_one (ps_set (i := 6) nd rfl (.inl rfl) (pe_ifExp (pt_cmpR op_lt (pe_callB call_abs (by rfl) T.fr_abs (by decide +kernel) (pa_cons (pv 4) pa_nil)) (pe_op op_pow pe_int pe_int) (nomark _)) (pv 4) pe_int))))))
      (pss_one (ps_if (pt_cmpR op_eq (pe_c (ok_roll T) hr (by decide) (by rfl) (pa_cons (pv 1) (pa_cons pe_int pa_nil))) pe_int (nomark _))
        (pss_one (ps_set (i := 6) nd rfl (.inl rfl) (pe_ix ix_list (pe_lst (pa_cons pe_str (pa_cons pe_str (pa_cons pe_str (pa_cons pe_str (pa_cons pe_str (pa_cons pe_str (pa_cons pe_str (pa_cons pe_str (pa_cons pe_str pa_nil)))))))))) (pe_c (ok_roll T) hr (by decide) (by rfl) (pa_cons (pv 1) (pa_cons pe_int pa_nil))) (fun _ _ => rfl))))
        (pss_one (ps_set (i := 6) nd rfl (.inl rfl) (pe_join pe_str (pe_lc (own := [("_law_k", 5)]) (g := gName 5) (tt := tYes) rfl nd (pi_range1 rfl T.fr_range (pa_cons (pe_c (ok_roll T) hr (by decide) (by rfl) (pa_cons (pv 1) (pa_cons pe_int pa_nil))) pa_nil)) (blkOk_by (own := [("_law_k", 5)]) (N := NL) (sc := C8.fnScope s_law) (by decide +kernel)) (fun _ _ _ _ _ => pg_name (i := 5) nd rfl (Or.inl rfl)) (fun _ _ _ _ _ => pts_nil) (fun _ _ _ _ _ => pe_ix ix_str pe_str (pe_c (ok_roll T) hr (by decide) (by rfl) (pa_cons (pv 1) (pa_cons pe_int pa_nil))) (fun _ _ => rfl)))))))), ?_⟩
  intro D sa d row R us x3 x4 x5 x6 x7 x8 x9 x10 x11 x12 H' ap j q
  refine ⟨_, rfl, d, 3, rfl, j.di, by decide, by decide, fun r a b c h0 h1 => ⟨rfl, _, rfl, ?_⟩⟩
  have j1 := j.roll ap a b c
  refine ite2 (fun e => ?_) (fun e => ?_)
  · -- a number
    refine ⟨_, rfl, d, 10, rfl, j1.di, by decide, by decide, fun r2 a2 b2 c2 h02 h12 => ?_⟩
    have j2 := j1.roll ap a2 b2 c2
    refine ⟨_, rfl, d, 18, rfl, j2.di, by decide, by decide, fun r3 a3 b3 c3 h03 h13 => ⟨r3, rfl, by omega, by omega, ?_⟩⟩
    have j3 := j2.roll ap a3 b3 c3
    refine for_range (lo := 0) (n := r3.toNat) (fun i σ H'' => (∃ (z : Int) (y5 : Option V), σ = sl sa d row x3 (some (.int z)) y5 x6 x7 x8 x9 x10 x11 x12) ∧ J d row R us H'') ⟨⟨r2, x5, rfl⟩, j3⟩ ?_ ?_
    · rintro i σ H'' hi ⟨⟨z, y5, rfl⟩, jj⟩
      exact ⟨_, rfl, _, _, rfl, rfl, .inr ⟨by decide, by decide⟩, ⟨_, _, rfl⟩, jj⟩
    · rintro σ H'' ⟨⟨z, y5, rfl⟩, jj⟩
      refine ⟨_, rfl, _, rfl, d, 2, rfl, jj.di, by decide, by decide, fun r4 a4 b4 c4 h04 h14 => ⟨_, _, rfl, rfl, .inr ⟨by decide, by decide⟩, _, _, rfl, rfl, ?_⟩⟩
      have j4 := jj.roll ap a4 b4 c4
      refine ⟨_, rfl, _, rfl, _, _, rfl, rfl, ⟨by decide, by decide, by decide⟩, _, _, rfl, rfl, _, rfl, ?_⟩
      refine ite2 (fun e2 => ?_) (fun e2 => ?_)
      · refine ⟨_, rfl, q (.int (z - r4 * 7)) _ y5 _ ?_ j4⟩
        show (z - r4 * 7).natAbs < 10 ^ 18
        have e3 := of_decide_eq_true e2
        have e4 : ((10 : Int) ^ (18 : Int).toNat) = 1000000000000000000 := by decide
        rw [e4] at e3
        have e5 : (10 : Nat) ^ 18 = 1000000000000000000 := by decide
        rw [e5]
        split at e3 <;> omega
      · exact q (.int 5) _ y5 _ (by show (5 : Int).natAbs < 10 ^ 18; decide) j4
  · refine ⟨_, rfl, d, 4, rfl, j1.di, by decide, by decide, fun r2 a2 b2 c2 h02 h12 => ⟨rfl, _, rfl, ?_⟩⟩
    have j2 := j1.roll ap a2 b2 c2
    refine ite2 (fun e2 => ?_) (fun e2 => ?_)
    · -- a word that stands in the table
      refine ⟨by show 9 ≤ sizeLine; decide, fun n0 hn0 => ?_⟩
      have sm : Same (upd (upd H' d (.lst [.int a, .int b, .int c])) d (.lst [.int a2, .int b2, .int c2])) (upd (upd (upd H' d (.lst [.int a, .int b, .int c])) d (.lst [.int a2, .int b2, .int c2])) n0 (.lst [.str "not", .str "count", .str "sum", .str "least", .str "most", .str "", .str "e", .str "_", .str "V1"])) := same_new hn0
      have nd0 : n0 ≠ d := fun z => by
        rw [z, upd_same] at hn0
        cases hn0
      have j3 := j2.same sm
      refine ⟨_, rfl, d, 9, rfl, j3.di, by decide, by decide, fun r3 a3 b3 c3 h03 h13 => ?_⟩
      obtain ⟨x, hx, hat⟩ := at_specials h03 h13
      refine ⟨n0, _, r3, .str (S x), rfl, rfl, SqL.of ((upd_ne nd0).trans upd_same), by rw [specials_eq]; exact hat, ?_⟩
      exact q (.str x) _ _ _ (special_ok hx) (j3.roll ap a3 b3 c3)
    · -- drawn signs
      refine ⟨⟨_, rfl⟩, _, rfl, d, 5, rfl, j2.di, by decide, by decide, fun r3 a3 b3 c3 h03 h13 => ⟨r3, rfl, by omega, by omega, fun n0 hn0 => ?_⟩⟩
      have j3 := j2.roll ap a3 b3 c3
      refine lc_range (lo := 0) (n := r3.toNat) (fun i H'' => J d row R us H'' ∧ n0 ≠ d ∧ ∃ cs : List Nat, cs.length = i ∧ (∀ c ∈ cs, c ∈ alpha) ∧ H'' n0 = some (.lst (cs.map fun c => V.str (S [c])))) ⟨j3.same (same_new hn0), fun z => ?_, [], rfl, (fun c h => by cases h), upd_same⟩ ?_ ?_
      · rw [z, upd_same] at hn0
        cases hn0
      · rintro i H'' hi ⟨jj, hnd, cs, hcl, hca, hcs⟩
        have nrow : n0 ≠ row := fun z => by
          have := j3.ro
          rw [← z, hn0] at this
          cases this
        have nR : n0 ≠ R := fun z => by
          have := j3.rr
          rw [← z, hn0] at this
          cases this
        refine ⟨rfl, _, rfl, d, 16, rfl, jj.di, by decide, by decide, fun r4 a4 b4 c4 h04 h14 => ?_⟩
        obtain ⟨ch, hch, hat⟩ := at_alpha h04 h14
        have j4 := jj.roll ap a4 b4 c4
        refine ⟨_, r4, ch, rfl, rfl, by rw [alpha_eq]; exact len_le (by decide), by rw [alpha_eq]; exact hat, _, (upd_ne hnd).trans hcs, ?_, ?_⟩
        · rw [List.length_map, hcl]
          exact small1000 (by omega)
        · refine ⟨⟨?_, (upd_ne nrow.symm).trans j4.ro, (upd_ne nR.symm).trans j4.rr⟩, hnd, cs ++ [ch], by rw [List.length_append, hcl]; rfl, fun c hc => ?_, ?_⟩
          · obtain ⟨a5, b5, c5, h5⟩ := j4.di
            exact ⟨a5, b5, c5, (upd_ne hnd.symm).trans h5⟩
          · rcases List.mem_append.mp hc with hc | hc
            · exact hca c hc
            · rw [List.mem_singleton.mp hc]
              exact hch
          · rw [upd_same, List.map_append]
            rfl
      · rintro H'' ⟨jj, hnd, cs, hcl, hca, hcs⟩
        have hl5 : cs.length ≤ 5 := by omega
        have e3 : (cs.map fun c => V.str (S [c])) = ((cs.map fun c => [c]).map S).map V.str := by
          rw [List.map_map, List.map_map]
          rfl
        rw [e3] at hcs
        refine ⟨_, n0, (cs.map fun c => [c]).map S, rfl, rfl, .inl (SqL.of hcs), ?_, ?_⟩
        · rw [lens, List.length_map, List.length_map, lit_e, S_len, List.map_map]
          have e4 : ∀ l : List Nat, (l.map ((fun x : List Nat => x.length) ∘ fun c => [c])).sum = l.length := by
            intro l
            induction l with
            | nil => rfl
            | cons x r ih =>
              rw [List.map_cons, List.sum_cons, ih, List.length_cons]
              show 1 + r.length = r.length + 1
              omega
          rw [e4]
          show cs.length + cs.length * 0 ≤ 16777216
          omega
        · rw [lit_e, join_S, joinL_nil]
          exact q (.str cs) _ _ _ (alpha_ok hl5 hca) jj
end
end K46
set_option Elab.async false
set_option linter.all false
set_option maxRecDepth 100000
set_option maxHeartbeats 4000000
/-! One turn of the law, the tests. Made of K46X.txt by genw.py. -/
namespace K46
open PySem PySem.Spec PyProof.Rows L2 SX
open C8 (Cal Met Mak pe_c pe_mt pe_mt0 pe_mk fn0 pe_gc pss_cut)
def sn (k : Nat) : Stmt := sTurn.getD k (.Pass ⟨0, 0, 0, 0⟩)
theorem lit_lets : ("abZ_9notcuslem" : Str) = S lets := by decide +kernel
theorem lit_a : ("a" : Str) = S [97] := by decide +kernel
theorem lit_z : ("z" : Str) = S [122] := by decide +kernel
def Vl.now : Vl → Bool
  | .int _ => false
  | .str x => nowB x
theorem ne_self {v : V} : (!decide (v = v)) = false := by
  rw [decide_eq_true rfl]
  rfl
theorem le_a {c : Nat} : (!decide (([c] : List Nat) < [97])) = decide (97 ≤ c) := by
  rw [Bool.eq_iff_iff]
  simp [List.cons_lt_cons_iff]
theorem le_z {c : Nat} : (!decide (([122] : List Nat) < [c])) = decide (c ≤ 122) := by
  rw [Bool.eq_iff_iff]
  simp [List.cons_lt_cons_iff]
theorem filt_nil : ∀ {x : List Nat}, (x.filter fun c => !decide (c ∈ lets)).isEmpty = x.all fun c => decide (c ∈ lets)
  | [] => rfl
  | c :: x => by
    have ih := filt_nil (x := x)
    rw [List.filter_cons, List.all_cons]
    by_cases h : c ∈ lets
    · rw [decide_eq_true h]
      exact ih
    · rw [decide_eq_false h]
      rfl
theorem take_filt {x : List Nat} {i c : Nat} (h : x[i]? = some c) : ((x.take (i + 1)).filter fun c => !decide (c ∈ lets)) = ((x.take i).filter fun c => !decide (c ∈ lets)) ++ if c ∈ lets then [] else [c] := by
  rw [List.take_add_one, h, List.filter_append]
  by_cases hc : c ∈ lets
  · simp [hc]
  · simp [hc]
section
variable {P : Program} {w : World} {K : PySem.W.Frag} {mg : Str → Option Value} {base : Heap} {f : Addr} {cdv : Value} {A : Around} {outer : List Env} {s : Shared} {H : Hp} {E : XK}
/-- is it plain now -/
theorem plain_ok (T : Tx K mg) (hr : RoomL 9 A s f cdv) : ∃ t : TS, PS (XL P w K mg base f cdv A outer s H E) (sn 6) t ∧ ∀ (D : Ends) (sa d row : Addr) (v : Vl) (x3 x4 x5 x7 x8 x9 x10 x11 x12 : Option V) (H' : Hp), v.Ok →
    (∀ H'' : Hp, Same H' H'' → D.nx (sl sa d row x3 x4 x5 (some v.v) x7 x8 (some (.bl v.now)) x10 x11 x12) H'') → t D (sl sa d row x3 x4 x5 (some v.v) x7 x8 x9 x10 x11 x12) H' := by
  have nd := sc_law.nd
  refine ⟨_, ps_set (i := 9) nd rfl (.inl rfl) (pe_and (pe_not (pe_callB call_isi (by rfl) T.fr_isinstance (by decide +kernel) (pa_cons (pv 6) (pa_cons (pe_bltn (v := .ty "int") (by rfl) T.fr_int (by decide +kernel) rfl) pa_nil)))) (pe_and (pe_cmpR op_ne (pv 6) pe_str (nomark _)) (pe_and (pe_chain op_le_str op_le_str pe_str (pe_ix ix_str (pv 6) pe_int (fun _ _ => rfl)) pe_str) (pe_one (pe_cmpR (op_eqNil hr.units) (pe_lc (own := [("_law_sign", 10)]) (g := gName 10) rfl nd (pi_str (pv 6)) (blkOk_by (own := [("_law_sign", 10)]) (N := NL) (sc := C8.fnScope s_law) (by decide +kernel)) (fun _ _ _ _ _ => pg_name (i := 10) nd rfl (Or.inl rfl)) (fun _ _ _ _ _ => pts_one (pt_cmpR op_notIn_sign (pv 10) pe_str rfl)) (fun _ _ _ _ _ => pv 10)) (pe_lst pa_nil) (nomark _)))))), ?_⟩
  intro D sa d row v x3 x4 x5 x7 x8 x9 x10 x11 x12 H' hv q
  cases v with
  | int n => exact ⟨_, rfl, .int n, .ty "int", .type "int", .type "int", true, rfl, .ty _, .base (.int n), kit_ty (by decide +kernel), _, rfl, _, rfl, q H' (Same.refl H')⟩
  | str x =>
    refine ⟨_, rfl, .str (S x), .ty "int", .type "str", .type "int", false, rfl, .ty _, .base (.str _), kit_ty (by decide +kernel), _, rfl, _, rfl, _, rfl, rfl, _, rfl, ?_⟩
    cases x with
    | nil => exact ifF (by decide +kernel) (q H' (Same.refl H'))
    | cons c y =>
      have hlen := hv.1
      have e1 : (!decide ((Vl.str (c :: y)).v = V.str ("" : Str))) = true := by
        show (!decide (V.str (S (c :: y)) = V.str ("" : Str))) = true
        rw [lit_e, dec_S, decide_eq_false (fun z : c :: y = [] => nomatch z)]
        rfl
      have e2 : (!decide ((S [c]).cps.toList < ("a" : Str).cps.toList)) = decide (97 ≤ c) := by
        rw [lit_a]
        exact le_a
      have e3 : (!decide (("z" : Str).cps.toList < (S [c]).cps.toList)) = decide (c ≤ 122) := by
        rw [lit_z]
        exact le_z
      have e4 : (Vl.str (c :: y)).now = ((decide (97 ≤ c) && decide (c ≤ 122)) && (c :: y).all fun x => decide (x ∈ lets)) := rfl
      have q0 := q H' (Same.refl H')
      refine ifT e1 ⟨_, rfl, _, _, c, rfl, rfl, len_le (by omega), at_drop (i := 0) (r := y) rfl, _, _, rfl, rfl, _, rfl, ?_⟩
      have stop : ((decide (97 ≤ c) && decide (c ≤ 122)) = false) → D.nx (sl sa d row x3 x4 x5 (some (Vl.str (c :: y)).v) x7 x8 (some (.bl false)) x10 x11 x12) H' := fun z => by
        rw [e4, z, Bool.false_and] at q0
        exact q0
      cases h1 : decide (97 ≤ c) with
      | false => exact ifF (e2.trans h1) ⟨_, rfl, iteF (stop (by rw [h1]; rfl))⟩
      | true =>
        refine ifT (e2.trans h1) ⟨_, _, rfl, rfl, ?_⟩
        cases h2 : decide (c ≤ 122) with
        | false => exact ⟨_, rfl, ifF (e3.trans h2) (stop (by rw [h1, h2]; rfl))⟩
        | true =>
          refine ⟨_, rfl, ifT (e3.trans h2) ?_⟩
          refine ⟨_, rfl, _, rfl, fun n0 hn0 => lc_it walk_str (fun i H'' => Same H' H'' ∧ H'' n0 = some (.lst ((((c :: y).take i).filter fun c => !decide (c ∈ lets)).map fun c => V.str (S [c])))) ⟨same_new hn0, upd_same⟩ (fun _ _ _ _ => True.intro) ?_ ?_⟩
          · rintro i x0 H2 H3 hi ⟨sm, hD⟩ ⟨rfl, ch, hch, rfl⟩
            have hch2 : (c :: y)[i]? = some ch := by simpa [SX.S] using hch
            have e5 := take_filt hch2
            have e6 : (!decide (ch ∈ ("abZ_9notcuslem" : Str).cps.toList)) = !decide (ch ∈ lets) := by
              rw [lit_lets]
            refine ⟨rfl, _, rfl, ch, _, rfl, rfl, _, rfl, ?_⟩
            by_cases hc : ch ∈ lets
            · rw [if_pos hc, List.append_nil] at e5
              refine ifF (e6.trans (by rw [decide_eq_true hc]; rfl)) ⟨sm, ?_⟩
              rw [e5]
              exact hD
            · rw [if_neg hc] at e5
              refine ifT (e6.trans (by rw [decide_eq_false hc]; rfl)) ⟨_, rfl, _, hD, ?_, fun b o z => ?_, ?_⟩
              · rw [List.length_map]
                refine small1000 (Nat.le_trans (List.length_filter_le _ _) ?_)
                rw [List.length_take]
                omega
              · rw [upd_ne (ne_of_none z hn0)]
                exact sm _ _ z
              · rw [upd_same, e5, List.map_append]
                rfl
          · rintro H2 ⟨sm, hD⟩
            have hl : (S (c :: y)).cps.size = (c :: y).length := rfl
            rw [hl, List.take_length] at hD
            refine ⟨Nat.zero_le _, fun n1 hn1 => ⟨_, _, _, rfl, rfl, SqL.of (same_new hn1 _ _ hD), SqL.of upd_same, ?_⟩⟩
            have q1 := q _ (sm.trans (same_new (o := .lst []) hn1))
            rw [e4, h1, h2, ← filt_nil] at q1
            have e7 : ∀ l : List Nat, (l.map fun c => V.str (S [c])).isEmpty = l.isEmpty := fun l => by cases l <;> rfl
            rw [if_neg Bool.false_ne_true, e7]
            exact q1
/-- the first sign's kind -/
theorem c1_ok (T : Tx K mg) (hr : RoomL 9 A s f cdv) : ∃ t : TS, PS (XL P w K mg base f cdv A outer s H E) (sn 4) t ∧ ∀ (D : Ends) (sa d row tp : Addr) (v : Vl) (x3 x4 x5 x9 x10 x11 x12 : Option V) (H' : Hp), v.Ok → SgnsAt K H' tp [v.tok] →
    D.nx (sl sa d row x3 x4 x5 (some v.v) (some (.str (S v.told))) (some (.ref tp)) x9 x10 x11 x12) H' → t D (sl sa d row x3 x4 x5 (some v.v) (some (.str (S v.told))) (some (.ref tp)) x9 x10 x11 x12) H' := by
  refine ⟨_, ps_if (PW.pt (pw_or (pt_cmpR op_ne (pe_callB call_len_seq (by rfl) T.fr_len PySem.boot_len (pa_cons (pv 8) pa_nil)) pe_int (nomark _)) (pw_or1 (pt_cmpR op_ne (pe_fld (pe_ix ix_tup (pv 8) pe_int (fun _ _ => rfl)) rfl) (pe_ifExp (pt_val (pe_callB call_isi (by rfl) T.fr_isinstance (by decide +kernel) (pa_cons (pv 6) (pa_cons (pe_bltn (v := .ty "int") (by rfl) T.fr_int (by decide +kernel) rfl) pa_nil)))) pe_str (pe_ifExp (pt_cmpR op_eq (pe_ix ix_str (pv 7) pe_int (fun _ _ => rfl)) pe_str (nomark _)) pe_str pe_str)) (nomark _))))) (pss_one (ps_ret pe_bl)) pss_nil, ?_⟩
  intro D sa d row tp v x3 x4 x5 x9 x10 x11 x12 H' hv hs q
  obtain ⟨as, htp, hsl⟩ := hs
  obtain ⟨a, ha, hsg⟩ := hsl.get (i := 0) rfl
  have has : as = [a] := by
    cases as with
    | nil => cases ha
    | cons b r =>
      cases r with
      | nil => exact congrArg (fun x => [x]) (Option.some.inj ha)
      | cons b2 r2 => exact absurd hsl.1 (by simp)
  subst has
  obtain ⟨da, r, c, ha1⟩ := hsg
  refine ⟨_, rfl, tp, _, rfl, .inr (SqT.of htp), rfl, _, rfl, ifF (ne_self (v := .int 1)) ?_⟩
  cases v with
  | int n => exact ⟨_, rfl, tp, _, 0, .ref a, rfl, rfl, SqT.of htp, rfl, a, _, da, _, _, rfl, ha1, T.cl_Sign, T.na_Sign_kind, rfl, _, rfl, .int n, .ty "int", .type "int", .type "int", true, rfl, .ty _, .base (.int n), kit_ty (by decide +kernel), _, rfl, rfl, _, rfl, ifF (ne_self (v := .str "number")) q⟩
  | str x =>
    refine ⟨_, rfl, tp, _, 0, .ref a, rfl, rfl, SqT.of htp, rfl, a, _, da, _, _, rfl, ha1, T.cl_Sign, T.na_Sign_kind, rfl, _, rfl, .str (S x), .ty "int", .type "str", .type "int", false, rfl, .ty _, .base (.str _), kit_ty (by decide +kernel), _, rfl, ?_⟩
    have hlen := told_len hv
    by_cases hb : bareB x = true
    · obtain ⟨c, w', e, hc, hw⟩ := plain_cons (bare_plain hb).1
      have et : (Vl.str x).told = c :: w' := by
        show (if bareB x = true then x else 39 :: (enc x ++ [39])) = _
        rw [if_pos hb, e]
      have ek : (Vl.str x).tok = Tok.word x := by
        show (if bareB x = true then Tok.word x else Tok.quo x) = _
        rw [if_pos hb]
      rw [ek]
      refine ⟨_, rfl, _, _, c, rfl, rfl, len_le (by omega), at_drop (i := 0) et, rfl, _, rfl, ifF (sg_ne lit_q ?_) ⟨rfl, _, rfl, ifF (ne_self (v := .str "word")) q⟩⟩
      have := smalls_iff.mp hc
      omega
    · have et : (Vl.str x).told = 39 :: (enc x ++ [39]) := by
        show (if bareB x = true then x else 39 :: (enc x ++ [39])) = _
        rw [if_neg hb]
      have ek : (Vl.str x).tok = Tok.quo x := by
        show (if bareB x = true then Tok.word x else Tok.quo x) = _
        rw [if_neg hb]
      rw [ek]
      refine ⟨_, rfl, _, _, 39, rfl, rfl, len_le (by omega), at_drop (i := 0) et, rfl, _, rfl, ifT (sg_is lit_q) ⟨rfl, _, rfl, ifF (ne_self (v := .str "quoted")) q⟩⟩
/-- what the first sign says; the term written -/
theorem c2_ok (T : Tx K mg) (hr : RoomL 9 A s f cdv) : ∃ t : TS, PS (XL P w K mg base f cdv A outer s H E) (sn 5) t ∧ ∀ (D : Ends) (sa d row tp : Addr) (v : Vl) (x3 x4 x5 x9 x10 x11 x12 : Option V) (H' : Hp), v.Ok → SgnsAt K H' tp [v.tok] →
    (∀ H'', Same H' H'' → D.nx (sl sa d row x3 x4 x5 (some v.v) (some (.str (S v.told))) (some (.ref tp)) x9 x10 x11 x12) H'') → t D (sl sa d row x3 x4 x5 (some v.v) (some (.str (S v.told))) (some (.ref tp)) x9 x10 x11 x12) H' := by
  refine ⟨_, ps_if (PW.pt (pw_or (pt_cmpR op_ne (pe_ifExp (pt_val (pe_callB call_isi (by rfl) T.fr_isinstance (by decide +kernel) (pa_cons (pv 6) (pa_cons (pe_bltn (v := .ty "int") (by rfl) T.fr_int (by decide +kernel) rfl) pa_nil)))) (pe_callTy call_int_str (by rfl) T.fr_int (by decide +kernel) (pa_cons (pe_fld (pe_ix ix_tup (pv 8) pe_int (fun _ _ => rfl)) rfl) pa_nil)) (pe_fld (pe_ix ix_tup (pv 8) pe_int (fun _ _ => rfl)) rfl)) (pv 6) (nomark _)) (pw_or1 (pt_cmpR op_ne (pe_c (ok_told_term T) hr (by decide) (by rfl) (pa_cons (pe_c (ok_val T) hr (by decide) (by rfl) (pa_cons (pv 6) pa_nil)) pa_nil)) (pv 7) (nomark _))))) (pss_one (ps_ret pe_bl)) pss_nil, ?_⟩
  intro D sa d row tp v x3 x4 x5 x9 x10 x11 x12 H' hv hs q
  obtain ⟨as, htp, hsl⟩ := hs
  obtain ⟨a, ha, hsg⟩ := hsl.get (i := 0) rfl
  obtain ⟨da, r, c, ha1⟩ := hsg
  have h0 : atI (as.map V.ref) 0 = some (.ref a) := atI_nat (j := 0) (by rw [List.getElem?_map, ha]; rfl)
  cases v with
  | int n =>
    refine ⟨_, rfl, .int n, .ty "int", .type "int", .type "int", true, rfl, .ty _, .base (.int n), kit_ty (by decide +kernel), _, rfl, _, rfl, tp, _, 0, .ref a, rfl, rfl, SqT.of htp, h0, a, _, da, _, _, rfl, ha1, T.cl_Sign, T.na_Sign_said, rfl, _, n, rfl, int_digits hv, ?_, _, rfl, rfl, _, rfl, ifF (ne_self (v := .int n)) ?_⟩
    · show (S (digits n)).length ≤ 640
      rw [S_len]
      exact Nat.le_trans (digits_len hv) (by decide)
    · exact ⟨_, rfl, .int n, rfl, fun H1 b sm _ htm => ⟨b, rfl, .inl ⟨.int n, htm, hv, fun H2 sm2 => ⟨_, rfl, rfl, _, rfl, ifF (ne_self (v := .str (S (Vl.int n).told))) (q H2 (sm.trans sm2))⟩⟩⟩⟩
  | str x =>
    obtain ⟨e1, _⟩ := str_tok x
    refine ⟨_, rfl, .str (S x), .ty "int", .type "str", .type "int", false, rfl, .ty _, .base (.str _), kit_ty (by decide +kernel), _, rfl, _, rfl, tp, _, 0, .ref a, rfl, rfl, SqT.of htp, h0, a, _, da, _, _, rfl, ha1, T.cl_Sign, T.na_Sign_said, rfl, _, rfl, rfl, _, rfl, ifF ?_ ?_⟩
    · rw [e1]
      exact ne_self (v := .str (S x))
    · exact ⟨_, rfl, .str x, rfl, fun H1 b sm _ htm => ⟨b, rfl, .inl ⟨.str x, htm, hv, fun H2 sm2 => ⟨_, rfl, rfl, _, rfl, ifF (ne_self (v := .str (S (Vl.str x).told))) (q H2 (sm.trans sm2))⟩⟩⟩⟩
/-- a plain word is written bare -/
theorem c3_ok (T : Tx K mg) (hr : RoomL 9 A s f cdv) : ∃ t : TS, PS (XL P w K mg base f cdv A outer s H E) (sn 7) t ∧ ∀ (D : Ends) (sa d row tp : Addr) (v : Vl) (x3 x4 x5 x10 x11 x12 : Option V) (H' : Hp), v.Ok →
    (∀ H'', Same H' H'' → D.nx (sl sa d row x3 x4 x5 (some v.v) (some (.str (S v.told))) (some (.ref tp)) (some (.bl v.now)) x10 x11 x12) H'') → t D (sl sa d row x3 x4 x5 (some v.v) (some (.str (S v.told))) (some (.ref tp)) (some (.bl v.now)) x10 x11 x12) H' := by
  refine ⟨_, ps_if (PW.pt (pw_and (pt_val (pv 9)) (pw_and (pt_cmpR op_notIn_seq (pv 6) (pe_lst (pa_cons pe_str (pa_cons pe_str (pa_cons pe_str (pa_cons pe_str (pa_cons pe_str pa_nil)))))) rfl) (pw_and1 (pt_cmpR op_ne (pv 7) (pv 6) (nomark _)))))) (pss_one (ps_ret pe_bl)) pss_nil, ?_⟩
  intro D sa d row tp v x3 x4 x5 x10 x11 x12 H' hv q
  refine ⟨_, rfl, _, rfl, ?_⟩
  cases v with
  | int n => exact q H' (Same.refl H')
  | str x =>
    refine ite2 (fun e1 => ?_) (fun e1 => q H' (Same.refl H'))
    refine ⟨_, rfl, by show 5 ≤ sizeLine; decide, fun t0 ht0 => ?_⟩
    have sm : Same H' (upd H' t0 (.lst [.str "not", .str "count", .str "sum", .str "least", .str "most"])) := same_new ht0
    refine ⟨t0, _, rfl, .inl (SqL.of upd_same), rfl, by rw [kws_eq]; exact flat_S _, _, rfl, ?_⟩
    have ei : inV (V.str (S x)) [.str "not", .str "count", .str "sum", .str "least", .str "most"] = decide (x ∈ kws) := by
      rw [kws_eq]
      exact inV_S x kws
    by_cases hk : x ∈ kws
    · refine ifF ?_ (q _ sm)
      show (!inV (V.str (S x)) [.str "not", .str "count", .str "sum", .str "least", .str "most"]) = false
      rw [ei, decide_eq_true hk]
      rfl
    · refine ifT ?_ ⟨_, rfl, _, rfl, rfl, _, rfl, ifF ?_ (q _ sm)⟩
      · show (!inV (V.str (S x)) [.str "not", .str "count", .str "sum", .str "least", .str "most"]) = true
        rw [ei, decide_eq_false hk]
        rfl
      · have hp : plainB x = true := (now_plain hv.2.1).symm.trans e1
        have hb : bareB x = true := by
          unfold bareB
          rw [hp, decide_eq_false hk]
          rfl
        have et : (Vl.str x).told = x := by
          show (if bareB x = true then x else 39 :: (enc x ++ [39])) = _
          rw [if_pos hb]
        rw [et]
        exact ne_self (v := .str (S x))
/-- a kept word is written in quotes -/
theorem c4_ok (T : Tx K mg) (hr : RoomL 9 A s f cdv) : ∃ t : TS, PS (XL P w K mg base f cdv A outer s H E) (sn 8) t ∧ ∀ (D : Ends) (sa d row tp : Addr) (v : Vl) (x3 x4 x5 x9 x10 x11 x12 : Option V) (H' : Hp), v.Ok →
    (∀ H'', Same H' H'' → D.nx (sl sa d row x3 x4 x5 (some v.v) (some (.str (S v.told))) (some (.ref tp)) x9 x10 x11 x12) H'') → t D (sl sa d row x3 x4 x5 (some v.v) (some (.str (S v.told))) (some (.ref tp)) x9 x10 x11 x12) H' := by
  refine ⟨_, ps_if (PW.pt (pw_and (pt_cmpR op_in_seq (pv 6) (pe_lst (pa_cons pe_str (pa_cons pe_str (pa_cons pe_str (pa_cons pe_str (pa_cons pe_str pa_nil)))))) rfl) (pw_and1 (pt_cmpR op_eq (pv 7) (pv 6) (nomark _))))) (pss_one (ps_ret pe_bl)) pss_nil, ?_⟩
  intro D sa d row tp v x3 x4 x5 x9 x10 x11 x12 H' hv q
  refine ⟨_, rfl, by show 5 ≤ sizeLine; decide, fun t0 ht0 => ?_⟩
  have sm : Same H' (upd H' t0 (.lst [.str "not", .str "count", .str "sum", .str "least", .str "most"])) := same_new ht0
  cases v with
  | int n => exact ⟨t0, _, rfl, .inl (SqL.of upd_same), rfl, by rw [kws_eq]; exact flat_S _, _, rfl, q _ sm⟩
  | str x =>
    refine ⟨t0, _, rfl, .inl (SqL.of upd_same), rfl, by rw [kws_eq]; exact flat_S _, _, rfl, ?_⟩
    have ei : inV (V.str (S x)) [.str "not", .str "count", .str "sum", .str "least", .str "most"] = decide (x ∈ kws) := by
      rw [kws_eq]
      exact inV_S x kws
    by_cases hk : x ∈ kws
    · refine ifT (ei.trans (decide_eq_true hk)) ⟨_, rfl, _, rfl, rfl, _, rfl, ifF ?_ (q _ sm)⟩
      show decide (V.str (S (Vl.str x).told) = V.str (S x)) = false
      rw [dec_S]
      exact decide_eq_false (kws_told hk)
    · exact ifF (ei.trans (decide_eq_false hk)) (q _ sm)
/-- names -/
theorem c5_ok (T : Tx K mg) (hr : RoomL 9 A s f cdv) : ∃ t : TS, PS (XL P w K mg base f cdv A outer s H E) (sn 9) t ∧ ∀ (D : Ends) (sa d row tp : Addr) (v : Vl) (x3 x4 x5 x7 x8 x10 x11 x12 : Option V) (H' : Hp), v.Ok →
    D.nx (sl sa d row x3 x4 x5 (some v.v) x7 x8 (some (.bl v.now)) x10 x11 x12) H' → t D (sl sa d row x3 x4 x5 (some v.v) x7 x8 (some (.bl v.now)) x10 x11 x12) H' := by
  refine ⟨_, ps_if (PW.pt (pw_and (pt_not (pt_val (pe_callB call_isi (by rfl) T.fr_isinstance (by decide +kernel) (pa_cons (pv 6) (pa_cons (pe_bltn (v := .ty "int") (by rfl) T.fr_int (by decide +kernel) rfl) pa_nil))))) (pw_and1 (pt_cmpR op_ne (pe_c (ok_is_name T) hr (by decide) (by rfl) (pa_cons (pv 6) pa_nil)) (pe_and (pv 9) (pe_one (pe_cmpR op_ne (pv 6) pe_str (nomark _)))) (nomark _))))) (pss_one (ps_ret pe_bl)) pss_nil, ?_⟩
  intro D sa d row tp v x3 x4 x5 x7 x8 x10 x11 x12 H' hv q
  cases v with
  | int n => exact ⟨_, rfl, .int n, .ty "int", .type "int", .type "int", true, rfl, .ty _, .base (.int n), kit_ty (by decide +kernel), _, rfl, q⟩
  | str x =>
    have hl : x.length ≤ 1000 := Nat.le_trans hv.1 (by decide)
    refine ⟨_, rfl, .str (S x), .ty "int", .type "str", .type "int", false, rfl, .ty _, .base (.str _), kit_ty (by decide +kernel), _, rfl, _, rfl, x, rfl, hl, _, rfl, _, rfl, ?_⟩
    have hp := now_plain hv.2.1
    have en : (Vl.str x).now = nowB x := rfl
    rw [← hp, en]
    have e2 : (!decide ((Vl.str x).v = V.str ("not" : Str))) = !decide (x = [110, 111, 116]) := by
      show (!decide (V.str (S x) = V.str ("not" : Str))) = _
      rw [lit_not, dec_S]
    rw [en] at q
    cases hn : nowB x with
    | false =>
      rw [hn] at q
      refine iteF ⟨rfl, _, rfl, ifF ?_ q⟩
      rw [Bool.and_false]
      exact ne_self
    | true =>
      rw [hn] at q
      refine iteT ⟨_, rfl, rfl, rfl, _, rfl, ifF ?_ q⟩
      rw [e2, Bool.and_true]
      exact ne_self
/-- one turn of the law -/
theorem turn_ok (T : Tx K mg) (hr : RoomL 9 A s f cdv) : ∃ t : TS, PSs (XL P w K mg base f cdv A outer s H E) sTurn t ∧ ∀ (D : Ends) (sa d row R : Addr) (us : List Vl) (x3 x4 x5 x6 x7 x8 x9 x10 x11 x12 : Option V) (H' : Hp), Apart d row R → us.length ≤ 100 → J d row R us H' →
    (∀ (v : Vl) (y4 y5 y6 y7 y8 y9 : Option V) (H'' : Hp), v.Ok → J d row R (us ++ [v]) H'' → D.nx (sl sa d row x3 y4 y5 y6 y7 y8 y9 x10 x11 x12) H'') → t D (sl sa d row x3 x4 x5 x6 x7 x8 x9 x10 x11 x12) H' := by
  have nd := sc_law.nd
  obtain ⟨t0, p0, q0⟩ := pick_ok (P := P) (w := w) (base := base) (outer := outer) (H := H) (E := E) T hr
  obtain ⟨t4, p4, q4⟩ := c1_ok (P := P) (w := w) (base := base) (outer := outer) (H := H) (E := E) T hr
  obtain ⟨t5, p5, q5⟩ := c2_ok (P := P) (w := w) (base := base) (outer := outer) (H := H) (E := E) T hr
  obtain ⟨t6, p6, q6⟩ := plain_ok (P := P) (w := w) (base := base) (outer := outer) (H := H) (E := E) T hr
  obtain ⟨t7, p7, q7⟩ := c3_ok (P := P) (w := w) (base := base) (outer := outer) (H := H) (E := E) T hr
  obtain ⟨t8, p8, q8⟩ := c4_ok (P := P) (w := w) (base := base) (outer := outer) (H := H) (E := E) T hr
  obtain ⟨t9, p9, q9⟩ := c5_ok (P := P) (w := w) (base := base) (outer := outer) (H := H) (E := E) T hr
  refine ⟨_, pss_cons p0 (pss_cons (ps_expr (pe_bm PySem.F.plainAttrs_list PySem.F.slot_list_append PySem.F.type_list_append mt_append (pv 2) (pa_cons (pv 6) pa_nil))) (pss_cons (ps_set (i := 7) nd rfl (.inl rfl) (pe_c (ok_told_value T) hr (by decide) (by rfl) (pa_cons (pv 6) pa_nil))) (pss_cons (ps_set (i := 8) nd rfl (.inl rfl) (pe_c (ok_cut T) hr (by decide) (by rfl) (pa_cons (pv 7) pa_nil))) (pss_cons p4 (pss_cons p5 (pss_cons p6 (pss_cons p7 (pss_cons p8 (pss_one p9))))))))), ?_⟩
  intro D sa d row R us x3 x4 x5 x6 x7 x8 x9 x10 x11 x12 H' ap hus j q
  refine q0 _ sa d row R us x3 x4 x5 x6 x7 x8 x9 x10 x11 x12 H' ap j ?_
  intro v y4 y5 H1 hv j1
  have j2 : J d row R (us ++ [v]) (upd H1 row (.lst (us.map Vl.v ++ [v.v]))) := by
    obtain ⟨⟨a, b, c, hd⟩, hro, hrr⟩ := j1
    refine ⟨⟨a, b, c, (upd_ne ap.dr).trans hd⟩, ?_, (upd_ne ap.rr).trans hrr⟩
    rw [upd_same, List.map_append]
    rfl
  refine ⟨_, rfl, .inl ⟨rfl, _, SqL.of j1.ro⟩, _, rfl, row, _, _, rfl, rfl, j1.ro, ?_, ?_⟩
  · rw [List.length_map]
    exact small1000 (by omega)
  have hlen := told_len hv
  refine ⟨_, rfl, v, rfl, hv, fun H2 s2 => ⟨_, rfl, v.told, [v.tok], rfl, by omega, cuts_one hv, (by show 1 ≤ 1000; decide), fun t ht => ?_, fun H3 tp s3 hsg htp => ?_⟩⟩
  · rw [List.mem_singleton] at ht
    subst ht
    exact tok_sd_len hv
  have j3 := j2.same (s2.trans s3)
  refine q4 _ sa d row tp v x3 y4 y5 x9 x10 x11 x12 H3 hv hsg ?_
  refine q5 _ sa d row tp v x3 y4 y5 x9 x10 x11 x12 H3 hv hsg fun H4 s4 => ?_
  refine q6 _ sa d row v x3 y4 y5 _ _ x9 x10 x11 x12 H4 hv fun H5 s5 => ?_
  refine q7 _ sa d row tp v x3 y4 y5 x10 x11 x12 H5 hv fun H6 s6 => ?_
  refine q8 _ sa d row tp v x3 y4 y5 _ x10 x11 x12 H6 hv fun H7 s7 => ?_
  refine q9 _ sa d row tp v x3 y4 y5 _ _ x10 x11 x12 H7 hv ?_
  exact q v y4 y5 _ _ _ _ H7 hv (j3.same (((s4.trans s5).trans s6).trans s7))
end
end K46
set_option Elab.async false
set_option linter.all false
set_option maxRecDepth 100000
set_option maxHeartbeats 4000000
/-! The law: the row read again. Made of K46Y.txt by genw.py. -/
namespace K46
open PySem PySem.Spec PyProof.Rows L2 SX
open C8 (Cal Met Mak pe_c pe_mt pe_mt0 pe_mk fn0 pe_gc pss_cut)
def sb (k : Nat) : Stmt := sBody.getD k (.Pass ⟨0, 0, 0, 0⟩)
def Vl.pd : Vl → PyData
  | .int n => .int n
  | .str w => .str (S w)
theorem dp_v {K : PySem.W.Frag} {H : Hp} (v : Vl) : Dp K H v.v v.pd := by
  cases v with
  | int n => exact .int n
  | str w => exact .str _
theorem dp_row {K : PySem.W.Frag} {H : Hp} : ∀ us : List Vl, DpAll K H (us.map Vl.v) (us.map Vl.pd)
  | [] => .nil
  | v :: us => .cons (dp_v v) (dp_row us)
theorem can_v {v : Vl} (h : v.Ok) : v.pd.canLay0 = true := by
  cases v with
  | int n => rfl
  | str w =>
    show PyData.canLay0 (.str (S w)) = true
    rw [PyData.canLay0.eq_4]
    have hc := h.2.2
    have e : PyData.strOk (S w) = w.all fun c => decide (c < 1114112) := by simp [PyData.strOk, SX.S]
    rw [e, List.all_eq_true]
    intro c hm
    have := hc c hm
    exact decide_eq_true (by omega)
theorem dep_v (v : Vl) : v.pd.depth = 0 := by cases v <;> rfl
theorem can_row : ∀ {us : List Vl}, (∀ v ∈ us, v.Ok) → PyData.canLayAll0 (us.map Vl.pd) = true
  | [], _ => rfl
  | v :: us, h => by
    rw [List.map_cons, PyData.canLayAll0, can_v (h v (List.mem_cons_self ..)), can_row fun x hx => h x (List.mem_cons_of_mem _ hx)]
    rfl
theorem dep_row : ∀ us : List Vl, PyData.depthAll (us.map Vl.pd) = 0
  | [] => rfl
  | v :: us => by rw [List.map_cons, PyData.depthAll, dep_v v, dep_row us]; rfl
def rowD (us : List Vl) : PyData := .tuple (us.map Vl.pd)
def factD (us : List Vl) : PyData := .tuple [.str (S [101]), rowD us]
theorem can_rowD {us : List Vl} (h : ∀ v ∈ us, v.Ok) : (rowD us).canLay0 = true := by
  unfold rowD
  rw [PyData.canLay0.eq_6]
  exact can_row h
theorem dep_rowD (us : List Vl) : (rowD us).depth = 1 := by
  show (PyData.tuple (us.map Vl.pd)).depth = 1
  rw [PyData.depth, dep_row]
theorem can_factD {us : List Vl} (h : ∀ v ∈ us, v.Ok) : (factD us).canLay0 = true := by
  unfold factD
  rw [PyData.canLay0.eq_6, PyData.canLayAll0, PyData.canLayAll0, can_rowD h, PyData.canLay0.eq_4, PyData.canLayAll0]
  decide +kernel
theorem dep_factD (us : List Vl) : (factD us).depth = 2 := by
  unfold factD
  rw [PyData.depth, PyData.depthAll, PyData.depthAll, dep_rowD]
  rfl
theorem sh_rowD {us : List Vl} (h : ∀ v ∈ us, v.Ok) : SeqAt.shaped (rowD us) = true := by
  unfold SeqAt.shaped
  rw [can_rowD h, dep_rowD]
  rfl
theorem sh_factD {us : List Vl} (h : ∀ v ∈ us, v.Ok) : SeqAt.shaped (factD us) = true := by
  unfold SeqAt.shaped
  rw [can_factD h, dep_factD]
  rfl
theorem ne_rowD {us : List Vl} (h : ∀ v ∈ us, v.Ok) : (!PyData.eqv (rowD us) (rowD us)) = false := by
  rw [SeqAt.eqv_refl _ (can_rowD h)]
  rfl
theorem ne_factD {us : List Vl} (h : ∀ v ∈ us, v.Ok) : (!PyData.eqv (factD us) (factD us)) = false := by
  rw [SeqAt.eqv_refl _ (can_factD h)]
  rfl
theorem dp_rowD {K : PySem.W.Frag} {H : Hp} {a : Addr} {us : List Vl} (h : H a = some (.tup (us.map Vl.v))) : Dp K H (.ref a) (rowD us) := .tup (SqT.of h) (dp_row us)
theorem dp_factD {K : PySem.W.Frag} {H : Hp} {a b : Addr} {us : List Vl} (h : H a = some (.tup [.str (S [101]), .ref b])) (h2 : H b = some (.tup (us.map Vl.v))) : Dp K H (.ref a) (factD us) := .tup (SqT.of h) (.cons (.str _) (.cons (dp_rowD h2) .nil))
theorem nm_e : NmOk [101] := ⟨⟨101, [], rfl, by decide, fun _ h => by cases h⟩, by decide⟩
section
variable {P : Program} {w : World} {K : PySem.W.Frag} {mg : Str → Option Value} {base : Heap} {f : Addr} {cdv : Value} {A : Around} {outer : List Env} {s : Shared} {H : Hp} {E : XK}
/-- the fact read again, the fact written by its atom -/
theorem e1_ok (T : Tx K mg) (hr : RoomL 9 A s f cdv) : ∃ t : TS, PS (XL P w K mg base f cdv A outer s H E) (sb 2) t ∧ ∀ (D : Ends) (sa d row R : Addr) (us : List Vl) (x3 x4 x5 x6 x7 x8 x9 x10 x11 x12 : Option V) (H0 : Hp), J d row R us H0 → (∀ v ∈ us, v.Ok) → us.length ≤ 100 →
    (∀ H', Same H0 H' → D.nx (sl sa d row x3 x4 x5 x6 x7 x8 x9 x10 x11 x12) H') → t D (sl sa d row x3 x4 x5 x6 x7 x8 x9 x10 x11 x12) H0 := by
  have nd := sc_law.nd
  refine ⟨_, ps_if (PW.pt (pw_or (pt_cmpR (op_neD hr.units) (pe_c (ok_read_fact T) hr (by decide) (by rfl) (pa_cons (pe_c (ok_fact_text T) hr (by decide) (by rfl) (pa_cons pe_str (pa_cons (pe_callTy call_tuple_of (by rfl) T.fr_tuple (by decide +kernel) (pa_cons (pv 2) pa_nil)) pa_nil))) pa_nil)) (pe_tup (pa_cons pe_str (pa_cons (pe_callTy call_tuple_of (by rfl) T.fr_tuple (by decide +kernel) (pa_cons (pv 2) pa_nil)) pa_nil))) (nomark _)) (pw_or1 (pt_cmpR op_ne (pe_c (ok_fact_text T) hr (by decide) (by rfl) (pa_cons pe_str (pa_cons (pe_callTy call_tuple_of (by rfl) T.fr_tuple (by decide +kernel) (pa_cons (pv 2) pa_nil)) pa_nil))) (pe_op op_add_str (pe_c (ok_told_atom T) hr (by decide) (by rfl) (pa_cons pe_str (pa_cons (pe_lc (own := [("_law_value", 6)]) (g := gName 6) (tt := tYes) rfl nd (pi_list (pv 2)) (blkOk_by (own := [("_law_value", 6)]) (N := NL) (sc := C8.fnScope s_law) (by decide +kernel)) (fun _ _ _ _ _ => pg_name (i := 6) nd rfl (Or.inl rfl)) (fun _ _ _ _ _ => pts_nil) (fun _ _ _ _ _ => pe_c (ok_val T) hr (by decide) (by rfl) (pa_cons (pv 6) pa_nil))) pa_nil))) pe_str) (nomark _))))) (pss_one (ps_ret pe_bl)) pss_nil, ?_⟩
  intro D sa d row R us x3 x4 x5 x6 x7 x8 x9 x10 x11 x12 H0 j hv hus q
  refine ⟨_, rfl, row, _, rfl, .inl ⟨SqL.of j.ro, fun l hl => ?_⟩⟩
  have m1 : Same H0 (upd H0 l (.tup (us.map Vl.v))) := same_new hl
  refine ⟨[101], l, us, (by rw [lit_ee]; rfl), SqT.of upd_same, hv, by decide, hus, fun H1 s1 => ⟨[101], us, rfl, nm_e, hv, hus, fun H2 t r s2 ht htr => ?_⟩⟩
  have m2 := (m1.trans s1).trans s2
  have j2 := j.same m2
  refine ⟨_, rfl, row, _, rfl, .inl ⟨SqL.of j2.ro, fun l2 hl2 => ⟨by show 2 ≤ sizeLine; decide, fun p hp => ?_⟩⟩⟩
  have m3 : Same H2 (upd (upd H2 l2 (.tup (us.map Vl.v))) p (.tup [.str ("e" : Str), .ref l2])) := (same_new hl2).trans (same_new hp)
  have hp2 : (upd (upd H2 l2 (.tup (us.map Vl.v))) p (.tup [.str ("e" : Str), .ref l2])) p = some (.tup [.str (S [101]), .ref l2]) := by rw [upd_same, lit_ee]
  refine ⟨factD us, factD us, dp_factD (m3 _ _ ht) (m3 _ _ htr), dp_factD hp2 ((same_new hp) _ _ upd_same), sh_factD hv, sh_factD hv, _, rfl, ifF (ne_factD hv) ?_⟩
  have j3 := j2.same m3
  refine ⟨_, rfl, row, _, rfl, .inl ⟨SqL.of j3.ro, fun l3 hl3 => ?_⟩⟩
  have j4 := j3.same (same_new (o := .tup (us.map Vl.v)) hl3)
  refine ⟨[101], l3, us, (by rw [lit_ee]; rfl), SqT.of upd_same, hv, by decide, hus, fun H4 s4 => ?_⟩
  have j5 := j4.same s4
  have m5 : Same H0 H4 := (m2.trans m3).trans ((same_new hl3).trans s4)
  refine ⟨_, rfl, row, rfl, ⟨_, SqL.of j5.ro⟩, fun B hB => lc_list (K := K) (a := row) (xs := us.map Vl.v) (fun i H' => Same H4 H' ∧ ∃ as : List Addr, H' B = some (.lst (as.map V.ref)) ∧ TmsL K H' as (us.take i)) ⟨same_new hB, [], upd_same, .nil⟩ (fun i H' _ h => SqL.of (h.1 _ _ j5.ro)) ?_ ?_⟩
  · rintro i x H' hi ⟨sm, as, hD', hT⟩
    obtain ⟨v, hvi, rfl⟩ : ∃ v, us[i]? = some v ∧ x = v.v := by
      rw [List.getElem?_map] at hi
      cases z : us[i]? with
      | none =>
        rw [z] at hi
        cases hi
      | some v =>
        rw [z] at hi
        exact ⟨v, rfl, (Option.some.inj hi).symm⟩
    refine ⟨rfl, _, rfl, v, rfl, fun H'' a sm2 ha htm => ⟨_, sm2 _ _ hD', ?_, ?_, as ++ [a], ?_, ?_⟩⟩
    · rw [List.length_map, hT.1, List.length_take]
      exact small1000 (by omega)
    · exact fun b o z => by
        rw [upd_ne (ne_of_none z hB)]
        exact sm2 _ _ (sm _ _ z)
    · rw [upd_same, List.map_append]
      rfl
    · have e : us.take (i + 1) = us.take i ++ [v] := by
        rw [List.take_add_one, hvi]
        rfl
      rw [e]
      have hDD : H'' B = some (.lst (as.map V.ref)) := sm2 _ _ hD'
      have k : ∀ b u, TmAt K H'' b u → TmAt K (upd H'' B (.lst (as.map V.ref ++ [.ref a]))) b u := fun b u h => h.mod (A := [B]) (Mod.upd (by simp)) (by
        rw [List.mem_singleton]
        exact h.ne_lst hDD)
      exact TmsL.snoc ((hT.same sm2).keep k) (k a v htm)
  · rintro H' ⟨sm, as, hD', hT⟩
    rw [List.length_map, List.take_length] at hT
    refine ⟨[101], B, as, us, (by rw [lit_ee]; rfl), SqL.of hD', hT, hv, by decide, hus, fun H'' sm2 => ⟨_, _, rfl, rfl, ?_, rfl, _, rfl, ifF ?_ (q H'' ((m5.trans sm).trans sm2))⟩⟩
    · rw [lit_dot, S_len, S_len]
      exact Nat.le_trans (show (atomL [101] us).length + 1 ≤ 10000 by have := atomL_len (nm := [101]) hv (by decide) hus; omega) (by decide)
    · rw [lit_dot, S_cat]
      exact ne_self (v := .str (S (factL [101] us)))
/-- the rule read -/
theorem e2_ok (T : Tx K mg) (hr : RoomL 9 A s f cdv) : ∃ t : TS, PS (XL P w K mg base f cdv A outer s H E) (sb 3) t ∧ ∀ (D : Ends) (sa d row R : Addr) (us : List Vl) (x3 x4 x5 x6 x7 x8 x9 x10 x11 x12 : Option V) (H0 : Hp), J d row R us H0 → (∀ v ∈ us, v.Ok) → us.length ≤ 100 →
    (∀ (H' : Hp) (ru : Addr) (as : List Addr), Same H0 H' → RuleAt K H' ru (S [101]) as us → D.nx (sl sa d row x3 x4 x5 x6 x7 x8 x9 x10 (some (.ref ru)) x12) H') → t D (sl sa d row x3 x4 x5 x6 x7 x8 x9 x10 x11 x12) H0 := by
  have nd := sc_law.nd
  refine ⟨_, ps_set (i := 11) nd rfl (.inl rfl) (pe_c (ok_read_rule T) hr (by decide) (by rfl) (pa_cons (pe_c (ok_fact_text T) hr (by decide) (by rfl) (pa_cons pe_str (pa_cons (pe_callTy call_tuple_of (by rfl) T.fr_tuple (by decide +kernel) (pa_cons (pv 2) pa_nil)) pa_nil))) pa_nil)), ?_⟩
  intro D sa d row R us x3 x4 x5 x6 x7 x8 x9 x10 x11 x12 H0 j hv hus q
  refine ⟨_, rfl, row, _, rfl, .inl ⟨SqL.of j.ro, fun l hl => ?_⟩⟩
  have m1 : Same H0 (upd H0 l (.tup (us.map Vl.v))) := same_new hl
  exact ⟨[101], l, us, (by rw [lit_ee]; rfl), SqT.of upd_same, hv, by decide, hus, fun H1 s1 => ⟨[101], us, rfl, nm_e, hv, hus, fun H2 ru as s2 hru => q H2 ru as ((m1.trans s1).trans s2) hru⟩⟩
/-- the rule written, its terms -/
theorem e3_ok (T : Tx K mg) (hr : RoomL 9 A s f cdv) : ∃ t : TS, PS (XL P w K mg base f cdv A outer s H E) (sb 4) t ∧ ∀ (D : Ends) (sa d row R ru : Addr) (as : List Addr) (us : List Vl) (x3 x4 x5 x6 x7 x8 x9 x10 x12 : Option V) (H0 : Hp), J d row R us H0 → (∀ v ∈ us, v.Ok) → us.length ≤ 100 → RuleAt K H0 ru (S [101]) as us →
    (∀ H', Same H0 H' → D.nx (sl sa d row x3 x4 x5 x6 x7 x8 x9 x10 (some (.ref ru)) x12) H') → t D (sl sa d row x3 x4 x5 x6 x7 x8 x9 x10 (some (.ref ru)) x12) H0 := by
  have nd := sc_law.nd
  refine ⟨_, ps_if (PW.pt (pw_or (pt_cmpR op_ne (pe_c (ok_told_rule T) hr (by decide) (by rfl) (pa_cons (pv 11) pa_nil)) (pe_c (ok_fact_text T) hr (by decide) (by rfl) (pa_cons pe_str (pa_cons (pe_callTy call_tuple_of (by rfl) T.fr_tuple (by decide +kernel) (pa_cons (pv 2) pa_nil)) pa_nil))) (nomark _)) (pw_or1 (pt_cmpR (op_neD hr.units) (pe_callTy call_tuple_of (by rfl) T.fr_tuple (by decide +kernel) (pa_cons (pe_lc (own := [("_law_term", 12)]) (g := gName 12) (tt := tYes) (te := tFld K (tVar 12) "value") rfl nd (pi_tup (pe_fld (pv 11) rfl)) (blkOk_by (own := [("_law_term", 12)]) (N := NL) (sc := C8.fnScope s_law) (by decide +kernel)) (fun _ _ _ _ _ => pg_name (i := 12) nd rfl (Or.inl rfl)) (fun _ _ _ _ _ => pts_nil) (fun _ _ _ _ _ => pe_fld (pv 12) rfl)) pa_nil)) (pe_callTy call_tuple_of (by rfl) T.fr_tuple (by decide +kernel) (pa_cons (pv 2) pa_nil)) (nomark _))))) (pss_one (ps_ret pe_bl)) pss_nil, ?_⟩
  intro D sa d row R ru as us x3 x4 x5 x6 x7 x8 x9 x10 x12 H0 j hv hus hru q
  refine ⟨_, rfl, ru, [101], as, us, rfl, hru, hv, by decide, hus, fun H1 s1 => ?_⟩
  have j1 := j.same s1
  refine ⟨_, rfl, row, _, rfl, .inl ⟨SqL.of j1.ro, fun l hl => ?_⟩⟩
  have j2 := j1.same (same_new (o := .tup (us.map Vl.v)) hl)
  refine ⟨[101], l, us, (by rw [lit_ee]; rfl), SqT.of upd_same, hv, by decide, hus, fun H2 s2 => ⟨rfl, _, rfl, ifF ne_self ?_⟩⟩
  have m2 : Same H0 H2 := (s1.trans (same_new hl)).trans s2
  have j3 := j2.same s2
  obtain ⟨dx, ts, bd, sd, h1, h2, h3, hT⟩ := hru.same m2
  refine ⟨_, rfl, ru, _, dx, _, _, rfl, h1, T.cl_Rule, T.na_Rule_terms, rfl, ts, rfl, ⟨_, SqT.of h2⟩, fun B hB => lc_tup (K := K) (a := ts) (xs := as.map V.ref) (fun i H' => Same H2 H' ∧ H' B = some (.lst ((us.take i).map Vl.v))) ⟨same_new hB, upd_same⟩ (fun i H' _ h => SqT.of (h.1 _ _ h2)) ?_ ?_⟩
  · rintro i x H' hi ⟨sm, hD'⟩
    obtain ⟨a, ha, rfl⟩ : ∃ a, as[i]? = some a ∧ x = V.ref a := by
      rw [List.getElem?_map] at hi
      cases z : as[i]? with
      | none =>
        rw [z] at hi
        cases hi
      | some a =>
        rw [z] at hi
        exact ⟨a, rfl, (Option.some.inj hi).symm⟩
    obtain ⟨v, hvi, htm⟩ := hT.at ha
    obtain ⟨da, hta⟩ := htm.same sm
    refine ⟨rfl, _, rfl, a, _, da, _, _, rfl, hta, T.cl_Term, T.na_Term_value, rfl, _, hD', ?_, ?_, ?_⟩
    · rw [List.length_map, List.length_take]
      exact small1000 (by omega)
    · exact fun b o z => by
        rw [upd_ne (ne_of_none z hB)]
        exact sm _ _ z
    · rw [upd_same, map_take_snoc _ hvi]
  · rintro H' ⟨sm, hD'⟩
    have hl : (as.map V.ref).length = us.length := by rw [List.length_map, hT.1]
    rw [hl, List.take_length] at hD'
    refine ⟨B, _, rfl, .inl ⟨SqL.of hD', fun t ht => ?_⟩⟩
    have m3 : Same H2 (upd H' t (.tup (us.map Vl.v))) := sm.trans (same_new ht)
    have j4 := j3.same m3
    refine ⟨_, rfl, row, _, rfl, .inl ⟨SqL.of j4.ro, fun l2 hl2 => ?_⟩⟩
    refine ⟨rowD us, rowD us, dp_rowD ((same_new hl2) _ _ upd_same), dp_rowD upd_same, sh_rowD hv, sh_rowD hv, _, rfl, ifF (ne_rowD hv) (q _ ?_)⟩
    exact (m2.trans m3).trans (same_new hl2)
end
end K46
set_option Elab.async false
set_option linter.all false
set_option maxRecDepth 100000
set_option maxHeartbeats 4000000
/-! The law. Made of K46Z.txt by genw.py. -/
namespace K46
open PySem PySem.Spec PyProof.Rows L2 SX
open C8 (Cal Met Mak pe_c pe_mt pe_mt0 pe_mk fn0 pe_gc pss_cut)
section
variable {P : Program} {w : World} {K : PySem.W.Frag} {mg : Str → Option Value} {base : Heap}
theorem lit_Xy : ("Xy" : Str) = S [88, 121] := by decide +kernel
theorem lit_on : ("on" : Str) = S [111, 110] := by decide +kernel
theorem lit_m5 : ("-5" : Str) = S (Vl.int (-5)).told := by decide +kernel
def spLaw (K : PySem.W.Frag) : Sp := fun vs H Q _ => ∃ (a : Addr) (ns : List Int), vs = [.ref a] ∧ SqL K H a (ns.map V.int) ∧ ns.length ≤ 63 ∧ ∀ H', Q (.bl true) H'
theorem ok_law (T : Tx K mg) {f : Addr} {fd : FuncData} (F : FunD K "law" "law" (C8.fnArgs s_law) (C8.fnBody s_law) (C8.fnScope s_law) [] [] f fd) : FnOk P w K mg base C8.CX0 10 f fd ["_law_script"] (spLaw K) := by
  refine fn0 (fun_of F) sc_law (fun vs H Q E h => ?_) (fun cdv A outer s H vs Q E hr h => ?_)
  · obtain ⟨a, ns, rfl, _⟩ := h
    rfl
  · obtain ⟨a, ns, rfl, hS, hlen, q⟩ := h
    have nd := sc_law.nd
    obtain ⟨tt, pt, qt⟩ := turn_ok (P := P) (w := w) (base := base) (outer := outer) (H := H) (E := E) T hr
    obtain ⟨t1, p1, q1⟩ := e1_ok (P := P) (w := w) (base := base) (outer := outer) (H := H) (E := E) T hr
    obtain ⟨t2, p2, q2⟩ := e2_ok (P := P) (w := w) (base := base) (outer := outer) (H := H) (E := E) T hr
    obtain ⟨t3, p3, q3⟩ := e3_ok (P := P) (w := w) (base := base) (outer := outer) (H := H) (E := E) T hr
    refine ⟨_, pss_cons (ps_for PassesOwn.never rfl (pi_list (pe_c (ok_rounds T) hr (by decide) (by rfl) (pa_cons (pv 0) (pa_cons pe_int pa_nil)))) (pg_name (i := 1) nd rfl (.inr rfl))
      (pss_cons (ps_set (i := 2) nd rfl (.inl rfl) (pe_lst pa_nil)) (pss_cons (ps_for PassesOwn.never rfl (pi_range1 rfl T.fr_range (pa_cons (pe_c (ok_roll T) hr (by decide) (by rfl) (pa_cons (pv 1) (pa_cons pe_int pa_nil))) pa_nil)) (pg_name (i := 3) nd rfl (.inl rfl)) pt) (pss_cons p1 (pss_cons p2 (pss_one p3))))))
      (pss_one (ps_ret (pe_and (pe_cmpR op_eq (pe_c (ok_told_term T) hr (by decide) (by rfl) (pa_cons (pe_c (ok_var T) hr (by decide) (by rfl) (pa_cons pe_str pa_nil)) pa_nil)) pe_str (nomark _)) (pe_and (pe_cmpR op_eq (pe_c (ok_told_atom T) hr (by decide) (by rfl) (pa_cons pe_str (pa_cons (pe_lst pa_nil) pa_nil))) pe_str (nomark _)) (pe_one (pe_cmpR op_eq (pe_c (ok_told_value T) hr (by decide) (by rfl) (pa_cons (pe_op op_sub pe_int pe_int) pa_nil)) pe_str (nomark _))))))), ?_⟩
    refine ⟨_, rfl, a, ns, rfl, hS, hlen, fun H1 R d hR hd => ⟨R, rfl, ⟨_, SqL.of hR⟩, ?_⟩⟩
    have hRd : R ≠ d := fun z => by
      obtain ⟨x, y, u, e⟩ := hd
      rw [z, e] at hR
      cases hR
    refine for_list (K := K) (a := R) (xs := [.ref d]) (fun _ σ H' => (∃ x1 x2 x3 x4 x5 x6 x7 x8 x9 x10 x11 x12 : Option V, σ = [some (.ref a), x1, x2, x3, x4, x5, x6, x7, x8, x9, x10, x11, x12]) ∧ H' R = some (.lst [.ref d]) ∧ DiceAt H' d) ⟨⟨_, _, _, _, _, _, _, _, _, _, _, _, rfl⟩, hR, hd⟩ (fun i σ H' _ h => SqL.of h.2.1) ?_ ?_
    · rintro i x σ H' hx ⟨⟨x1, x2, x3, x4, x5, x6, x7, x8, x9, x10, x11, x12, rfl⟩, hR', hd'⟩
      have ex : x = .ref d := by
        cases i with
        | zero => exact (Option.some.inj hx).symm
        | succ n => cases hx
      subst ex
      refine ⟨Nat.zero_le _, fun row hrow => ?_⟩
      have hdr : d ≠ row := fun z => by
        obtain ⟨x, y, u, e⟩ := hd'
        rw [z, hrow] at e
        cases e
      have hRr : R ≠ row := fun z => by
        rw [z, hrow] at hR'
        cases hR'
      have ap : Apart d row R := ⟨hdr, hRd, hRr⟩
      have m0 : Same H' (upd H' row (.lst [])) := same_new hrow
      have j0 : J d row R [] (upd H' row (.lst [])) := ⟨hd'.same m0, upd_same, m0 _ _ hR'⟩
      refine ⟨_, rfl, d, 7, rfl, j0.di, by decide, by decide, fun r a1 b1 c1 h0 h1 => ⟨r, rfl, by omega, by omega, ?_⟩⟩
      have j1 := j0.roll ap a1 b1 c1
      refine for_range (lo := 0) (n := r.toNat) (fun i σ H'' => (∃ x3 x4 x5 x6 x7 x8 x9 x10 x11 x12 : Option V, σ = sl a d row x3 x4 x5 x6 x7 x8 x9 x10 x11 x12) ∧ ∃ us : List Vl, us.length = i ∧ (∀ v ∈ us, v.Ok) ∧ J d row R us H'') ⟨⟨_, _, _, _, _, _, _, _, _, _, rfl⟩, [], rfl, (fun v hv => by cases hv), j1⟩ ?_ ?_
      · rintro i2 σ2 H2 hi2 ⟨⟨x3, x4, x5, x6, x7, x8, x9, x10, x11, x12, rfl⟩, us, hul, hv, jj⟩
        refine qt _ a d row R us _ x4 x5 x6 x7 x8 x9 x10 x11 x12 H2 ap (by omega) jj ?_
        intro v y4 y5 y6 y7 y8 y9 H3 hv3 j3
        refine ⟨⟨_, _, _, _, _, _, _, _, _, _, rfl⟩, us ++ [v], by rw [List.length_append, hul]; rfl, fun u hu => ?_, j3⟩
        rcases List.mem_append.mp hu with hu | hu
        · exact hv u hu
        · rw [List.mem_singleton.mp hu]
          exact hv3
      · rintro σ2 H2 ⟨⟨x3, x4, x5, x6, x7, x8, x9, x10, x11, x12, rfl⟩, us, hul, hv, jj⟩
        have hus : us.length ≤ 100 := by omega
        refine q1 _ a d row R us x3 x4 x5 x6 x7 x8 x9 x10 x11 x12 H2 jj hv hus fun H3 s3 => ?_
        refine q2 _ a d row R us x3 x4 x5 x6 x7 x8 x9 x10 x11 x12 H3 (jj.same s3) hv hus fun H4 ru as s4 hru => ?_
        have j4 := (jj.same s3).same s4
        refine q3 _ a d row R ru as us x3 x4 x5 x6 x7 x8 x9 x10 x12 H4 j4 hv hus hru fun H5 s5 => ?_
        have j5 := j4.same s5
        exact ⟨⟨_, _, _, _, _, _, _, _, _, _, _, _, rfl⟩, j5.rr, j5.di⟩
    · rintro σ H' ⟨_, hR', hd'⟩
      refine ⟨_, rfl, fun H2 t dx s2 _ ht => ⟨t, rfl, .inr ⟨dx, by rw [← lit_Xy]; exact ht, rfl, _, rfl, ?_⟩⟩⟩
      refine ifT (by rw [lit_Xy]; exact decide_eq_true rfl) ?_
      refine ⟨Nat.zero_le _, fun lp hlp => ⟨[111, 110], lp, [], [], (by rw [lit_on]; rfl), SqL.of upd_same, .nil, (fun v hv => by cases hv), by decide, by decide, fun H3 s3 => ⟨rfl, _, rfl, ?_⟩⟩⟩
      refine ifT (by rw [lit_on]; exact decide_eq_true rfl) ?_
      refine ⟨_, _, rfl, rfl, .int (-5), rfl, by show (-5 : Int).natAbs < 10 ^ 18; decide, fun H4 s4 => ⟨rfl, ?_⟩⟩
      have e : decide (V.str (S (Vl.int (-5)).told) = V.str ("-5" : Str)) = true := by
        rw [lit_m5]
        exact decide_eq_true rfl
      rw [e]
      exact q H4
end
end K46
set_option Elab.async false
set_option linter.all false
set_option maxRecDepth 100000
set_option maxHeartbeats 0
/-! The end: the head's run and the law's walk joined. -/
open PySem PySem.W PySem.Calls PyProof.Rows
theorem PySem.Challenge.cw_deducehall_k46_values_written_and_read_holds : PySem.Challenge.rw_deducehall_k46_values_written_and_read.Holds := by
  w_on; o_law
  refine HandSHeadRun.head_any (r := OpenLaw.row PySem.Challenge.rw_deducehall_k46_values_written_and_read) (q := view (OpenLaw.row PySem.Challenge.rw_deducehall_k46_values_written_and_read).prog [60]) (H := K46.hk) (ob := K46.ob) (M := 6000) (loose := K46.loose) (d := HandSHeadRun.topDef (OpenLaw.row PySem.Challenge.rw_deducehall_k46_values_written_and_read).prog 60) (kwd := []) K46.ob_eq
    (by kernel_rfl) (fun s => by kernel_rfl) K46.run (by kernel_rfl) (by kernel_rfl) (by kernel_rfl) (by rfl) (by first | assumption | decide +kernel) (by decide +kernel) ⟨rfl, rfl, rfl, rfl, rfl, by decide +kernel⟩ ?hw ?hc
  case hw => w_witness2
  case hc =>
    refine L2.walk_ofE (l := PySem.Challenge.rw_deducehall_k46_values_written_and_read) (n := 63) (k := 10) (x := "_law_script") (CX := C8.CX0) rfl (by decide) (by kernel_rfl) ⟨rfl, by decide, by decide⟩ ?F (fun _ _ _ _ z => z)
    intro w mg fa h Y G hmg0
    obtain ⟨K, KX, c, e⟩ := Y
    have hmg : mg ("law" : PySem.Str) = some (.ref fa) := by
      have e : (HandSHeadRun.topDef (OpenLaw.row PySem.Challenge.rw_deducehall_k46_values_written_and_read).prog 60).name = ("law" : PySem.Str) := by kernel_rfl
      rw [← e]
      exact hmg0
    have T : K46.Tx K mg := K46.tx_of KX G c e
    obtain ⟨fd, F⟩ := T.df_law
    have e2 := hmg.symm.trans T.mg_law
    cases e2
    have b := L2.FunD.bindsA (ps := ["_law_script"]) F fun _ _ _ _ _ _ us hl => match us, hl with | [_], _ => rfl
    exact ⟨K, fd, K46.spLaw K, KX, fun s v => b s [v] rfl, fun H a ns hl _ hS => ⟨a, ns, rfl, hS, hl, fun _ => rfl⟩, fun base _ _ => K46.ok_law T F⟩
