import PyProof.Rows.All
import Wide.All
import OpenK.AllK
import Wide.FinOn
import PySem.Challenge.RW_nt0166_01
set_option Elab.async false
set_option compiler.extract_closed false
namespace Mine
section -- Hd
open PySem PySem.W PyProof.Rows
set_option maxRecDepth 100000
set_option maxHeartbeats 0
/-- the statements of the text that the view keeps: all but the plain assignments -/
def isDefn : Stmt → Bool
  | .Assign .. => false
  | _ => true
noncomputable def viewOf : { _l : List Stmt // True } := by
  have h : ∀ {l r : List Stmt}, l = PySem.Challenge.pw_nt0166_01.main.body → r = l.filter isDefn → { _l : List Stmt // True } := fun {_ r} _ _ => ⟨r, trivial⟩
  refine h (l := ?l) (r := ?r) ?h1 ?h2
  case h1 => exact rfl
  case h2 => conv => rhs; dsimp only [PySem.Challenge.pw_nt0166_01, List.filter, isDefn]
noncomputable def hd.view_39 : Program := { PySem.Challenge.pw_nt0166_01 with main := { PySem.Challenge.pw_nt0166_01.main with body := viewOf.1 } }
section
variable {tb : String → Option Builtin} {p : Program} {w : World} {n₀ : Nat} {ann : Option Value}
/-- the top's run over a tree of objects: a look-up costs the tree's depth, not the heap's length -/
noncomputable def hdRun (ok : Thread → Bool) (st : SharedT → Thread → Option (SharedT × Thread)) : Nat → SharedT → Thread → Option SharedT
  | 0, _, _ => none
  | n + 1, s, t => match through t with
    | true => some s
    | false => match ok t with
      | false => none
      | true => match st s t with
        | some (s', t') => hdRun ok st n s' t'
        | none => none
theorem hdRun_of : ∀ {n : Nat} {s r : SharedT} {t : Thread}, hdRun (stepOk n₀ ann) (stepT (denote tb) p w) n s t = some r → topRun tb p w n₀ ann n s.abs t = some r.abs
  | 0, _, _, _, h => by cases h
  | n + 1, s, r, t, h => by
    unfold hdRun at h
    unfold topRun
    cases ht : through t with
    | true => rw [ht] at h; cases h; rfl
    | false =>
      rw [ht] at h
      cases hk : stepOk n₀ ann t with
      | false => rw [hk] at h; cases h
      | true =>
        rw [hk] at h
        cases hs : stepT (denote tb) p w s t with
        | none => rw [hs] at h; cases h
        | some q => obtain ⟨s₂, t₂⟩ := q; rw [hs] at h; rw [stepT_spec hs]; exact hdRun_of h
noncomputable abbrev hdOk : Nat → Option Value → Thread → Bool := PySem.W.Fast.tw6613529449190102663
noncomputable abbrev hdStep : (Code → Sem Fin) → Program → World → SharedT → Thread → Option (SharedT × Thread) := PySem.W.Fast.tw10156331382660048174
noncomputable abbrev hdDen : (String → Option Builtin) → Code → Sem Fin := PySem.W.Fast.tw11892475500146522536
noncomputable abbrev hdTab : String → Option Builtin := PySem.W.Fast.tw14364793385576792824
theorem hdRun_top {n : Nat} {s r : SharedT} {t : Thread} (h : hdRun (hdOk n₀ ann) (hdStep (hdDen hdTab) p w) n s t = some r) : topRun treeTable p w n₀ ann n s.abs t = some r.abs := by
  have e1 : hdOk = stepOk := PySem.W.Fast.te6613529449190102663.symm
  have e2 : hdStep = stepT := PySem.W.Fast.te10156331382660048174.symm
  have e3 : hdDen = denote := PySem.W.Fast.te11892475500146522536.symm
  have e4 : hdTab = treeTable := PySem.W.Fast.te14364793385576792824.symm
  rw [e1, e2, e3, e4] at h
  exact hdRun_of h
noncomputable def hdFill : List Obj → BT → Nat → Option BT
  | [], T, _ => some T
  | o :: os, T, n => match ((T.ins n o).get n).isSome with
    | true => hdFill os (T.ins n o) (n + 1)
    | false => none
theorem hdFill_of {life : Life} : ∀ {os : List Obj} {T T' : BT} {n : Nat}, hdFill os T n = some T' → absHeap T' (n + os.length) life = ⟨(absHeap T n life).objs ++ os.toArray, life⟩
  | [], T, T', n, h => by
    cases h
    show absHeap T n life = _
    simp [absHeap]
  | o :: os, T, T', n, h => by
    unfold hdFill at h
    cases hs : ((T.ins n o).get n).isSome with
    | false => rw [hs] at h; cases h
    | true =>
      rw [hs] at h
      have e := hdFill_of (life := life) h
      rw [absHeap_ins hs] at e
      rw [List.length_cons, show n + (os.length + 1) = n + 1 + os.length by omega, e]
      show Heap.mk ((absHeap T n life).objs.push o ++ os.toArray) life = _
      congr 1
      apply Array.ext'
      simp
noncomputable def hdTop (p : Program) (w : World) (N : Nat) : Shared → Option Shared
  | ⟨⟨objs, life⟩, gens, drawn, toks, os⟩ => match hdFill objs.toList .nil 0 with
    | none => none
    | some T => match (Heap.mk objs life).isNs mainGlobals && gens.size == 0 with
      | true => match hdRun (hdOk objs.size ((Heap.mk objs life).nsMap mainGlobals "__annotations__")) (hdStep (hdDen hdTab) p w) N ⟨T, objs.size, life, gens, drawn, toks, os⟩ (topStub p) with
        | none => none
        | some r => match staticsOk (importedModules p.main.body) (Heap.mk objs life) r.abs.heap && namesBound p r.abs.heap && gensDone r.abs && laidKept (Heap.mk objs life) r.abs.heap with
          | true => some r.abs
          | false => none
      | false => none
theorem hdTop_of {N : Nat} {s r : Shared} (h : hdTop p w N s = some r) : topFrom treeTable p w N s = some r := by
  obtain ⟨⟨objs, life⟩, gens, drawn, toks, os⟩ := s
  unfold hdTop at h
  dsimp only at h
  cases hT : hdFill objs.toList .nil 0 with
  | none => rw [hT] at h; cases h
  | some T =>
    rw [hT] at h
    dsimp only at h
    have eT := hdFill_of (life := life) hT
    have eA : absHeap T objs.size life = Heap.mk objs life := by
      have : absHeap T (0 + objs.toList.length) life = Heap.mk objs life := by rw [eT]; simp [absHeap, BT.list]
      rwa [Nat.zero_add, Array.length_toList] at this
    unfold topFrom
    dsimp only
    cases h1 : ((Heap.mk objs life).isNs mainGlobals && gens.size == 0) with
    | false => rw [h1] at h; cases h
    | true =>
      rw [h1] at h
      dsimp only at h ⊢
      cases hr : hdRun (hdOk objs.size ((Heap.mk objs life).nsMap mainGlobals "__annotations__")) (hdStep (hdDen hdTab) p w) N ⟨T, objs.size, life, gens, drawn, toks, os⟩ (topStub p) with
      | none => rw [hr] at h; cases h
      | some r' =>
        rw [hr] at h
        have e := hdRun_top hr
        have ea : SharedT.abs ⟨T, objs.size, life, gens, drawn, toks, os⟩ = (⟨⟨objs, life⟩, gens, drawn, toks, os⟩ : Shared) := by
          unfold SharedT.abs
          dsimp only
          rw [eA]
        rw [ea] at e
        rw [e]
        exact h
noncomputable abbrev hdSeen := @PySem.W.Fast.tw4187177175401517315
theorem hdLeft {p q : Program} {loose : List Str} {Xt : Shared → Bool} {α : Type} {Yf : Shared → α} {Ya : World → α} {N : Nat} {g0 : Bool}
    (h : ∀ w, ((fencedOpening treeTable p w N).bind (hdTop p w N)).map (fun s => (hdSeen q loose (importedModules p.main.body) Xt g0 s, Yf s)) = some (openGood q loose, Ya w)) : LeftO p q loose Xt Yf Ya N g0 := fun w => by
  have e1 : @hdSeen = @openSeen := PySem.W.Fast.te4187177175401517315.symm
  obtain ⟨s, hs, e⟩ := Option.map_eq_some_iff.mp (h w)
  rw [e1] at e
  obtain ⟨s₀, h0, h1⟩ := Option.bind_eq_some_iff.mp hs
  unfold openEnds
  rw [h0]
  show (topFrom treeTable p w N s₀).map _ = _
  rw [hdTop_of h1]
  exact congrArg some e
end
/-- the looks at the law's own words, by the kernel -/
theorem said_ok : OpenLaw.wellSaid PySem.Challenge.rw_nt0166_01 = true := (congrFun PySem.W.Fast.te9446332074065402090 _).trans (by kernel_rfl)
/-- the head: the top's run by one check of the kernel, in place of pieces (which compile to 29 MB) -/
noncomputable def hdOpen (H : Hook) := fun hl hw hc => holds_open (r := PySem.Challenge.rw_nt0166_01.row) (q := hd.view_39) (loose := [Str.ofString "REACH"]) (Xt := fun s => xlAt hd.view_39 [(Str.ofString "REACH", WData.int 65536)] s && recOk (RowW.records (OpenRow.toRowW PySem.Challenge.rw_nt0166_01.row)) s) (XP := XL hd.view_39 [(Str.ofString "REACH", WData.int 65536)]) (Yf := Hook.obs H) (Ya := Hook.val H) (YP := Hook.says H) (N := 4600) hl (Hook.of H) (Hook.keeps H) (fun s e => xl_of s (Bool.and_eq_true_iff.mp e).1) XL.keeps (by rfl) (by rfl) (by rfl) (fun s e => recFacts_of (Bool.and_eq_true_iff.mp e).2) (by rfl) (row_said said_ok) (by decide +kernel) ⟨rfl, rfl, rfl, rfl, rfl, by decide +kernel⟩ hw hc
local macro_rules | `(tactic| o_head $H) => `(tactic| (refine hdOpen $H ?hl ?hw ?hc; (case hl => (refine hdLeft fun w => ?_; kernel_rfl))))
local macro_rules | `(tactic| o_law) => `(tactic| (refine holds_law said_ok fun said => ?_))
open_top hd for PySem.Challenge.rw_nt0166_01
end
section -- Mth
open PySem
/-- integer square root, by its own recursion (never evaluated on large numbers) -/
noncomputable def isqN : Nat → Nat
  | 0 => 0
  | n + 1 => if (isqN n + 1) * (isqN n + 1) ≤ n + 1 then isqN n + 1 else isqN n
theorem isqN_spec : ∀ n, isqN n * isqN n ≤ n ∧ n < (isqN n + 1) * (isqN n + 1) := by
  intro n
  induction n with
  | zero => decide
  | succ n ih =>
    obtain ⟨h1, h2⟩ := ih
    unfold isqN
    split
    · rename_i h
      refine ⟨h, ?_⟩
      generalize isqN n = r at *
      have e : (r + 1 + 1) * (r + 1 + 1) = (r + 1) * (r + 1) + 2 * r + 3 := by
        simp only [Nat.mul_add, Nat.add_mul, Nat.mul_one, Nat.one_mul]; lia
      lia
    · rename_i h
      exact ⟨by lia, by lia⟩
theorem sq_lt_of_lt {a b : Int} (ha : 0 ≤ a) (h : a < b) : a * a < b * b := by
  have h1 : a * a ≤ a * b := Int.mul_le_mul_of_nonneg_left (Int.le_of_lt h) ha
  have h2 : a * b < b * b := Int.mul_lt_mul_of_pos_right h (by lia)
  lia
theorem sq_le_of_le {a b : Int} (ha : 0 ≤ a) (h : a ≤ b) : a * a ≤ b * b := Int.mul_le_mul h h ha (by lia)
theorem lt_of_sq {a b : Int} (hb : 0 ≤ b) (h : a * a < b * b) : a < b := by
  rcases Int.lt_or_le a b with q | q
  · exact q
  · have := sq_le_of_le hb q; lia
theorem le_of_sq {a b : Int} (hb : 0 ≤ b) (h : a * a ≤ b * b) : a ≤ b := by
  rcases Int.lt_or_le b a with q | q
  · have := sq_lt_of_lt hb q; lia
  · exact q
noncomputable def isq (n : Int) : Int := (isqN n.toNat : Int)
theorem isq_nonneg (n : Int) : 0 ≤ isq n := Int.natCast_nonneg _
theorem isq_lo {n : Int} (h : 0 ≤ n) : isq n * isq n ≤ n := by
  have := (isqN_spec n.toNat).1
  unfold isq
  have e : ((isqN n.toNat * isqN n.toNat : Nat) : Int) ≤ ((n.toNat : Nat) : Int) := Int.ofNat_le.mpr this
  rw [Int.natCast_mul, Int.toNat_of_nonneg h] at e
  exact e
theorem isq_hi {n : Int} (h : 0 ≤ n) : n < (isq n + 1) * (isq n + 1) := by
  have := (isqN_spec n.toNat).2
  unfold isq
  have e : ((n.toNat : Nat) : Int) < (((isqN n.toNat + 1) * (isqN n.toNat + 1) : Nat) : Int) := Int.ofNat_lt.mpr this
  rw [Int.natCast_mul, Int.toNat_of_nonneg h, Int.natCast_add] at e
  exact e
theorem isq_unique {n r : Int} (h0 : 0 ≤ r) (h1 : r * r ≤ n) (h2 : n < (r + 1) * (r + 1)) : r = isq n := by
  have hn : 0 ≤ n := Int.le_trans (Int.mul_nonneg h0 h0) h1
  have a := isq_lo hn
  have b := isq_hi hn
  have c := isq_nonneg n
  have x : r < isq n + 1 := lt_of_sq (by lia) (by lia)
  have y : isq n < r + 1 := lt_of_sq (by lia) (by lia)
  lia
theorem isq_le_self {n : Int} (h : 0 ≤ n) : isq n ≤ n := by
  have a := isq_lo h
  have c := isq_nonneg n
  rcases Int.lt_or_le (isq n) 1 with q | q
  · lia
  · have := Int.mul_le_mul_of_nonneg_left q c
    lia
theorem isq_lt {n b : Int} (h : 0 ≤ n) (hb : 0 ≤ b) (hn : n < b * b) : isq n < b := lt_of_sq hb (Int.lt_of_le_of_lt (isq_lo h) hn)
theorem isq_zero : isq 0 = 0 := rfl
theorem isq_one : isq 1 = 1 := rfl
/-- one step of Newton's iteration keeps n < (g+1)^2 -/
theorem newton_step {n g : Int} (hn : 0 ≤ n) (hg : 0 < g) : n < ((g + n.fdiv g).fdiv 2 + 1) * ((g + n.fdiv g).fdiv 2 + 1) := by
  have e1 : n.fdiv g = n / g := Int.fdiv_eq_ediv_of_nonneg n (by lia)
  have e2 : (g + n / g).fdiv 2 = (g + n / g) / 2 := Int.fdiv_eq_ediv_of_nonneg _ (by lia)
  rw [e1, e2]
  have hq : 0 ≤ n / g := Int.ediv_nonneg hn (by lia)
  have hlt : n < g * (n / g + 1) := by
    have := Int.lt_mul_ediv_self_add (x := n) (k := g) hg
    rw [Int.mul_add]; lia
  generalize n / g = q at *
  have hm : g + q + 1 ≤ 2 * ((g + q) / 2 + 1) := by lia
  generalize (g + q) / 2 + 1 = m at *
  have h4 : (g + q + 1) * (g + q + 1) ≤ (2 * m) * (2 * m) := sq_le_of_le (by lia) hm
  have h5 : 0 ≤ (g - (q + 1)) * (g - (q + 1)) := by
    rcases Int.le_total 0 (g - (q + 1)) with z | z
    · exact Int.mul_nonneg z z
    · exact Int.mul_nonneg_of_nonpos_of_nonpos z z
  have e3 : (g + q + 1) * (g + q + 1) = (g - (q + 1)) * (g - (q + 1)) + 4 * (g * (q + 1)) := by
    simp only [Int.mul_add, Int.add_mul, Int.mul_sub, Int.sub_mul, Int.mul_one, Int.one_mul, Int.mul_comm q g]; lia
  have e4 : (2 * m) * (2 * m) = 4 * (m * m) := by
    rw [Int.mul_assoc, Int.mul_comm m (2 * m), Int.mul_assoc, ← Int.mul_assoc 2 2]; rfl
  lia
theorem newton_pos {n g : Int} (hn : 1 ≤ n) (hg : 0 < g) : 0 < (g + n.fdiv g).fdiv 2 := by
  have h := newton_step (n := n) (g := g) (by lia) hg
  have e1 : n.fdiv g = n / g := Int.fdiv_eq_ediv_of_nonneg n (by lia)
  have e2 : (g + n / g).fdiv 2 = (g + n / g) / 2 := Int.fdiv_eq_ediv_of_nonneg _ (by lia)
  have hq : 0 ≤ n / g := Int.ediv_nonneg (by lia) (by lia)
  rw [e1, e2] at h ⊢
  have : 0 ≤ (g + n / g) / 2 := by lia
  rcases Int.lt_or_le 0 ((g + n / g) / 2) with q | q
  · exact q
  · have z : (g + n / g) / 2 = 0 := by lia
    rw [z] at h
    simp at h
    lia
theorem newton_end {n g : Int} (_hn : 0 ≤ n) (hg : 0 < g) (hi : n < (g + 1) * (g + 1)) (h : ¬ (g + n.fdiv g).fdiv 2 < g) : g = isq n := by
  have e1 : n.fdiv g = n / g := Int.fdiv_eq_ediv_of_nonneg n (by lia)
  have e2 : (g + n / g).fdiv 2 = (g + n / g) / 2 := Int.fdiv_eq_ediv_of_nonneg _ (by lia)
  rw [e1, e2] at h
  have hq : g ≤ n / g := by lia
  have := Int.mul_ediv_self_le (x := n) (k := g) (by lia)
  have := Int.mul_le_mul_of_nonneg_left hq (show 0 ≤ g by lia)
  exact isq_unique (by lia) (by lia) hi
/-- the size word -/
theorem cast_two_pow (k : Nat) : ((2 ^ k : Nat) : Int) = 2 ^ k := by rw [Int.natCast_pow]; rfl
theorem bits_lt {n : Int} (hn : 0 ≤ n) : n < 2 ^ Builtin.Int.intBits n := by
  have h := (intBits_le_iff (m := Builtin.Int.intBits n) (x := n)).mp (Nat.le_refl _)
  have : (n.natAbs : Int) < ((2 ^ Builtin.Int.intBits n : Nat) : Int) := Int.ofNat_lt.mpr h
  rw [cast_two_pow] at this
  lia
theorem bits_ge {n : Int} (hn : 0 < n) : 2 ^ (Builtin.Int.intBits n - 1) ≤ n ∧ 1 ≤ Builtin.Int.intBits n := by
  have h1 : ¬ Builtin.Int.intBits n ≤ 0 := fun q => by
    have := intBits_le_iff.mp q
    simp at this; lia
  have h : ¬ Builtin.Int.intBits n ≤ Builtin.Int.intBits n - 1 := by lia
  rw [intBits_le_iff] at h
  have h2 : ((2 ^ (Builtin.Int.intBits n - 1) : Nat) : Int) ≤ (n.natAbs : Int) := Int.ofNat_le.mpr (by lia)
  rw [cast_two_pow] at h2
  exact ⟨by lia, by lia⟩
theorem bits_le {n : Int} {k : Nat} (hn : 0 ≤ n) (h : n < 2 ^ k) : Builtin.Int.intBits n ≤ k := by
  refine intBits_le_iff.mpr ?_
  have : ((n.natAbs : Nat) : Int) < ((2 ^ k : Nat) : Int) := by rw [cast_two_pow]; lia
  exact Int.ofNat_lt.mp this
theorem pow_two_sq (k : Nat) : (2 : Int) ^ k * 2 ^ k = 2 ^ (2 * k) := by rw [← Int.pow_add]; congr 1; lia
theorem two_pow_pos (k : Nat) : (0 : Int) < 2 ^ k := Int.pow_pos (by decide)
theorem two_pow_le {a b : Nat} (h : a ≤ b) : (2 : Int) ^ a ≤ 2 ^ b := by
  have := Nat.pow_le_pow_right (n := 2) (by decide) h
  have q : ((2 ^ a : Nat) : Int) ≤ ((2 ^ b : Nat) : Int) := Int.ofNat_le.mpr this
  rw [cast_two_pow, cast_two_pow] at q
  exact q
/-- the first guess of the program's roots -/
theorem guess_ok {n : Int} (hn : 0 ≤ n) : n < (2 ^ ((Builtin.Int.intBits n + 1) / 2) + 1) * (2 ^ ((Builtin.Int.intBits n + 1) / 2) + 1) := by
  have h := bits_lt hn
  generalize Builtin.Int.intBits n = b at *
  have h2 : (2 : Int) ^ b ≤ 2 ^ (2 * ((b + 1) / 2)) := two_pow_le (by lia)
  rw [← pow_two_sq] at h2
  have p := two_pow_pos ((b + 1) / 2)
  have : (2 : Int) ^ ((b + 1) / 2) * 2 ^ ((b + 1) / 2) < (2 ^ ((b + 1) / 2) + 1) * (2 ^ ((b + 1) / 2) + 1) := sq_lt_of_lt (by lia) (by lia)
  lia
theorem guess_exp (n : Int) : ((((Builtin.Int.intBits n : Nat) : Int) + 1).fdiv 2).toNat = (Builtin.Int.intBits n + 1) / 2 := by
  rw [Int.fdiv_eq_ediv_of_nonneg _ (by decide)]; lia
theorem guess_div {n : Int} (h0 : 0 ≤ n) (h1 : n < 2 ^ 60) : 0 < 1 * (2 : Int) ^ ((((Builtin.Int.intBits n : Nat) : Int) + 1).fdiv 2).toNat ∧ 1 * (2 : Int) ^ ((((Builtin.Int.intBits n : Nat) : Int) + 1).fdiv 2).toNat ≤ 2 ^ 40 := by
  rw [guess_exp, Int.one_mul]
  have hb := bits_le (k := 60) h0 h1
  exact ⟨two_pow_pos _, two_pow_le (by lia)⟩
theorem guess_sq {n : Int} (h0 : 0 ≤ n) : n < (1 * (2 : Int) ^ ((((Builtin.Int.intBits n : Nat) : Int) + 1).fdiv 2).toNat + 1) * (1 * (2 : Int) ^ ((((Builtin.Int.intBits n : Nat) : Int) + 1).fdiv 2).toNat + 1) := by
  rw [guess_exp, Int.one_mul]; exact guess_ok h0
end
section -- Mth2
open PySem PyProof.Rows
/-- trailing zeros as the program reckons them -/
noncomputable def tzp (n : Int) : Int := ((Builtin.Int.intBits (Builtin.bitAnd n (0 - n)) : Nat) : Int) - 1
noncomputable def oddp (n : Int) : Int := n.fdiv (2 ^ (tzp n).toNat)
noncomputable def tzOk (n : Nat) : Bool := decide (0 ≤ tzp n) && decide (tzp n ≤ 9) && decide (oddp n % 2 = 1) && decide (oddp n * 2 ^ (tzp n).toNat = n) && decide (1 ≤ oddp n) && decide (oddp n ≤ 512)
theorem tz_all : ∀ n, n < 513 → 1 ≤ n → tzOk n = true := by decide +kernel
theorem tz_facts {n : Int} (h : 1 ≤ n ∧ n ≤ 512) : 0 ≤ tzp n ∧ tzp n ≤ 9 ∧ oddp n % 2 = 1 ∧ oddp n * 2 ^ (tzp n).toNat = n ∧ 1 ≤ oddp n ∧ oddp n ≤ 512 := by
  have q := tz_all n.toNat (by lia) (by lia)
  rw [tzOk] at q
  simp only [Bool.and_eq_true, decide_eq_true_eq] at q
  have e : ((n.toNat : Nat) : Int) = n := by lia
  rw [e] at q
  obtain ⟨⟨⟨⟨⟨a, b⟩, c⟩, d⟩, f⟩, g⟩ := q
  exact ⟨a, b, c, d, f, g⟩
/-- nearest, ties to even -/
noncomputable def nsV (n g : Int) : Int := if 2 ^ (g - 1).toNat < n % 2 ^ g.toNat ∨ (n % 2 ^ g.toNat = 2 ^ (g - 1).toNat ∧ (n / 2 ^ g.toNat) % 2 = 1) then n / 2 ^ g.toNat + 1 else n / 2 ^ g.toNat
theorem bitAnd_mask {n : Int} (hn : 0 ≤ n) (k : Nat) : Builtin.bitAnd n (1 * 2 ^ k - 1) = n % 2 ^ k := by
  have hp := two_pow_pos k
  rw [Int.one_mul, bitAnd_pp hn (by lia)]
  have e : ((2 : Int) ^ k - 1).toNat = 2 ^ k - 1 := by
    rw [← cast_two_pow]; lia
  rw [e, Nat.and_two_pow_sub_one_eq_mod, Int.natCast_emod, cast_two_pow]
  congr 1
  lia
theorem fdiv_pow (n : Int) (k : Nat) : n.fdiv (2 ^ k) = n / 2 ^ k := Int.fdiv_eq_ediv_of_nonneg _ (Int.le_of_lt (two_pow_pos k))
theorem ns_up {n g : Int} (hn : 0 ≤ n) (h : 1 * 2 ^ (g - 1).toNat < Builtin.bitAnd n (1 * 2 ^ g.toNat - 1)) : n.fdiv (2 ^ g.toNat) + 1 = nsV n g := by
  rw [bitAnd_mask hn, Int.one_mul] at h
  rw [nsV, if_pos (.inl h), fdiv_pow]
theorem ns_tie {n g : Int} (hn : 0 ≤ n) (h : Builtin.bitAnd n (1 * 2 ^ g.toNat - 1) = 1 * 2 ^ (g - 1).toNat) (h2 : Builtin.bitAnd (n.fdiv (2 ^ g.toNat)) 1 = 1) : n.fdiv (2 ^ g.toNat) + 1 = nsV n g := by
  rw [bitAnd_mask hn, Int.one_mul] at h
  rw [bitAnd_m1, fdiv_pow] at h2
  rw [nsV, if_pos (.inr ⟨h, h2⟩), fdiv_pow]
theorem ns_even {n g : Int} (hn : 0 ≤ n) (h0 : ¬ 1 * 2 ^ (g - 1).toNat < Builtin.bitAnd n (1 * 2 ^ g.toNat - 1)) (h2 : Builtin.bitAnd (n.fdiv (2 ^ g.toNat)) 1 ≠ 1) : n.fdiv (2 ^ g.toNat) = nsV n g := by
  rw [bitAnd_mask hn, Int.one_mul] at h0
  rw [bitAnd_m1, fdiv_pow] at h2
  rw [nsV, if_neg (fun q => q.elim h0 fun q => h2 q.2), fdiv_pow]
theorem ns_down {n g : Int} (hn : 0 ≤ n) (h0 : ¬ 1 * 2 ^ (g - 1).toNat < Builtin.bitAnd n (1 * 2 ^ g.toNat - 1)) (h : Builtin.bitAnd n (1 * 2 ^ g.toNat - 1) ≠ 1 * 2 ^ (g - 1).toNat) : n.fdiv (2 ^ g.toNat) = nsV n g := by
  rw [bitAnd_mask hn, Int.one_mul] at h0 h
  rw [nsV, if_neg (fun q => q.elim h0 fun q => h q.1), fdiv_pow]
theorem bits_abs (n : Int) : Builtin.Int.intBits (if n < 0 then -n else n) = Builtin.Int.intBits n := by
  unfold Builtin.Int.intBits
  split
  · have e : (-n == 0) = (n == 0) := by rw [Bool.eq_iff_iff]; simp
    rw [e, Int.natAbs_neg]
  · rfl
theorem abs_pos {n : Int} (h : 0 ≤ n) : (if n < 0 then -n else n) = n := if_neg (by lia)
/-- the rounded number's bounds: v of p + g bits -/
theorem ns_bounds {v g p : Int} (hv : 0 < v) (hp : 2 ≤ p ∧ p ≤ 9) (hg : g = ((Builtin.Int.intBits v : Nat) : Int) - p) (hg1 : 1 ≤ g) : 1 ≤ nsV v g ∧ nsV v g ≤ 2 ^ p.toNat ∧ nsV v g ≤ 512 := by
  have h1 := bits_lt (Int.le_of_lt hv)
  have h2 := (bits_ge hv).1
  have eb : Builtin.Int.intBits v = p.toNat + g.toNat := by lia
  have e1 : (2 : Int) ^ Builtin.Int.intBits v = 2 ^ p.toNat * 2 ^ g.toNat := by rw [eb, Int.pow_add]
  have e2 : (2 : Int) ^ (Builtin.Int.intBits v - 1) = 2 ^ (p.toNat - 1) * 2 ^ g.toNat := by rw [← Int.pow_add]; congr 1; lia
  have hgp := two_pow_pos g.toNat
  have d1 : v / 2 ^ g.toNat < 2 ^ p.toNat := Int.ediv_lt_of_lt_mul hgp (by lia)
  have d2 : 2 ^ (p.toNat - 1) ≤ v / 2 ^ g.toNat := Int.le_ediv_of_mul_le hgp (by lia)
  have d3 : (2 : Int) ^ p.toNat ≤ 2 ^ 9 := two_pow_le (by lia)
  have d4 : (2 : Int) ^ 0 ≤ 2 ^ (p.toNat - 1) := two_pow_le (by lia)
  have d5 : (2 : Int) ^ 0 = 1 := rfl
  have d6 : (2 : Int) ^ 9 = 512 := rfl
  rw [nsV]
  split <;> lia
end
section -- MthN
open PySem PyProof.Rows
/-- W rounded: the nearest, ties to even, by the square of the midpoint -/
noncomputable def upW (T4 B4 W : Int) : Int := if (2 * W + 1) * (2 * W + 1) * B4 < 4 * T4 ∨ (4 * T4 = (2 * W + 1) * (2 * W + 1) * B4 ∧ W % 2 = 1) then W + 1 else W
def RootSpec (p : Nat) (T B : Int) (r : Int × Int) : Prop :=
  ∃ (a c k : Nat) (W : Int), 2 ^ (p - 1) ≤ W ∧ W < 2 ^ p ∧ W * W * (B * 4 ^ a) ≤ T * 4 ^ c ∧ T * 4 ^ c < (W + 1) * (W + 1) * (B * 4 ^ a) ∧
    r.1 % 2 = 1 ∧ r.1 * 2 ^ k = upW (T * 4 ^ c) (B * 4 ^ a) W ∧ r.2 = (a : Int) - c + k
theorem four_pos (k : Nat) : (0 : Int) < 4 ^ k := Int.pow_pos (by decide)
theorem four_le {a b : Nat} (h : a ≤ b) : (4 : Int) ^ a ≤ 4 ^ b := by
  obtain ⟨d, rfl⟩ := Nat.exists_eq_add_of_le h
  rw [Int.pow_add]
  have h1 := four_pos a
  have h2 := four_pos d
  have := Int.mul_le_mul_of_nonneg_left (show (1 : Int) ≤ 4 ^ d by lia) (show (0 : Int) ≤ 4 ^ a by lia)
  lia
theorem four_two (k : Nat) : (4 : Int) ^ k = 2 ^ k * 2 ^ k := by
  rw [show (4 : Int) = 2 * 2 from rfl, Int.mul_pow]
theorem odd_two {m n : Int} {j k : Nat} (hm : m % 2 = 1) (hn : n % 2 = 1) (h : m * 2 ^ j = n * 2 ^ k) : m = n ∧ j = k := by
  induction j generalizing k with
  | zero =>
    cases k with
    | zero => simpa using h
    | succ k => rw [Int.pow_succ] at h; exfalso; rw [← Int.mul_assoc] at h; have : (2:Int)^0 = 1 := rfl; rw [this] at h; lia
  | succ j ih =>
    cases k with
    | zero => rw [Int.pow_succ] at h; exfalso; rw [← Int.mul_assoc] at h; have : (2:Int)^0 = 1 := rfl; rw [this] at h; lia
    | succ k =>
      rw [Int.pow_succ, Int.pow_succ, ← Int.mul_assoc, ← Int.mul_assoc] at h
      obtain ⟨e1, e2⟩ := ih (k := k) (by lia)
      exact ⟨e1, by lia⟩
/-- the scale of a RootSpec is not above another's -/
theorem scale_le {p : Nat} (_hp : 1 ≤ p) {T B : Int} (_hT : 0 < T) (hB : 0 < B) {a c a' c' : Nat} {W W' : Int}
    (_l : 2 ^ (p - 1) ≤ W) (u : W < 2 ^ p) (u0 : 0 ≤ W) (hi : T * 4 ^ c < (W + 1) * (W + 1) * (B * 4 ^ a))
    (l' : 2 ^ (p - 1) ≤ W') (lo' : W' * W' * (B * 4 ^ a') ≤ T * 4 ^ c') : a' + c ≤ a + c' := by
  refine Nat.le_of_not_lt fun q => ?_
  -- T 4^c 4^c' < 4^p B 4^(a+c') <= 4^(p-1) B 4^(a'+c) <= T 4^c' 4^c
  have h1 : T * 4 ^ c * 4 ^ c' < 2 ^ p * 2 ^ p * (B * 4 ^ a) * 4 ^ c' := by
    refine Int.mul_lt_mul_of_pos_right (Int.lt_of_lt_of_le hi ?_) (four_pos _)
    exact Int.mul_le_mul_of_nonneg_right (sq_le_of_le (by lia) (by lia)) (Int.le_of_lt (Int.mul_pos hB (four_pos _)))
  have h2 : 2 ^ (p - 1) * 2 ^ (p - 1) * (B * 4 ^ a') * 4 ^ c ≤ T * 4 ^ c' * 4 ^ c := by
    refine Int.mul_le_mul_of_nonneg_right (Int.le_trans ?_ lo') (Int.le_of_lt (four_pos _))
    exact Int.mul_le_mul_of_nonneg_right (sq_le_of_le (Int.le_of_lt (two_pow_pos _)) l') (Int.le_of_lt (Int.mul_pos hB (four_pos _)))
  have e1 : (2 : Int) ^ p * 2 ^ p = 4 * (2 ^ (p - 1) * 2 ^ (p - 1)) := by
    obtain ⟨q, rfl⟩ : ∃ q, p = q + 1 := ⟨p - 1, by lia⟩
    rw [Int.pow_succ, Nat.add_sub_cancel, Int.mul_comm (2 ^ q) 2, Int.mul_assoc, Int.mul_left_comm (2 ^ q) 2, ← Int.mul_assoc 2 2]; rfl
  generalize (2 : Int) ^ (p - 1) * 2 ^ (p - 1) = X at *
  rw [e1] at h1
  have hX : 0 ≤ X := by
    rcases Int.lt_or_le X 0 with z | z
    · exfalso
      have w1 : 0 ≤ T * 4 ^ c * 4 ^ c' := Int.le_of_lt (Int.mul_pos (Int.mul_pos _hT (four_pos _)) (four_pos _))
      have w2 : 4 * X * (B * 4 ^ a) * 4 ^ c' ≤ 0 := Int.mul_nonpos_of_nonpos_of_nonneg (Int.mul_nonpos_of_nonpos_of_nonneg (by lia) (Int.le_of_lt (Int.mul_pos hB (four_pos _)))) (Int.le_of_lt (four_pos _))
      lia
    · exact z
  have e2 : 4 * X * (B * 4 ^ a) * 4 ^ c' = X * B * 4 ^ (a + c' + 1) := by
    rw [Int.pow_succ, Int.pow_add]
    simp only [Int.mul_assoc, Int.mul_left_comm, Int.mul_comm]
  have e3 : X * (B * 4 ^ a') * 4 ^ c = X * B * 4 ^ (a' + c) := by
    rw [Int.pow_add]
    simp only [Int.mul_assoc]
  have e4 : T * 4 ^ c' * 4 ^ c = T * 4 ^ c * 4 ^ c' := Int.mul_right_comm _ _ _
  have h3 : X * B * 4 ^ (a + c' + 1) ≤ X * B * 4 ^ (a' + c) := Int.mul_le_mul_of_nonneg_left (four_le (by lia)) (Int.mul_nonneg hX (Int.le_of_lt hB))
  lia
theorem RootSpec.unique {p : Nat} (hp : 1 ≤ p) {T B : Int} (hT : 0 < T) (hB : 0 < B) {r r' : Int × Int} (h : RootSpec p T B r) (h' : RootSpec p T B r') : r = r' := by
  obtain ⟨a, c, k, W, l, u, lo, hi, od, eq, ex⟩ := h
  obtain ⟨a', c', k', W', l', u', lo', hi', od', eq', ex'⟩ := h'
  have w0 : 0 ≤ W := Int.le_trans (Int.le_of_lt (two_pow_pos _)) l
  have w0' : 0 ≤ W' := Int.le_trans (Int.le_of_lt (two_pow_pos _)) l'
  have s1 := scale_le hp hT hB l u w0 hi l' lo'
  have s2 := scale_le hp hT hB l' u' w0' hi' l lo
  have hs : a' + c = a + c' := by lia
  -- bring both to one scale: multiply the first by 4^(c'), 4^(a'), the second ..
  have f1 : W * W * (B * 4 ^ (a + c')) ≤ T * 4 ^ (c + c') := by
    have := Int.mul_le_mul_of_nonneg_right lo (Int.le_of_lt (four_pos c'))
    rw [Int.pow_add, Int.pow_add]; simpa only [Int.mul_assoc] using this
  have f2 : T * 4 ^ (c + c') < (W + 1) * (W + 1) * (B * 4 ^ (a + c')) := by
    have := Int.mul_lt_mul_of_pos_right hi (four_pos c')
    rw [Int.pow_add, Int.pow_add]; simpa only [Int.mul_assoc] using this
  have f1' : W' * W' * (B * 4 ^ (a + c')) ≤ T * 4 ^ (c + c') := by
    have := Int.mul_le_mul_of_nonneg_right lo' (Int.le_of_lt (four_pos c))
    rw [← hs, Nat.add_comm c c', Int.pow_add, Int.pow_add]; simpa only [Int.mul_assoc] using this
  have f2' : T * 4 ^ (c + c') < (W' + 1) * (W' + 1) * (B * 4 ^ (a + c')) := by
    have := Int.mul_lt_mul_of_pos_right hi' (four_pos c)
    rw [← hs, Nat.add_comm c c', Int.pow_add, Int.pow_add]; simpa only [Int.mul_assoc] using this
  have hb : 0 < B * 4 ^ (a + c') := Int.mul_pos hB (four_pos _)
  have g1 : W * W < (W' + 1) * (W' + 1) := Int.lt_of_mul_lt_mul_right (a := B * 4 ^ (a + c')) (by lia) (Int.le_of_lt hb)
  have g2 : W' * W' < (W + 1) * (W + 1) := Int.lt_of_mul_lt_mul_right (a := B * 4 ^ (a + c')) (by lia) (Int.le_of_lt hb)
  have g3 := lt_of_sq (by lia) g1
  have g4 := lt_of_sq (by lia) g2
  obtain rfl : W = W' := by lia
  -- the midpoint's test does not see the scale
  have mid : ∀ (a c d : Nat), upW (T * 4 ^ c) (B * 4 ^ a) W = upW (T * 4 ^ (c + d)) (B * 4 ^ (a + d)) W := fun a c d => by
    unfold upW
    have hd := four_pos d
    have e1 : 4 * (T * 4 ^ (c + d)) = 4 * (T * 4 ^ c) * 4 ^ d := by rw [Int.pow_add]; simp only [Int.mul_assoc]
    have e2 : (2 * W + 1) * (2 * W + 1) * (B * 4 ^ (a + d)) = (2 * W + 1) * (2 * W + 1) * (B * 4 ^ a) * 4 ^ d := by rw [Int.pow_add]; simp only [Int.mul_assoc]
    rw [e1, e2]
    generalize 4 * (T * 4 ^ c) = P
    generalize (2 * W + 1) * (2 * W + 1) * (B * 4 ^ a) = Q
    have c1 : Q < P ↔ Q * 4 ^ d < P * 4 ^ d := ⟨fun h => Int.mul_lt_mul_of_pos_right h hd, fun h => Int.lt_of_mul_lt_mul_right h (Int.le_of_lt hd)⟩
    have c2 : P = Q ↔ P * 4 ^ d = Q * 4 ^ d := ⟨fun h => by rw [h], fun h => Int.eq_of_mul_eq_mul_right (by lia) h⟩
    simp only [c1, c2]
  have m1 := mid a c c'
  have m2 := mid a' c' c
  rw [hs, Nat.add_comm c' c] at m2
  rw [m1, ← m2, ← eq'] at eq
  obtain ⟨e1, e2⟩ := odd_two od od' eq
  refine Prod.ext e1 ?_
  rw [ex, ex', e2]
  lia
/-- the nearest root, by its specification -/
noncomputable def near (p : Nat) (T B : Int) : Int × Int := open Classical in if h : ∃ r, RootSpec p T B r then Classical.choose h else (0, 0)
theorem near_eq {p : Nat} (hp : 1 ≤ p) {T B : Int} (hT : 0 < T) (hB : 0 < B) {r : Int × Int} (h : RootSpec p T B r) : near p T B = r := by
  unfold near
  rw [dif_pos ⟨r, h⟩]
  exact RootSpec.unique hp hT hB (Classical.choose_spec (⟨r, h⟩ : ∃ r, RootSpec p T B r)) h
theorem near_fst {p : Nat} (hp : 1 ≤ p) {T B m e : Int} (hT : 0 < T) (hB : 0 < B) (h : RootSpec p T B (m, e)) : m = (near p T B).1 ∧ e = (near p T B).2 := by
  rw [near_eq hp hT hB h]; exact ⟨rfl, rfl⟩
end
section -- MthP
open PySem PyProof.Rows
theorem st_zero {T4 B r sc : Int} (hB : 0 < B) (hr : r * r ≤ sc) (e1 : B * sc + T4 % B = T4) (hm : 0 ≤ T4 % B) : (T4 % B ≠ 0 ∨ r * r ≠ sc) ↔ T4 ≠ r * r * B := by
  constructor
  · intro h e
    have h1 : B * (sc - r * r) + T4 % B = 0 := by rw [Int.mul_sub, Int.mul_comm B (r * r)]; lia
    have h2 : 0 ≤ B * (sc - r * r) := Int.mul_nonneg (by lia) (by lia)
    have h3 : B * (sc - r * r) = 0 := by omega
    have h4 : sc - r * r = 0 := by
      rcases Int.mul_eq_zero.mp h3 with z | z
      · lia
      · exact z
    rcases h with h | h <;> lia
  · intro h
    rcases Classical.em (T4 % B = 0) with z | z
    · refine .inr fun e => h ?_
      rw [← e, z, Int.add_zero, Int.mul_comm B] at e1
      exact e1.symm
    · exact .inl z
/-- the program's root: isqrt of the scaled quotient, a sticky bit, rounded to p bits -/
theorem prog_spec {p : Nat} (hp : 2 ≤ p ∧ p ≤ 9) {T B : Int} (hT : 0 < T) (hB : 0 < B) (s g : Nat) {sc r st v : Int} (hsc : sc = T * 4 ^ s / B) (hr : r = isq sc)
    (hst : st = if T * 4 ^ s % B ≠ 0 ∨ r * r ≠ sc then 1 else 0) (hv : v = 2 * r + st) (hg : Builtin.Int.intBits v = p + g) (hg2 : 2 ≤ g) :
    RootSpec p T B (oddp (nsV v g), (g : Int) - 1 - s + tzp (nsV v g)) := by
  obtain ⟨G, rfl⟩ : ∃ G, g = G + 2 := ⟨g - 2, by lia⟩
  have hT4 : 0 ≤ T * 4 ^ s := Int.mul_nonneg (by lia) (Int.le_of_lt (four_pos _))
  have sc0 : 0 ≤ sc := by rw [hsc]; exact Int.ediv_nonneg hT4 (by lia)
  have e1 : B * sc + T * 4 ^ s % B = T * 4 ^ s := by rw [hsc]; exact Int.mul_ediv_add_emod _ _
  have m0 : 0 ≤ T * 4 ^ s % B := Int.emod_nonneg _ (by lia)
  have m1 : T * 4 ^ s % B < B := Int.emod_lt_of_pos _ hB
  have r0 : 0 ≤ r := by rw [hr]; exact isq_nonneg _
  have rl : r * r ≤ sc := by rw [hr]; exact isq_lo sc0
  have ru : sc < (r + 1) * (r + 1) := by rw [hr]; exact isq_hi sc0
  have z := st_zero hB rl e1 m0
  generalize hT4e : T * 4 ^ s = T4 at *
  have lo : r * r * B ≤ T4 := by
    have := Int.mul_le_mul_of_nonneg_right rl (Int.le_of_lt hB)
    rw [Int.mul_comm sc B] at this; lia
  have hi : T4 < (r + 1) * (r + 1) * B := by
    have := Int.mul_le_mul_of_nonneg_right (show sc + 1 ≤ (r + 1) * (r + 1) by lia) (Int.le_of_lt hB)
    rw [Int.add_mul, Int.mul_comm sc B, Int.one_mul] at this; lia
  have st01 : (st = 0 ∧ T4 = r * r * B) ∨ (st = 1 ∧ T4 ≠ r * r * B) := by
    rw [hst]
    rcases Classical.em (T4 % B ≠ 0 ∨ r * r ≠ sc) with q | q
    · exact .inr ⟨if_pos q, z.mp q⟩
    · exact .inl ⟨if_neg q, Classical.byContradiction fun w => q (z.mpr w)⟩
  clear hst z
  -- the bits of v
  have v0 : 0 < v := by
    rcases Int.lt_or_le 0 v with q | q
    · exact q
    · exfalso
      have : v = 0 := by lia
      rw [this] at hg
      have : Builtin.Int.intBits 0 = 0 := rfl
      lia
  have hb := ns_bounds (v := v) (g := ((G + 2 : Nat) : Int)) (p := (p : Int)) v0 (by lia) (by lia) (by lia)
  have ht := tz_facts (n := nsV v ((G + 2 : Nat) : Int)) ⟨hb.1, hb.2.2⟩
  have h1 := bits_lt (Int.le_of_lt v0)
  have h2 := (bits_ge v0).1
  rw [hg] at h1 h2
  -- h = 2^(G+1) = 2 h'
  have eh : (2 : Int) ^ (G + 2) = 2 * (2 * 2 ^ G) := by rw [Int.pow_succ, Int.pow_succ]; lia
  have eh1 : (2 : Int) ^ (((G + 2 : Nat) : Int) - 1).toNat = 2 * 2 ^ G := by
    have : (((G + 2 : Nat) : Int) - 1).toNat = G + 1 := by lia
    rw [this, Int.pow_succ]; lia
  have eh2 : ((G + 2 : Nat) : Int).toNat = G + 2 := by lia
  have hpos := two_pow_pos G
  have W1 : 2 ^ (p - 1) ≤ v / 2 ^ (G + 2) := by
    refine Int.le_ediv_of_mul_le (two_pow_pos _) ?_
    rw [← Int.pow_add]
    have : p - 1 + (G + 2) = p + (G + 2) - 1 := by lia
    rw [this]; exact h2
  have W2 : v / 2 ^ (G + 2) < 2 ^ p := by
    refine Int.ediv_lt_of_lt_mul (two_pow_pos _) ?_
    rw [← Int.pow_add]; exact h1
  have ev : v / 2 ^ (G + 2) = r / (2 * 2 ^ G) := by
    rw [eh, ← Int.ediv_ediv_of_nonneg (by decide : (0 : Int) ≤ 2)]
    congr 1; lia
  have e4 : (4 : Int) ^ (G + 1) = (2 * 2 ^ G) * (2 * 2 ^ G) := by
    rw [four_two, Int.pow_succ]; simp only [Int.mul_comm, Int.mul_left_comm]
  have eN : nsV v ((G + 2 : Nat) : Int) = upW T4 (B * 4 ^ (G + 1)) (v / 2 ^ (G + 2)) := by
    rw [nsV, upW, eh1, eh2]
    have er : v % 2 ^ (G + 2) = 2 * (r % (2 * 2 ^ G)) + st := by
      have a1 := Int.mul_ediv_add_emod r (2 * 2 ^ G)
      have a2 := Int.mul_ediv_add_emod v (2 ^ (G + 2))
      rw [ev, eh, Int.mul_assoc] at a2
      rw [eh]
      lia
    have ρ0 : 0 ≤ r % (2 * 2 ^ G) := Int.emod_nonneg _ (by lia)
    have ρ1 : r % (2 * 2 ^ G) < 2 * 2 ^ G := Int.emod_lt_of_pos _ (by lia)
    have a1 := Int.mul_ediv_add_emod r (2 * 2 ^ G)
    rw [er, e4, ev]
    have Wn : 0 ≤ r / (2 * 2 ^ G) := Int.ediv_nonneg r0 (by lia)
    generalize r % (2 * 2 ^ G) = ρ at *
    generalize r / (2 * 2 ^ G) = W at *
    generalize (2 : Int) ^ G = h' at *
    have eq : (2 * W + 1) * (2 * W + 1) * (B * (2 * h' * (2 * h'))) = 4 * ((2 * h' * W + h') * (2 * h' * W + h') * B) := by
      have : (2 * W + 1) * (2 * W + 1) * (B * (2 * h' * (2 * h'))) = ((2 * W + 1) * (2 * h')) * ((2 * W + 1) * (2 * h')) * B := by
        simp only [Int.mul_assoc, Int.mul_left_comm, Int.mul_comm]
      rw [this]
      have e : (2 * W + 1) * (2 * h') = 2 * (2 * h' * W + h') := by
        rw [Int.add_mul, Int.one_mul, Int.mul_add]
        congr 1
        simp only [Int.mul_assoc, Int.mul_left_comm, Int.mul_comm]
      rw [e]
      generalize 2 * h' * W + h' = q
      have : 2 * q * (2 * q) = 4 * (q * q) := by rw [Int.mul_assoc, Int.mul_left_comm q 2 q, ← Int.mul_assoc 2 2]; rfl
      rw [this, Int.mul_assoc]
    rw [eq]
    have q0 : 0 ≤ 2 * h' * W := Int.mul_nonneg (by lia) Wn
    generalize 2 * h' * W = hw at *
    have c1 : (2 * h' < 2 * ρ + st) ↔ 4 * ((hw + h') * (hw + h') * B) < 4 * T4 := by
      rcases Int.lt_trichotomy ρ h' with w | w | w
      · have : (r + 1) * (r + 1) * B ≤ (hw + h') * (hw + h') * B := Int.mul_le_mul_of_nonneg_right (sq_le_of_le (by lia) (by lia)) (by lia)
        constructor <;> intro _ <;> lia
      · have : r = hw + h' := by lia
        rw [← this]
        constructor <;> intro _ <;> omega
      · have : (hw + h') * (hw + h') * B < r * r * B := Int.mul_lt_mul_of_pos_right (sq_lt_of_lt (by lia) (by lia)) hB
        constructor <;> intro _ <;> lia
    have c2 : (2 * ρ + st = 2 * h') ↔ 4 * T4 = 4 * ((hw + h') * (hw + h') * B) := by
      rcases Int.lt_trichotomy ρ h' with w | w | w
      · have : (r + 1) * (r + 1) * B ≤ (hw + h') * (hw + h') * B := Int.mul_le_mul_of_nonneg_right (sq_le_of_le (by lia) (by lia)) (by lia)
        constructor <;> intro _ <;> lia
      · have : r = hw + h' := by lia
        rw [← this]
        constructor <;> intro _ <;> omega
      · have : (hw + h') * (hw + h') * B < r * r * B := Int.mul_lt_mul_of_pos_right (sq_lt_of_lt (by lia) (by lia)) hB
        constructor <;> intro _ <;> lia
    simp only [c1, c2]
  refine ⟨G + 1, s, (tzp (nsV v ((G + 2 : Nat) : Int))).toNat, v / 2 ^ (G + 2), W1, W2, ?_, ?_, ht.2.2.1, ?_, ?_⟩
  · rw [hT4e, ev, e4]
    have a1 := Int.mul_ediv_add_emod r (2 * 2 ^ G)
    have ρ0 : 0 ≤ r % (2 * 2 ^ G) := Int.emod_nonneg _ (by lia)
    have Wn : 0 ≤ r / (2 * 2 ^ G) := Int.ediv_nonneg r0 (by lia)
    have : r / (2 * 2 ^ G) * (r / (2 * 2 ^ G)) * (B * (2 * 2 ^ G * (2 * 2 ^ G))) = (2 * 2 ^ G * (r / (2 * 2 ^ G))) * (2 * 2 ^ G * (r / (2 * 2 ^ G))) * B := by
      simp only [Int.mul_assoc, Int.mul_left_comm, Int.mul_comm]
    rw [this]
    have q0 : 0 ≤ 2 * 2 ^ G * (r / (2 * 2 ^ G)) := Int.mul_nonneg (by lia) Wn
    exact Int.le_trans (Int.mul_le_mul_of_nonneg_right (sq_le_of_le q0 (by lia)) (Int.le_of_lt hB)) lo
  · rw [hT4e, ev, e4]
    have a1 := Int.mul_ediv_add_emod r (2 * 2 ^ G)
    have ρ1 : r % (2 * 2 ^ G) < 2 * 2 ^ G := Int.emod_lt_of_pos _ (by lia)
    have Wn : 0 ≤ r / (2 * 2 ^ G) := Int.ediv_nonneg r0 (by lia)
    have : (r / (2 * 2 ^ G) + 1) * (r / (2 * 2 ^ G) + 1) * (B * (2 * 2 ^ G * (2 * 2 ^ G))) = (2 * 2 ^ G * (r / (2 * 2 ^ G) + 1)) * (2 * 2 ^ G * (r / (2 * 2 ^ G) + 1)) * B := by
      simp only [Int.mul_assoc, Int.mul_left_comm, Int.mul_comm]
    rw [this]
    refine Int.lt_of_lt_of_le hi (Int.mul_le_mul_of_nonneg_right (sq_le_of_le (by lia) ?_) (Int.le_of_lt hB))
    rw [Int.mul_add]; lia
  · show oddp _ * _ = _
    rw [hT4e, ht.2.2.2.1, eN]
  · have := ht.1
    show (((G + 2 : Nat) : Int) - 1 - s + tzp _) = _
    lia
/-- the scale moved: N 4^y B = T 4^x -/
theorem RootSpec.scaled {p : Nat} {N T B : Int} {r : Int × Int} (h : RootSpec p N 1 r) (x y : Nat) (hB : 0 < B) (e : T * 4 ^ x = N * B * 4 ^ y) : RootSpec p T B (r.1, r.2 + y - x) := by
  obtain ⟨a, c, k, W, l, u, lo, hi, od, eq, ex⟩ := h
  have hy : 0 < B * 4 ^ y := Int.mul_pos hB (four_pos _)
  have eT : T * 4 ^ (c + x) = N * 4 ^ c * (B * 4 ^ y) := by
    rw [Int.pow_add]
    have : T * (4 ^ c * 4 ^ x) = T * 4 ^ x * 4 ^ c := by simp only [Int.mul_assoc, Int.mul_left_comm, Int.mul_comm]
    rw [this, e]
    simp only [Int.mul_assoc, Int.mul_left_comm, Int.mul_comm]
  have eB : B * 4 ^ (a + y) = 1 * 4 ^ a * (B * 4 ^ y) := by
    rw [Int.pow_add]
    simp only [Int.mul_assoc, Int.mul_left_comm, Int.mul_comm, Int.one_mul]
  refine ⟨a + y, c + x, k, W, l, u, ?_, ?_, od, ?_, ?_⟩
  · rw [eT, eB]
    have := Int.mul_le_mul_of_nonneg_right lo (Int.le_of_lt hy)
    rwa [Int.mul_assoc (W * W)] at this
  · rw [eT, eB]
    have := Int.mul_lt_mul_of_pos_right hi hy
    rwa [Int.mul_assoc ((W + 1) * (W + 1))] at this
  · rw [eT, eB, eq]
    unfold upW
    generalize (2 * W + 1) * (2 * W + 1) = M
    generalize N * 4 ^ c = P
    generalize (1 * 4 ^ a : Int) = R
    generalize B * 4 ^ y = D at *
    have c1 : M * R < 4 * P ↔ M * (R * D) < 4 * (P * D) := by
      rw [← Int.mul_assoc, ← Int.mul_assoc]
      exact ⟨fun h => Int.mul_lt_mul_of_pos_right h hy, fun h => Int.lt_of_mul_lt_mul_right h (Int.le_of_lt hy)⟩
    have c2 : 4 * P = M * R ↔ 4 * (P * D) = M * (R * D) := by
      rw [← Int.mul_assoc, ← Int.mul_assoc]
      exact ⟨fun h => by rw [h], fun h => Int.eq_of_mul_eq_mul_right (by lia) h⟩
    simp only [c1, c2]
  · show r.2 + y - x = _
    rw [ex]; lia
/-- the law's root: top, bottom scaled, the whole root, the midpoint, the twos struck -/
theorem law_spec {p : Nat} {T B t b : Int} (a c k : Nat) (ht : t = T * 4 ^ c) (hb : b = B * 4 ^ a) (hb0 : 0 < b) (l : b * 4 ^ (p - 1) ≤ t) (u : t < b * 4 ^ p) {m e : Int}
    (od : m % 2 = 1) (hm : m * 2 ^ k = upW t b (isq (t / b))) (he : e = (a : Int) - c + k) : RootSpec p T B (m, e) := by
  have t0 : 0 ≤ t := Int.le_trans (Int.mul_nonneg (Int.le_of_lt hb0) (Int.le_of_lt (four_pos _))) l
  have d0 : 0 ≤ t / b := Int.ediv_nonneg t0 (Int.le_of_lt hb0)
  have w0 := isq_nonneg (t / b)
  have w1 := isq_lo d0
  have w2 := isq_hi d0
  have e1 := Int.mul_ediv_add_emod t b
  have m0 := Int.emod_nonneg t (show b ≠ 0 by lia)
  have m1 := Int.emod_lt_of_pos t hb0
  refine ⟨a, c, k, isq (t / b), ?_, ?_, ?_, ?_, od, ?_, he⟩
  · have : 4 ^ (p - 1) ≤ t / b := Int.le_ediv_of_mul_le hb0 (by rw [Int.mul_comm]; exact l)
    rw [four_two] at this
    have : (2 : Int) ^ (p - 1) < isq (t / b) + 1 := lt_of_sq (by lia) (by lia)
    lia
  · have : t / b < 4 ^ p := Int.ediv_lt_of_lt_mul hb0 (by rw [Int.mul_comm]; exact u)
    rw [four_two] at this
    exact isq_lt d0 (Int.le_of_lt (two_pow_pos _)) this
  · rw [← ht, ← hb]
    have := Int.mul_le_mul_of_nonneg_right w1 (Int.le_of_lt hb0)
    rw [Int.mul_comm (t / b) b] at this
    lia
  · rw [← ht, ← hb]
    have := Int.mul_le_mul_of_nonneg_right (show t / b + 1 ≤ (isq (t / b) + 1) * (isq (t / b) + 1) by lia) (Int.le_of_lt hb0)
    rw [Int.add_mul, Int.one_mul, Int.mul_comm (t / b) b] at this
    lia
  · rw [← ht, ← hb]; exact hm
end
section -- MthQ
open PySem PyProof.Rows
noncomputable abbrev bitsI (n : Int) : Int := ((Builtin.Int.intBits n : Nat) : Int)
/-- the shift of sqrt_of_ratio -/
noncomputable abbrev shR (p t b : Int) : Int := if p + 4 + (bitsI b - bitsI t).fdiv 2 > 0 then p + 4 + (bitsI b - bitsI t).fdiv 2 else 0
theorem bits_ge1 {n : Int} (h : 0 < n) : 1 ≤ bitsI n := by
  have := (bits_ge h).2
  unfold bitsI; lia
theorem bits_leI {n : Int} {k : Nat} (h : 0 ≤ n) (hk : n < 2 ^ k) : bitsI n ≤ k := by
  have := bits_le h hk
  unfold bitsI; lia
theorem shR_in {p t b : Int} (hp : 2 ≤ p ∧ p ≤ 9) (ht : 0 < t) (hb : 0 < b ∧ b < 2 ^ 10) : 0 ≤ shR p t b ∧ shR p t b ≤ 17 ∧ 2 * p + 7 ≤ 2 * shR p t b + bitsI t - bitsI b := by
  have h1 := bits_ge1 ht
  have h2 := bits_leI (k := 10) (Int.le_of_lt hb.1) hb.2
  have h3 := bits_ge1 hb.1
  unfold shR
  rw [Int.fdiv_eq_ediv_of_nonneg _ (by decide)]
  split <;> lia
theorem two_pow_mul (a b : Nat) : (2 : Int) ^ a * 2 ^ b = 2 ^ (a + b) := (Int.pow_add 2 a b).symm
/-- a number's bits from below -/
theorem bits_ge_of {n : Int} {k : Nat} (h : 2 ^ k ≤ n) : k + 1 ≤ Builtin.Int.intBits n := by
  have hn : 0 ≤ n := Int.le_trans (Int.le_of_lt (two_pow_pos k)) h
  have h1 := bits_lt hn
  refine Nat.lt_of_not_le fun q => ?_
  have := two_pow_le q
  lia
theorem isq_ge {n : Int} {k : Nat} (h : 2 ^ (2 * k) ≤ n) : 2 ^ k ≤ isq n := by
  have h0 : 0 ≤ n := Int.le_trans (Int.le_of_lt (two_pow_pos _)) h
  have h1 := isq_hi h0
  rw [← pow_two_sq] at h
  have := lt_of_sq (a := 2 ^ k) (b := isq n + 1) (by have := isq_nonneg n; lia) (by lia)
  lia
theorem four_of (s : Int) : (2 : Int) ^ (2 * s).toNat = 4 ^ s.toNat := by
  have : (2 * s).toNat = s.toNat + s.toNat := by lia
  rw [this, Int.pow_add, four_two]
theorem scaled_in {p t b : Int} (hp : 2 ≤ p ∧ p ≤ 9) (ht : 0 < t ∧ t < 2 ^ 20) (hb : 0 < b ∧ b < 2 ^ 10) :
    2 ^ (2 * (p.toNat + 3)) ≤ (t * 2 ^ (2 * shR p t b).toNat).fdiv b ∧ (t * 2 ^ (2 * shR p t b).toNat).fdiv b < 2 ^ 54 := by
  obtain ⟨s0, s1, s2⟩ := shR_in hp ht.1 hb
  generalize shR p t b = s at *
  rw [Int.fdiv_eq_ediv_of_nonneg _ (Int.le_of_lt hb.1)]
  have t1 := (bits_ge ht.1)
  have b1 := bits_lt (Int.le_of_lt hb.1)
  have p1 : (0 : Int) < 2 ^ (2 * s).toNat := two_pow_pos _
  constructor
  · refine Int.le_ediv_of_mul_le hb.1 ?_
    have e1 : (2 : Int) ^ (2 * (p.toNat + 3)) * b ≤ 2 ^ (2 * (p.toNat + 3)) * 2 ^ Builtin.Int.intBits b := Int.mul_le_mul_of_nonneg_left (Int.le_of_lt b1) (Int.le_of_lt (two_pow_pos _))
    have e2 : (2 : Int) ^ (Builtin.Int.intBits t - 1) * 2 ^ (2 * s).toNat ≤ t * 2 ^ (2 * s).toNat := Int.mul_le_mul_of_nonneg_right t1.1 (Int.le_of_lt p1)
    have e3 : (2 : Int) ^ (2 * (p.toNat + 3)) * 2 ^ Builtin.Int.intBits b ≤ 2 ^ (Builtin.Int.intBits t - 1) * 2 ^ (2 * s).toNat := by
      rw [two_pow_mul, two_pow_mul]
      refine two_pow_le ?_
      have := t1.2
      unfold bitsI at s2
      lia
    lia
  · have e1 : (2 : Int) ^ (2 * s).toNat ≤ 2 ^ 34 := two_pow_le (by lia)
    have e2 : t * 2 ^ (2 * s).toNat ≤ t * 2 ^ 34 := Int.mul_le_mul_of_nonneg_left e1 (Int.le_of_lt ht.1)
    have e3 : t * 2 ^ (2 * s).toNat / b ≤ t * 2 ^ (2 * s).toNat := Int.ediv_le_self _ (Int.mul_nonneg (Int.le_of_lt ht.1) (Int.le_of_lt p1))
    lia
/-- v = 2 isq sc + sticky: its bits -/
theorem v_in {k : Nat} {sc st : Int} (h0 : 2 ^ (2 * k) ≤ sc) (h1 : sc < 2 ^ 54) (hst : st = 0 ∨ st = 1) : 0 < 2 * isq sc + st ∧ (k : Int) + 2 ≤ bitsI (2 * isq sc + st) ∧ bitsI (2 * isq sc + st) ≤ 28 := by
  have a := isq_ge h0
  have b := isq_lt (n := sc) (b := 2 ^ 27) (Int.le_trans (Int.le_of_lt (two_pow_pos _)) h0) (by decide) (Int.lt_of_lt_of_le h1 (by decide))
  have c := two_pow_pos k
  refine ⟨by lia, ?_, ?_⟩
  · have : k + 1 + 1 ≤ Builtin.Int.intBits (2 * isq sc + st) := bits_ge_of (by rw [Int.pow_succ]; lia)
    unfold bitsI; lia
  · have : (2 : Int) ^ 28 = 268435456 := rfl
    exact bits_leI (k := 28) (by lia) (by lia)
/-- sqrt_of_ratio's answer -/
theorem ratio_near {p t b : Int} (hp : 2 ≤ p ∧ p ≤ 9) (ht : 0 < t ∧ t < 2 ^ 20) (hb : 0 < b ∧ b < 2 ^ 10) {sc st v : Int} (hsc : sc = (t * 2 ^ (2 * shR p t b).toNat).fdiv b)
    (hst : ((t * 2 ^ (2 * shR p t b).toNat).fmod b ≠ 0 ∨ sc - isq sc * isq sc ≠ 0) ∧ st = 1 ∨ ((t * 2 ^ (2 * shR p t b).toNat).fmod b = 0 ∧ sc - isq sc * isq sc = 0) ∧ st = 0) (hv : v = 2 * isq sc + st) :
    oddp (nsV v (bitsI v - p)) = (near p.toNat t b).1 ∧ 0 - shR p t b - 1 + (bitsI v - p) + tzp (nsV v (bitsI v - p)) = (near p.toNat t b).2 := by
  obtain ⟨s0, s1, s2⟩ := shR_in hp ht.1 hb
  have sin := scaled_in hp ht hb
  rw [← hsc] at sin
  have vin := v_in (st := st) sin.1 sin.2 (by lia)
  rw [← hv] at vin
  generalize shR p t b = s at *
  rw [four_of] at *
  have eg : bitsI v - p = (((Builtin.Int.intBits v - p.toNat : Nat)) : Int) := by
    have := vin.2.1
    unfold bitsI at *
    lia
  have R := prog_spec (p := p.toNat) (T := t) (B := b) (by lia) ht.1 hb.1 s.toNat (Builtin.Int.intBits v - p.toNat) (sc := sc) (r := isq sc) (st := st) (v := v)
    (by rw [hsc, Int.fdiv_eq_ediv_of_nonneg _ (Int.le_of_lt hb.1)]) rfl (by
      rw [Int.fmod_eq_emod_of_nonneg _ (Int.le_of_lt hb.1)] at hst
      rcases hst with ⟨h, e⟩ | ⟨⟨h1, h2⟩, e⟩
      · rw [if_pos (by lia)]; exact e
      · rw [if_neg (by lia)]; exact e) hv (by have := vin.2.1; unfold bitsI at this; lia) (by have := vin.2.1; unfold bitsI at this; lia)
  have N := near_fst (by lia) ht.1 hb.1 R
  rw [eg]
  refine ⟨N.1, ?_⟩
  rw [← N.2]
  lia
/-- a Real as a fraction -/
noncomputable def frT (m e : Int) : Int := if e ≥ 0 then m * 2 ^ e.toNat else m
noncomputable def frB (e : Int) : Int := if e ≥ 0 then 1 else 2 ^ (0 - e).toNat
noncomputable abbrev sh0 (p m : Int) : Int := if 2 * (p + 2) - bitsI m > 0 then 2 * (p + 2) - bitsI m else 0
noncomputable abbrev shX (p m e : Int) : Int := sh0 p m + (e - sh0 p m) % 2
theorem shX_in {p m e : Int} (hp : 2 ≤ p ∧ p ≤ 9) (hm : 0 < m) : 0 ≤ shX p m e ∧ shX p m e ≤ 22 ∧ 2 * p + 4 ≤ shX p m e + bitsI m ∧ (e - shX p m e) % 2 = 0 := by
  have h1 := bits_ge1 hm
  unfold shX sh0
  split <;> lia
theorem number_in {p m e : Int} (hp : 2 ≤ p ∧ p ≤ 9) (hm : 0 < m ∧ m ≤ 512) : 2 ^ (2 * (p.toNat + 1)) ≤ m * 2 ^ (shX p m e).toNat ∧ m * 2 ^ (shX p m e).toNat < 2 ^ 54 := by
  obtain ⟨s0, s1, s2, s3⟩ := shX_in (e := e) hp hm.1
  generalize shX p m e = s at *
  have m1 := bits_ge hm.1
  have p1 : (0 : Int) < 2 ^ s.toNat := two_pow_pos _
  constructor
  · have e2 : (2 : Int) ^ (Builtin.Int.intBits m - 1) * 2 ^ s.toNat ≤ m * 2 ^ s.toNat := Int.mul_le_mul_of_nonneg_right m1.1 (Int.le_of_lt p1)
    refine Int.le_trans ?_ e2
    rw [two_pow_mul]
    refine two_pow_le ?_
    have := m1.2
    unfold bitsI at s2
    lia
  · have e1 : (2 : Int) ^ s.toNat ≤ 2 ^ 22 := two_pow_le (by lia)
    have e2 : m * 2 ^ s.toNat ≤ m * 2 ^ 22 := Int.mul_le_mul_of_nonneg_left e1 (Int.le_of_lt hm.1)
    lia
theorem frT_pos {m e : Int} (hm : 0 < m) : 0 < frT m e := by
  unfold frT; split
  · exact Int.mul_pos hm (two_pow_pos _)
  · exact hm
theorem frB_pos (e : Int) : 0 < frB e := by
  unfold frB; split
  · decide
  · exact two_pow_pos _
/-- m 2^s 2^-(s-e) as a fraction, s - e even -/
theorem real_scale {m e s : Int} (h0 : 0 ≤ s) (h2 : (e - s) % 2 = 0) : frT m e * 4 ^ ((s - e) / 2).toNat = m * 2 ^ s.toNat * frB e * 4 ^ ((e - s) / 2).toNat := by
  unfold frT frB
  rcases Int.lt_or_le e 0 with q | q
  · rw [if_neg (by lia), if_neg (by lia)]
    have e1 : ((e - s) / 2).toNat = 0 := by lia
    rw [e1, four_two, Int.pow_zero, Int.mul_one, Int.mul_assoc, two_pow_mul, two_pow_mul]
    congr 2
    lia
  · rw [if_pos q, if_pos q, Int.mul_one, Int.mul_assoc, Int.mul_assoc, four_two, four_two, two_pow_mul, two_pow_mul, two_pow_mul, two_pow_mul]
    congr 2
    lia
theorem real_near {p m e : Int} (hp : 2 ≤ p ∧ p ≤ 9) (hm : 0 < m ∧ m ≤ 512) {n st v : Int} (hn : n = m * 2 ^ (shX p m e).toNat)
    (hst : (isq n * isq n ≠ n ∧ st = 1) ∨ (isq n * isq n = n ∧ st = 0)) (hv : v = 2 * isq n + st) :
    oddp (nsV v (bitsI v - p)) = (near p.toNat (frT m e) (frB e)).1 ∧ (e - shX p m e).fdiv 2 - 1 + (bitsI v - p) + tzp (nsV v (bitsI v - p)) = (near p.toNat (frT m e) (frB e)).2 := by
  obtain ⟨s0, s1, s2, s3⟩ := shX_in (e := e) hp hm.1
  have sin := number_in (e := e) hp hm
  rw [← hn] at sin
  have vin := v_in (st := st) sin.1 sin.2 (by lia)
  rw [← hv] at vin
  generalize shX p m e = s at *
  have eg : bitsI v - p = (((Builtin.Int.intBits v - p.toNat : Nat)) : Int) := by
    have := vin.2.1
    unfold bitsI at *
    lia
  have n0 : 0 < n := Int.lt_of_lt_of_le (two_pow_pos _) sin.1
  have R := prog_spec (p := p.toNat) (T := n) (B := 1) (by lia) n0 (by decide) 0 (Builtin.Int.intBits v - p.toNat) (sc := n) (r := isq n) (st := st) (v := v)
    (by rw [Int.pow_zero, Int.mul_one, Int.ediv_one]) rfl (by
      rw [Int.emod_one]
      rcases hst with ⟨h, e⟩ | ⟨h, e⟩
      · rw [if_pos (.inr h)]; exact e
      · rw [if_neg (by lia)]; exact e) hv (by have := vin.2.1; unfold bitsI at this; lia) (by have := vin.2.1; unfold bitsI at this; lia)
  have R2 := R.scaled ((s - e) / 2).toNat ((e - s) / 2).toNat (frB_pos e) (T := frT m e) (by rw [hn]; exact real_scale s0 s3)
  have N := near_fst (by lia) (frT_pos hm.1) (frB_pos e) R2
  rw [eg]
  refine ⟨N.1, ?_⟩
  rw [← N.2, Int.fdiv_eq_ediv_of_nonneg _ (by decide)]
  dsimp only
  lia
end
section -- Base
open PySem PySem.W PyProof.Rows PySem.Calls PySem.Spec
noncomputable abbrev PRG : Program := PySem.Challenge.rw_nt0166_01.row.prog
abbrev Ret := World → Heap → Addr → (Str → Option Value) → List (Addr × Obj) → Shared → (Value → Shared → Prop) → (Value → Shared → Prop) → Prop
abbrev Fn (w : World) (need : Nat) (f : Addr) (vs : List Value) (news : List (Addr × Obj)) (R : Ret) : Prop :=
  ∀ (mean : ExcName → Option Value) (mg mb : Str → Option Value) (dp un : Nat) (gd : Option (List Code)) (cn : Str) (cs : Scope) (a : Addr) (ccd : Value) (cl : List (Str × Addr)) (outer : List Env) (A₀ : Around) (base h₀ : Heap) (L : Addr) (m : Str → Option Value) (s : Shared) (Q E : Value → Shared → Prop),
    Below A₀ base outer h₀ → Fr h₀ L s.heap m → (hd.heap_1 w.params).In h₀ → News h₀ L s.heap news → Top hd.view_39 [Str.ofString "REACH"] mean mg mb h₀ → cs.kind = .function →
    dp + need < recursionLimit → un + 8 * need < cLine → R w h₀ L m news s Q E →
      wpAny (model PySem.Challenge.rw_nt0166_01.row.prog w) (ktrTop dp un gd cn cs L a ccd cl outer) (call (.ref f) vs) Q E s
theorem Fn.use {w : World} {need : Nat} {f : Addr} {vs : List Value} {news : List (Addr × Obj)} {R : Ret} (H : Fn w need f vs news R)
    {mean : ExcName → Option Value} {mg mb : Str → Option Value} {dp un : Nat} {gd : Option (List Code)} {cn : Str} {cs : Scope} {a : Addr} {ccd : Value} {cl : List (Str × Addr)} {outer : List Env} {A₀ : Around} {base h₀ : Heap} {L : Addr} {m : Str → Option Value} {s : Shared} {Q E : Value → Shared → Prop}
    (B : Below A₀ base outer h₀) (F : Fr h₀ L s.heap m) (X : (hd.heap_1 w.params).In h₀) (N : News h₀ L s.heap news) (T : Top hd.view_39 [Str.ofString "REACH"] mean mg mb h₀) (k : cs.kind = .function)
    (d : dp + need < recursionLimit) (u : un + 8 * need < cLine) (r : R w h₀ L m news s Q E) :
    wpAny (model PySem.Challenge.rw_nt0166_01.row.prog w) (ktrTop dp un gd cn cs L a ccd cl outer) (call (.ref f) vs) Q E s := H mean mg mb dp un gd cn cs a ccd cl outer A₀ base h₀ L m s Q E B F X N T k d u r
abbrev RetI (x : Int) : Ret := fun _ h₀ L m news s Q _ => ∀ (t : Tok) (h' : Heap) (tk' : Nat), Fr h₀ L h' m → News h₀ L h' news → Q (.int x t) { s with heap := h', toks := tk' }
noncomputable abbrev tupObj (vs : List Value) : Obj := { cls := Value.type "tuple", data := Data.seq vs.toArray }
abbrev RetT2 (x y : Int) : Ret := fun _ h₀ L m news s Q _ => ∀ (q : Addr) (t u : Tok) (h' : Heap) (tk' : Nat), Fr h₀ L h' m → News h₀ L h' ((q, { cls := Value.type "tuple", data := Data.seq #[.int x t, .int y u] }) :: news) → Q (.ref q) { s with heap := h', toks := tk' }
theorem ret_t2 {h₀ h' : Heap} {L q : Addr} {m : Str → Option Value} {news : List (Addr × Obj)} {s : Shared} {Q : Value → Shared → Prop} {t u : Tok} {tk' : Nat} {x y x' y' : Int}
    (hret : ∀ (q : Addr) (t u : Tok) (h' : Heap) (tk' : Nat), Fr h₀ L h' m → News h₀ L h' ((q, { cls := Value.type "tuple", data := Data.seq #[.int x t, .int y u] }) :: news) → Q (.ref q) { s with heap := h', toks := tk' })
    (e : x' = x ∧ y' = y) (F : Fr h₀ L h' m) (N : News h₀ L h' ((q, { cls := Value.type "tuple", data := Data.seq #[.int x' t, .int y' u] }) :: news)) : Q (.ref q) { s with heap := h', toks := tk' } := by
  obtain ⟨rfl, rfl⟩ := e
  exact hret q t u h' tk' F N
theorem ntl {h₀ h : Heap} {L : Addr} {x : Addr × Obj} {news : List (Addr × Obj)} (N : News h₀ L h (x :: news)) : News h₀ L h news := fun p hp => N p (List.mem_cons_of_mem _ hp)
noncomputable abbrev realD (P : Params) (n e : Int) (a b t u : Tok) : Obj := dictOf [{ hash := PyData.keyHash P (Str.ofString "mantissa"), key := Value.str (Str.ofString "mantissa") a, val := Value.int n t }, { hash := PyData.keyHash P (Str.ofString "exponent"), key := Value.str (Str.ofString "exponent") b, val := Value.int e u }] 2
noncomputable abbrev ratioD (P : Params) (n e : Int) (a b t u : Tok) : Obj := dictOf [{ hash := PyData.keyHash P (Str.ofString "top"), key := Value.str (Str.ofString "top") a, val := Value.int n t }, { hash := PyData.keyHash P (Str.ofString "bottom"), key := Value.str (Str.ofString "bottom") b, val := Value.int e u }] 2
/-- hands back a new Real with mantissa n, exponent e -/
abbrev RetReal (n e : Int) : Ret := fun w h₀ L m news s Q _ => ∀ (x d : Addr) (a b t u : Tok) (h' : Heap) (tk' : Nat), Fr h₀ L h' m → News h₀ L h' ((x, instObj 89 d) :: (d, realD w.params n e a b t u) :: news) → Q (.ref x) { s with heap := h', toks := tk' }
abbrev RetRatio (n e : Int) : Ret := fun w h₀ L m news s Q _ => ∀ (x d : Addr) (a b t u : Tok) (h' : Heap) (tk' : Nat), Fr h₀ L h' m → News h₀ L h' ((x, instObj 180 d) :: (d, ratioD w.params n e a b t u) :: news) → Q (.ref x) { s with heap := h', toks := tk' }
theorem ret_real {w : World} {h₀ h' : Heap} {L x d : Addr} {m : Str → Option Value} {news : List (Addr × Obj)} {s : Shared} {Q : Value → Shared → Prop} {a b t u : Tok} {tk' : Nat} {n e n' e' : Int}
    (hret : ∀ (x d : Addr) (a b t u : Tok) (h' : Heap) (tk' : Nat), Fr h₀ L h' m → News h₀ L h' ((x, instObj 89 d) :: (d, realD w.params n e a b t u) :: news) → Q (.ref x) { s with heap := h', toks := tk' })
    (q : n' = n ∧ e' = e) (F : Fr h₀ L h' m) (N : News h₀ L h' ((x, instObj 89 d) :: (d, realD w.params n' e' a b t u) :: news)) : Q (.ref x) { s with heap := h', toks := tk' } := by
  obtain ⟨rfl, rfl⟩ := q
  exact hret x d a b t u h' tk' F N
theorem ret_ratio {w : World} {h₀ h' : Heap} {L x d : Addr} {m : Str → Option Value} {news : List (Addr × Obj)} {s : Shared} {Q : Value → Shared → Prop} {a b t u : Tok} {tk' : Nat} {n e n' e' : Int}
    (hret : ∀ (x d : Addr) (a b t u : Tok) (h' : Heap) (tk' : Nat), Fr h₀ L h' m → News h₀ L h' ((x, instObj 180 d) :: (d, ratioD w.params n e a b t u) :: news) → Q (.ref x) { s with heap := h', toks := tk' })
    (q : n' = n ∧ e' = e) (F : Fr h₀ L h' m) (N : News h₀ L h' ((x, instObj 180 d) :: (d, ratioD w.params n' e' a b t u) :: news)) : Q (.ref x) { s with heap := h', toks := tk' } := by
  obtain ⟨rfl, rfl⟩ := q
  exact hret x d a b t u h' tk' F N
/-- forget what lies between -/
theorem nmid {h₀ h : Heap} {L : Addr} {l₁ l₂ l₃ : List (Addr × Obj)} (N : News h₀ L h (l₁ ++ (l₂ ++ l₃))) : News h₀ L h (l₁ ++ l₃) := fun p hp => N p (by
  rcases List.mem_append.mp hp with q | q
  · exact List.mem_append.mpr (.inl q)
  · exact List.mem_append.mpr (.inr (List.mem_append.mpr (.inr q))))
theorem nm1 {h₀ h : Heap} {L : Addr} {x d a : Addr × Obj} {l : List (Addr × Obj)} (N : News h₀ L h (x :: d :: a :: l)) : News h₀ L h (x :: d :: l) := nmid (l₁ := [x, d]) (l₂ := [a]) N
theorem nm2 {h₀ h : Heap} {L : Addr} {x d a b : Addr × Obj} {l : List (Addr × Obj)} (N : News h₀ L h (x :: d :: a :: b :: l)) : News h₀ L h (x :: d :: l) := nm1 (nm1 N)
theorem nm3 {h₀ h : Heap} {L : Addr} {x d a b c : Addr × Obj} {l : List (Addr × Obj)} (N : News h₀ L h (x :: d :: a :: b :: c :: l)) : News h₀ L h (x :: d :: l) := nm1 (nm2 N)
theorem nm4 {h₀ h : Heap} {L : Addr} {x d a b c e : Addr × Obj} {l : List (Addr × Obj)} (N : News h₀ L h (x :: d :: a :: b :: c :: e :: l)) : News h₀ L h (x :: d :: l) := nm1 (nm3 N)
theorem ns1 {h₀ h : Heap} {L : Addr} {x a : Addr × Obj} {l : List (Addr × Obj)} (N : News h₀ L h (x :: a :: l)) : News h₀ L h (x :: l) := nmid (l₁ := [x]) (l₂ := [a]) N
theorem ns2 {h₀ h : Heap} {L : Addr} {x a b : Addr × Obj} {l : List (Addr × Obj)} (N : News h₀ L h (x :: a :: b :: l)) : News h₀ L h (x :: l) := ns1 (ns1 N)
theorem ns3 {h₀ h : Heap} {L : Addr} {x a b c : Addr × Obj} {l : List (Addr × Obj)} (N : News h₀ L h (x :: a :: b :: c :: l)) : News h₀ L h (x :: l) := ns1 (ns2 N)
theorem ns4 {h₀ h : Heap} {L : Addr} {x a b c d : Addr × Obj} {l : List (Addr × Obj)} (N : News h₀ L h (x :: a :: b :: c :: d :: l)) : News h₀ L h (x :: l) := ns1 (ns3 N)
theorem nsub {h₀ h : Heap} {L : Addr} {l l' : List (Addr × Obj)} (N : News h₀ L h l) (k : ∀ p, p ∈ l' → p ∈ l) : News h₀ L h l' := fun p hp => N p (k p hp)
abbrev RetNone : Ret := fun _ h₀ L m news s Q _ => ∀ (h' : Heap) (tk' : Nat), Fr h₀ L h' m → News h₀ L h' news → Q .none { s with heap := h', toks := tk' }
/-- made(t, b) -/
abbrev RetMade (t b : Int) : Ret := fun w h₀ L m news s Q E => (b = 1 → RetI t w h₀ L m news s Q E) ∧ (b ≠ 1 → RetRatio t b w h₀ L m news s Q E)
/-- the ledger bears the Ratio t / b at x -/
abbrev IsRatio (w : World) (news : List (Addr × Obj)) (x : Addr) (t b : Int) : Prop := ∃ d a b' u v, (x, instObj 180 d) ∈ news ∧ (d, ratioD w.params t b a b' u v) ∈ news
abbrev IsReal (w : World) (news : List (Addr × Obj)) (x : Addr) (n e : Int) : Prop := ∃ d a b' u v, (x, instObj 89 d) ∈ news ∧ (d, realD w.params n e a b' u v) ∈ news
abbrev RetB (x : Bool) : Ret := fun _ h₀ L m news s Q _ => ∀ (h' : Heap) (tk' : Nat), Fr h₀ L h' m → News h₀ L h' news → Q (.bool x) { s with heap := h', toks := tk' }
section
variable {h₀ h' : Heap} {L : Addr} {m : Str → Option Value} {news : List (Addr × Obj)} {s : Shared} {Q : Value → Shared → Prop} {tk' : Nat}
theorem ret_b {x y : Bool} (hret : ∀ (h' : Heap) (tk' : Nat), Fr h₀ L h' m → News h₀ L h' news → Q (.bool x) { s with heap := h', toks := tk' }) (e : y = x) (F : Fr h₀ L h' m) (N : News h₀ L h' news) : Q (.bool y) { s with heap := h', toks := tk' } := by
  subst e
  exact hret h' tk' F N
theorem ret_none (hret : ∀ (h' : Heap) (tk' : Nat), Fr h₀ L h' m → News h₀ L h' news → Q .none { s with heap := h', toks := tk' }) (_e : True) (F : Fr h₀ L h' m) (N : News h₀ L h' news) : Q .none { s with heap := h', toks := tk' } := hret h' tk' F N
end
section
variable {prog : Program} {w : World} {A : Around} {E : Value → Shared → Prop} {s : Shared} {a b : Int} {t u : Tok} {Q : Value → Shared → Prop}
theorem fd_mine (hb : 0 < b ∧ b < 2 ^ 62) (h : Q (.int (a.fdiv b) s.toks) { s with toks := s.toks + 1 }) : wpAny (model prog w) A (binaryOp .FloorDiv (.int a t) (.int b u)) Q E s := by
  refine floordiv_int (by omega) h (Or.inl (PyProof.noPylong_of_log2 ?_))
  have h0 : b.natAbs ≠ 0 := by omega
  have : b.natAbs.log2 < 62 := (Nat.log2_lt h0).mpr (by omega)
  omega
theorem md_mine (hb : 0 < b ∧ b < 2 ^ 62) (h : Q (.int (a.fmod b) s.toks) { s with toks := s.toks + 1 }) : wpAny (model prog w) A (binaryOp .Mod (.int a t) (.int b u)) Q E s := mod_int' (by omega) h
theorem ml_mine (ha : -(2 ^ 64) < a ∧ a < 2 ^ 64) (h : Q (.int (a * b) s.toks) { s with toks := s.toks + 1 }) : wpAny (model prog w) A (binaryOp .Mult (.int a t) (.int b u)) Q E s :=
  PyProof.Rows.mul_int h (IntMulOk.of_left (intBits_le_64 ha.1 ha.2))
theorem mr_mine (hb : -(2 ^ 64) < b ∧ b < 2 ^ 64) (h : Q (.int (a * b) s.toks) { s with toks := s.toks + 1 }) : wpAny (model prog w) A (binaryOp .Mult (.int a t) (.int b u)) Q E s :=
  PyProof.Rows.mul_int h (IntMulOk.of_right (intBits_le_64 hb.1 hb.2))
theorem sl_mine (hb : 0 ≤ b ∧ b ≤ 1000000) (ha : -(2 ^ 62) < a ∧ a < 2 ^ 62) (h : Q (.int (a * 2 ^ b.toNat) s.toks) { s with toks := s.toks + 1 }) : wpAny (model prog w) A (binaryOp .LShift (.int a t) (.int b u)) Q E s :=
  lshift_int_small hb.1 hb.2 (by omega) h
theorem sr_mine (hb : 0 ≤ b) (h : Q (.int (a.fdiv (2 ^ b.toNat)) s.toks) { s with toks := s.toks + 1 }) : wpAny (model prog w) A (binaryOp .RShift (.int a t) (.int b u)) Q E s := rshift_int hb h
theorem pw_mine (hb : 0 ≤ b ∧ b ≤ 1000000) (ha : -(2 ^ 62) < a ∧ a < 2 ^ 62) (h : Q (.int (a ^ b.toNat) s.toks) { s with toks := s.toks + 1 }) : wpAny (model prog w) A (binaryOp .Pow (.int a t) (.int b u)) Q E s :=
  pow_int_small hb.1 hb.2 (by omega) h
end
theorem gen_tok {α : Type} {M : Model} {A : Around} {c : Sem α} {Q : α → Shared → Prop} {E : Value → Shared → Prop} {h : Heap} {g : Array GenState} {d : Drawn} {os : OsState} {X : Nat} (k : ∀ tk, wpAny M A c Q E ⟨h, g, d, tk, os⟩) : wpAny M A c Q E ⟨h, g, d, X, os⟩ := k X
end
section -- XF
open PySem PySem.W PySem.W.X PyProof.Rows PySem.Calls PySem.Spec
set_option maxRecDepth 100000
set_option maxHeartbeats 8000000
section
variable {prog : Program} {w : World} {A : Around} {E : Value → Shared → Prop} {hh : Heap} {g : Array GenState} {d : Drawn} {t : Nat} {os : OsState} {K : Frag} {x C : Addr} {ox : Obj} {od : Option Obj} {name : Str} {expr : Bool} {Q : Value → Shared → Prop}
/-- an attribute of an exception's own dict -/
theorem exc_get {v : Value} (X : K.In hh) (I : InstAt hh x ox C od) (hga : findIn K (.ref C) "__getattribute__" = some (some (.builtin "BaseException.__getattribute__"))) (hka : findIn K (.ref C) "__getattr__" = some none)
    (hm : mroIn K C (.type "BaseException") = some true) (hf : findObj K C od name = some (.value v)) (hv : handedIn v = true) (h : Q v ⟨hh, g, d, t + 1, os⟩) : wpAny (model prog w) A (getAttr (.ref x) name expr) Q E ⟨hh, g, d, t, os⟩ := by
  have L0 := I.type (M := model prog w)
  have L1 := looks_findIn (M := model prog w) X hga
  have L2 := looks_findIn (M := model prog w) X hka
  have L3 := looks_find (M := model prog w) X I hf
  have L4 := looks_mroIn (M := model prog w) X hm
  have FB := PySem.F.attrBase_Exception
  have f3 := FB.ga.bind (.ref x)
  have hx0 : (expr && onTheHeap (Value.builtin "BaseException.__getattribute__")) = false := by cases expr <;> rfl
  have hx2 : (Value.builtin "BaseException.__getattribute__" == Value.builtin "object.__getattribute__") = false := by decide +kernel
  have hx1 : (onTheHeap (Value.ref C) && Value.builtin "BaseException.__getattribute__" == Value.builtin "object.__getattribute__") = false := by rw [hx2]; rfl
  unfold getAttr getAttrBy
  refine wpAny_bind (wpAny_mkText (wpAny_holding (wpAny_bind (L0.at (wpAny_bind (L1.at ?_))))))
  dsimp only
  rw [hx1, if_neg (by decide)]
  unfold getAttrByItsOwn callGetattribute
  rw [hx0, if_neg (by decide)]
  show wpAny _ _ (typeLookup (.ref C) "__getattr__" >>= fun before => _) _ _ _
  refine wpAny_bind (L2.at (wpAny_bind (wpAny_attempt (wpAny_holding ?_))))
  unfold boundAndCalled
  rw [f3]
  refine wpAny_bind (wpAny_pure (wpAny_call ?_))
  show codeAny _ _ (.call (.builtin "BaseException.__getattribute__") ⟨[.ref x, .str name t], []⟩) _ _
  refine codeAny_call_builtin FB.ga.plain F.entry_bexc_ga (wpAny_mono (Q := fun _ s' => s' = ⟨hh, g, d, t + 1, os⟩) (E := fun _ _ => False) ?check (fun _ s' e => ?_) (fun _ _ z => z.elim))
  case check =>
    have hk : builtinKind "BaseException.__getattribute__" = some .slot := by decide +kernel
    have hsplit : splitId "BaseException.__getattribute__" = some ("BaseException", "__getattribute__") := by decide +kernel
    have ha := F.args_bexc_ga (.ref x) (.str name t)
    simp only [checkBuiltinCall, hk, hsplit]
    refine wpAny_bind ?_
    unfold isInstance
    refine wpAny_bind (L0.at (L4.at ?_))
    rw [if_neg (by decide)]
    first
      | (repeat (first | assumption | wp_step)
         done)
      | (repeat (first | assumption | wp_step)
         rfl)
      | (unfold argsOk at ha; rw [ha]; exact wpAny_pure rfl)
  subst e
  unfold Builtin.«object.__getattribute__»
  refine wpAny_bind (wpAny_pure (wpAny_bind (wpAny_pure (wpAny_bind (L0.at (wpAny_bind (L3.at ?_)))))))
  refine wpAny_pure ?_
  show wpAny _ _ (handedOut v) _ _ _
  rw [handedOut_of hv]
  exact wpAny_pure h
end
noncomputable abbrev excObj (t dd : Addr) : Obj := { cls := .ref 70, dict := some dd, data := .fields #[.ref t, .none, .none, .none, .bool false, .none] }
noncomputable abbrev excD (l : Addr) (x y z : Int) (a b c u v : Tok) : Obj := dictOf [{ hash := x, key := .str (Str.ofString "word") a, val := .str (Str.ofString "OutOfDomain") u }, { hash := y, key := .str (Str.ofString "irritants") b, val := .ref l }, { hash := z, key := .str (Str.ofString "name") c, val := .str (Str.ofString "law") v }] 3
noncomputable abbrev lawObj (v : Tok) : Obj := { cls := .type "list", data := .seq #[.str (Str.ofString "law") v] }
theorem get_irr (w : World) (h : Heap) (g : Array GenState) (d : Drawn) (t : Nat) (os : OsState) (A : Around) (e dd l : Addr) (oe : Obj) (vs : Array Value) (x y z : Int) (a b c u v : Tok) (Q E : Value → Shared → Prop)
   (he : h.get? e = some oe) (hc : oe.cls = .ref 70) (hdi : oe.dict = some dd) (hv : oe.data = .fields vs) (hdd : h.get? dd = some (excD l x y z a b c u v)) (hq : Q (.ref l) ⟨h, g, d, t + 1, os⟩) :
   (hd.heap_1 w.params).In h → wpAny (model PySem.Challenge.rw_nt0166_01.row.prog w) A (getAttr (.ref e) (Str.ofString "irritants") true) Q E ⟨h, g, d, t, os⟩ := by
  k_fill
  intro X
  have I : W.InstAt h e oe 70 (some (excD l x y z a b c u v)) := ⟨he, hc, by unfold notCls; rw [hv], by rw [hdi]; exact hdd⟩
  refine exc_get X I ?k4 ?k5 ?k6 ?k7 ?k8 hq
  case k4 => k_is
  case k5 => k_is
  case k6 => k_is
  case k8 => k_handed
  case k7 =>
    refine findObj_own (attr := none) ?a ?b ?c ?d
    case a => k_is
    case b => k_is
    case c => k_is
    case d => first | rfl | kernel_rfl
end
section -- XE
open PySem PySem.W PySem.W.X PyProof.Rows PySem.Calls PySem.Spec
set_option maxRecDepth 100000
set_option maxHeartbeats 8000000
def RetExc (w : World) (h : Heap) (g : Array GenState) (d : Drawn) (os : OsState) (Q : Value → Shared → Prop) : Prop :=
  ∀ (e t dd l : Addr) (x y z : Int) (a b c u v : Tok) (h' : Heap) (tk' : Nat), (∀ b o, h.get? b = some o → h'.get? b = some o) → h'.get? e = some (excObj t dd) → h'.get? dd = some (excD l x y z a b c u v) → h'.get? l = some (lawObj v) →
    h.get? e = none → h.get? t = none → h.get? dd = none → h.get? l = none → Q (.ref e) ⟨h', g, d, tk', os⟩
theorem mem_keep {h₀ h : Heap} {news : List (Addr × Obj)} (D : Mem h₀ h [] news) : ∀ b o, h₀.get? b = some o → h.get? b = some o := fun b o e => D.keep b o e (by rw [Bool.or_eq_true_iff]; exact .inr rfl)
noncomputable def keyTok (o : Obj) (i : Nat) : Tok := match o.data with
  | .dict es _ => match es.toList[i]? with
    | some e => (match e.key with | .str _ t => t | _ => 0)
    | none => 0
  | _ => 0
noncomputable def valTok (o : Obj) (i : Nat) : Tok := match o.data with
  | .dict es _ => match es.toList[i]? with
    | some e => (match e.val with | .str _ t => t | _ => 0)
    | none => 0
  | _ => 0
noncomputable def hashAt (o : Obj) (i : Nat) : Int := match o.data with
  | .dict es _ => match es.toList[i]? with
    | some e => e.hash
    | none => 0
  | _ => 0
noncomputable def seqTok (o : Obj) : Tok := match o.data with
  | .seq vs _ => (match vs.toList with | [.str _ t] => t | _ => 0)
  | _ => 0
theorem exc_end {w : World} {h : Heap} {g : Array GenState} {d : Drawn} {os : OsState} {Q : Value → Shared → Prop} (hq : RetExc w h g d os Q) {h' : Heap} {f1 f2 e dd l t : Addr} {od oe ol o1 o2 ot : Obj} {tk' : Nat}
    (D : Mem h h' [] [(dd, od), (f1, o1), (l, ol), (f2, o2), (e, oe), (t, ot)]) (h1 : od = excD l (hashAt od 0) (hashAt od 1) (hashAt od 2) (keyTok od 0) (keyTok od 1) (keyTok od 2) (valTok od 0) (seqTok ol)) (h2 : ol = lawObj (seqTok ol)) (h3 : oe = excObj t dd) : Q (.ref e) ⟨h', g, d, tk', os⟩ := by
  have b1 := (D.nw (dd, od) (.head _))
  have b2 := (D.nw (l, ol) (.tail _ (.tail _ (.head _))))
  have b3 := (D.nw (e, oe) (.tail _ (.tail _ (.tail _ (.tail _ (.head _))))))
  have b4 := (D.nw (t, ot) (.tail _ (.tail _ (.tail _ (.tail _ (.tail _ (.head _)))))))
  generalize keyTok od 0 = a at h1
  generalize keyTok od 1 = b at h1
  generalize keyTok od 2 = c at h1
  generalize valTok od 0 = u at h1
  generalize seqTok ol = v at h1 h2
  generalize hashAt od 0 = x at h1
  generalize hashAt od 1 = y at h1
  generalize hashAt od 2 = z at h1
  subst h1 h2 h3
  exact hq _ _ _ _ _ _ _ _ _ _ _ _ _ _ (mem_keep D) b3.1 b1.1 b2.1 b3.2 b4.2 b1.2 b2.2
local macro_rules | `(tactic| x_close) => `(tactic| (rename RetExc _ _ _ _ _ _ => hq; refine exc_end hq (by assumption) ?_ ?_ ?_; trace "A"; kernel_rfl; trace "B"; kernel_rfl; trace "C"; kernel_rfl))
theorem mk_exc (w : World) (prog : Program) (h : Heap) (g : Array GenState) (d : Drawn) (t : Nat) (os : OsState) (X : (hd.heap_1 w.params).In h) (e0 e1 e2 : Env) (v : Tok) (Q E : Value → Shared → Prop) (hq : RetExc w h g d os Q) (hprog : PySem.Challenge.rw_nt0166_01.row.prog = prog) :
   wpAny (model prog w) (((callerA.deeper e0).deeper e1).deeper e2) (call (.ref 70) [.str (Str.ofString "law") v]) Q E ⟨h, g, d, t, os⟩ := by
  revert hprog
  k_fill
  intro hprog
  clear hprog
  x_run
end
section -- XG
open PySem PySem.W PyProof.Rows PySem.Calls PySem.Spec
set_option maxRecDepth 100000
set_option maxHeartbeats 8000000
/-- the exception e of class 70 whose own dict is dd, in flight; its newest entry's mark is fl -/
def TX (h base : Heap) (e dd : Addr) (fl : Value) : Prop :=
  ∃ oe vs T oT ts, h.get? e = some oe ∧ (oe.cls = .ref 70 ∧ oe.dict = some dd) ∧ oe.data = .fields vs ∧ vs[1]? = some (.ref T) ∧ base.get? T = none ∧ T ≠ e ∧ h.get? T = some oT ∧ oT.data = .fields ts ∧ ts[3]? = some fl
/-- what a turn of the flight leaves -/
def NX (base : Heap) (l : List Env) (e dd : Addr) (fl : Value) (h h' : Heap) : Prop := base.StaysIn h' ∧ h'.FunFrames base l ∧ TX h' base e dd fl ∧ h.UpToSlots h'
section
variable {M : Model} {A : Around} {E : Value → Shared → Prop} {s : Shared} {base : Heap} {env : Env} {outer : List Env} {L e dd : Addr} {Q : Unit → Shared → Prop}
theorem dict_map (o : Obj) (f : Array Value → Array Value) : (Obj.mapFields f o).dict = o.dict := by
  unfold Obj.mapFields
  split <;> rfl
theorem x_entry {oe : Obj} {vs : Array Value} {head : Value} {had : Bool} (hfr : A.frames = some (env :: outer)) (hl : s.heap.FunFrames base (env :: outer)) (hf : env.frame = some L)
    (he : s.heap.get? e = some oe) (hkb : base.StaysIn s.heap) (hen : base.get? e = none) (hd : oe.data = .fields vs) (hsz : 1 < vs.size) (hc : oe.cls = .ref 70 ∧ oe.dict = some dd)
    (h : ∀ h', NX base (env :: outer) e dd (rawInt L) s.heap h' → Q () { s with heap := h' }) :
    wpAny M A (do let a ← frameOf env; let pl ← entryPlaceOf L had; let b ← EntryCells.newEntry head a .none (rawInt L) .none pl; setField (.ref e) 1 b) Q E s := by
  have notFrame : e ∉ (env :: outer).filterMap (·.frame) := fun m => by
    obtain ⟨_, o, ho, hn⟩ := hl.mem m
    rw [he] at ho
    cases ho
    exact hn vs hd
  refine wpAny_bind (wpAny_frameOf_fun hfr hl hf fun h₁ k => ?_)
  refine wpAny_bind (wpAny_entryPlaceOf fun pl hpl => ?_)
  unfold EntryCells.newEntry newFields
  refine wpAny_bind (wpAny_newObj_type ?_ (hpl.sizeOk5 _ _ _ _ _))
  have a1 : h₁.get? e = some oe := (k.2.1 e notFrame).trans he
  have kb : base.StaysIn h₁ := fun b o q => (k.2.1 b fun m => by rw [(hl.mem m).1] at q; cases q).trans (hkb b o q)
  refine wpAny_setField (Heap.get?_push_of_some (h := h₁) _ a1) hd hsz (h _ ?_)
  generalize hob : (Obj.mk (.type "traceback") none (.fields ([head, .ref L, .none, rawInt L, .none] ++ (if pl.isEmpty then List.replicate 6 Value.none else pl)).toArray) #[]) = ob
  have hT : h₁.objs.size ≠ e := Nat.ne_of_gt (Heap.lt_size a1)
  have c1 := Obj.data_mapFields hd (·.setIfInBounds 1 (Value.ref h₁.objs.size))
  have c2 := Heap.get?_update_self (Obj.mapFields (·.setIfInBounds 1 (Value.ref h₁.objs.size))) (Heap.get?_push_of_some (h := h₁) ob a1) (Obj.isFreed_of_fields c1)
  have c3 := (Heap.get?_update_other (h₁.push ob) (Obj.mapFields (·.setIfInBounds 1 (Value.ref h₁.objs.size))) (Ne.symm hT)).trans (Heap.get?_push_size h₁ (by rw [← hob]; rfl))
  have keep : ∀ b o, b ≠ e → h₁.get? b = some o → ((h₁.push ob).update e (Obj.mapFields (·.setIfInBounds 1 (Value.ref h₁.objs.size)))).get? b = some o := fun b o n q => by
    rw [Heap.get?_update_other _ _ (Ne.symm n)]
    exact Heap.get?_push_of_some _ q
  have plain : ∀ b o, s.heap.get? b = some o → (∀ vs, o.data ≠ .fields vs) → b ≠ e := fun b o q n z => by
    rw [z, he] at q
    cases q
    exact n vs hd
  have up : s.heap.UpToSlots ((h₁.push ob).update e (Obj.mapFields (·.setIfInBounds 1 (Value.ref h₁.objs.size)))) := fun b o q n => by
    obtain ⟨sl, z⟩ := k.2.2 b o q
    exact ⟨sl, keep b _ (plain b o q n) z⟩
  refine ⟨fun b o q => keep b o (fun z => by rw [z, hen] at q; cases q) (kb b o q), hl.of_keeps fun b o q n => ?_, ?_, up⟩
  · obtain ⟨sl, z⟩ := up b o q n
    exact ⟨_, z, rfl⟩
  · refine ⟨_, _, h₁.objs.size, ob, _, c2, ⟨(Obj.cls_mapFields _ _).trans hc.1, (dict_map _ _).trans hc.2⟩, c1, by simp [hsz], kb.fresh, hT, c3, by rw [← hob], ?_⟩
    rcases hpl with rfl | ⟨_, _, _, _, _, _, _, rfl⟩ <;> simp
theorem x_flight {l : List Env} {fl : Value} (hkb : base.StaysIn s.heap) (hl : s.heap.FunFrames base l) (ht : TX s.heap base e dd fl)
    (h : ∀ h', NX base l e dd .none s.heap h' → Q () { s with heap := h' }) : wpAny M A (setFlight (.ref e) none) Q E s := by
  obtain ⟨oe, vs, T, oT, ts, he, hc, hd, h1, hn, hne, hT, hdT, h3⟩ := ht
  have z3 : 3 < ts.size := (Array.getElem?_eq_some_iff.mp h3).1
  have other : ∀ b, b ≠ T → (s.heap.update T (Obj.mapFields (·.setIfInBounds 3 ((none : Option Addr).elim Value.none fun f => rawInt f)))).get? b = s.heap.get? b := fun b n => Heap.get?_update_other _ _ (Ne.symm n)
  have plain : ∀ b o, s.heap.get? b = some o → (∀ vs, o.data ≠ .fields vs) → b ≠ T := fun b o q n z => by
    rw [z, hT] at q
    cases q
    exact n ts hdT
  unfold setFlight
  refine wpAny_bind (wpAny_field he hd h1 ?_)
  rw [if_pos (show (Value.ref T != Value.none) = true from by simp)]
  refine wpAny_setField hT hdT z3 (h _ ⟨fun b o q => (other b fun z => by rw [z, hn] at q; cases q).trans (hkb b o q), hl.of_keeps fun b o q n => ⟨o, (other b (plain b o q n)).trans q, rfl⟩, ?_, fun b o q n => ⟨o.slots, (other b (plain b o q n)).trans q⟩⟩)
  exact ⟨oe, vs, T, _, _, (other e (Ne.symm hne)).trans he, hc, hd, h1, hn, hne, Heap.get?_update_self _ hT (Obj.isFreed_of_fields (Obj.data_mapFields hdT _)), Obj.data_mapFields hdT _, by simp [z3]⟩
theorem x_note (hfr : A.frames = some (env :: outer)) (hl : s.heap.FunFrames base (env :: outer)) (hf : env.frame = some L) (ht : TX s.heap base e dd .none) (hkb : base.StaysIn s.heap) (hen : base.get? e = none)
    (h : ∀ h', NX base (env :: outer) e dd (rawInt L) s.heap h' → Q () { s with heap := h' }) : wpAny M A (noteFrame (.ref e) env) Q E s := by
  obtain ⟨oe, vs, T, oT, ts, he, hc, hd, h1, hn, hne, hT, hdT, h3⟩ := ht
  have other : ∀ b, b ≠ T → (s.heap.update T (Obj.mapFields (·.setIfInBounds 3 Value.none))).get? b = s.heap.get? b := fun b n => Heap.get?_update_other _ _ (Ne.symm n)
  have plain : ∀ b o, s.heap.get? b = some o → (∀ vs, o.data ≠ .fields vs) → b ≠ T := fun b o q n z => by
    rw [z, hT] at q
    cases q
    exact n ts hdT
  unfold noteFrame
  simp only [hf]
  refine wpAny_bind (wpAny_field he hd h1 ?_)
  rw [if_pos (show (Value.ref T != Value.none) = true from by simp)]
  refine wpAny_bind (wpAny_field hT hdT h3 ?_)
  rw [if_neg (show ¬ ((Value.none == rawInt L) = true) from by simp [rawInt])]
  refine wpAny_bind (wpAny_setField hT hdT (Array.getElem?_eq_some_iff.mp h3).1 ?_)
  refine x_entry hfr (hl.of_keeps fun b o q n => ⟨o, (other b (plain b o q n)).trans q, rfl⟩) hf ((other e (Ne.symm hne)).trans he) (fun b o q => (other b fun z => by rw [z, hn] at q; cases q).trans (hkb b o q)) hen hd (Array.getElem?_eq_some_iff.mp h1).1 hc ?_
  intro h' ⟨k1, k2, k3, k4⟩
  exact h h' ⟨k1, k2, k3, fun b o q n => k4 b o ((other b (plain b o q n)).trans q) n⟩
/-- the first frame that the exception leaves -/
theorem x_leave {oe : Obj} {vs : Array Value} (hfr : A.frames = some (env :: outer)) (hl : s.heap.FunFrames base (env :: outer)) (hf : env.frame = some L) (he : s.heap.get? e = some oe) (hkb : base.StaysIn s.heap) (hen : base.get? e = none)
    (hd : oe.data = .fields vs) (h1 : vs[1]? = some .none) (hc : oe.cls = .ref 70 ∧ oe.dict = some dd)
    (h : ∀ h', NX base outer e dd .none s.heap h' → Q () { s with heap := h' }) : wpAny M A (leaving env (.ref e)) Q E s := by
  unfold leaving noteFrame
  simp only [hf]
  refine wpAny_bind (wpAny_bind (wpAny_field he hd h1 ?_))
  rw [if_neg (by decide)]
  refine x_entry hfr hl hf he hkb hen hd (Array.getElem?_eq_some_iff.mp h1).1 hc fun h₁ ⟨k1, k2, k3, k4⟩ => ?_
  refine x_flight k1 k2 k3 fun h₂ ⟨j1, j2, j3, j4⟩ => ?_
  exact h h₂ ⟨j1, j2.2.2, j3, k4.trans j4⟩
end
/-- an exception in flight that left a callee of this frame; news: objects that the flight does not touch -/
def RX (base G : Heap) (l : List Env) (e dd : Addr) (news : List (Addr × Obj)) (h : Heap) : Prop :=
  ∃ B, base.StaysIn B ∧ (∀ b o, G.get? b = some o → b ∉ l.filterMap (·.frame) → B.get? b = some o) ∧ (∀ q ∈ news, B.get? q.1 = some q.2 ∧ G.get? q.1 = none ∧ base.get? q.1 = none) ∧ B.StaysIn h ∧ B.get? e = none ∧ h.FunFrames B l ∧ TX h B e dd .none
section
variable {M : Model} {A : Around} {E : Value → Shared → Prop} {s' : Shared} {base g h : Heap} {outer : List Env} {L a e dd t : Addr} {m : Str → Option Value} {name : Str} {scope : Scope} {cd : Value} {Q : Unit → Shared → Prop} {news more : List (Addr × Obj)}
theorem rx_leave (K : Below A base outer g) (keep : ∀ b o, h.get? b = some o → s'.heap.get? b = some o) (he : s'.heap.get? e = some (excObj t dd)) (hne : h.get? e = none) (hm : ∀ q ∈ more, s'.heap.get? q.1 = some q.2 ∧ h.get? q.1 = none ∧ q.1 ≠ e)
    (F : Fr g L h m) (N : News g L h news) (hQ : ∀ h', RX base g outer e dd (more ++ news) h' → g.UpToSlots h' → Q () { s' with heap := h' }) (hk : scope.kind = .function := by rfl) :
    wpAny M (A.deeper (envOf name scope L a cd)) (leaving (envOf name scope L a cd) (.ref e)) Q E s' := by
  have K' := K.push (name := name) (a := a) (cd := cd) F hk
  have hfs : ∀ b ∈ (envOf name scope L a cd :: outer).filterMap (·.frame), base.get? b = none ∧ ∃ o, h.get? b = some o := fun b hb => ⟨(K'.frames.mem hb).1, (K'.frames.mem hb).2.imp fun _ z => z.1⟩
  have ne_e : ∀ b o, h.get? b = some o → b ≠ e := fun b o q z => by rw [z, hne] at q; cases q
  have st : base.StaysIn (hideAll s'.heap (e :: (envOf name scope L a cd :: outer).filterMap (·.frame))) := fun b o q => hideAll_get _ (keep _ _ (K'.stays b o q)) fun z => by
    rcases List.mem_cons.mp z with z | z
    · exact ne_e b o (K'.stays b o q) z
    · rw [(hfs b z).1] at q
      cases q
  have sg : ∀ b o, g.get? b = some o → b ∉ outer.filterMap (·.frame) → (hideAll s'.heap (e :: (envOf name scope L a cd :: outer).filterMap (·.frame))).get? b = some o := fun b o q nm => hideAll_get _ (keep _ _ (F.keep b o q)) fun z => by
    rcases List.mem_cons.mp z with z | z
    · exact ne_e b o (F.keep b o q) z
    rcases kts_mem z with z | z
    · rw [z, kts_self F] at q
      cases q
    · exact nm z
  have hl : ∀ q ∈ more ++ news, (hideAll s'.heap (e :: (envOf name scope L a cd :: outer).filterMap (·.frame))).get? q.1 = some q.2 ∧ g.get? q.1 = none ∧ base.get? q.1 = none := fun q hq => by
    rcases List.mem_append.mp hq with hq | hq
    · obtain ⟨q1, q2, q3⟩ := hm q hq
      refine ⟨hideAll_get _ q1 fun z => ?_, kts_none F.keep q2, fresh_of_stays K'.stays q2⟩
      rcases List.mem_cons.mp z with z | z
      · exact q3 z
      · obtain ⟨_, o, ho⟩ := hfs _ z
        rw [q2] at ho
        cases ho
    · obtain ⟨q1, q2, q3⟩ := N q hq
      refine ⟨hideAll_get _ (keep _ _ q1) fun z => ?_, q3, fresh_of_stays K.stays q3⟩
      rcases List.mem_cons.mp z with z | z
      · exact ne_e _ _ q1 z
      rcases kts_mem z with z | z
      · exact q2 z
      · obtain ⟨_, o, ho, _⟩ := K.frames.mem z
        rw [q3] at ho
        cases ho
  refine x_leave K'.stack (funFrames_hide (K'.frames.of_keeps fun b o q _ => ⟨o, keep b o q, rfl⟩) fun env he b hb => .tail _ (List.mem_filterMap.mpr ⟨env, he, hb⟩)) rfl he (fun b o q => of_hideAll _ q) (hideAll_none _ (.head _)) rfl rfl ⟨rfl, rfl⟩ ?_
  intro h' ⟨k1, k2, k3, k4⟩
  exact hQ h' ⟨_, st, sg, hl, k1, hideAll_none _ (.head _), k2, k3⟩ (((Heap.UpToSlots.of_keeps F.keep).trans (Heap.UpToSlots.of_keeps keep)).trans k4)
end
section
variable {prog : Program} {w : World} {A₀ : Around} {E : Value → Shared → Prop} {s' : Shared} {base g g₀ G : Heap} {outer : List Env} {L a e dd : Addr} {m : Str → Option Value} {name : Str} {scope : Scope} {cd : Value}
  {n : Str} {b₀ : Stmt} {suite : List Stmt} {pos np : Pos} {rest : List ExceptHandler} {Q : Flow → Shared → Prop} {news : List (Addr × Obj)} {KF : Frag}
  {p : Program} {loose : List Str} {mean : ExcName → Option Value} {mg mb : Str → Option Value} {x : Str}
theorem rx_caught (R : RX base G (envOf name scope L a cd :: outer) e dd news s'.heap) (F : Fr g L G m) (K : Below A₀ base outer g) (hsm : G.UpToSlots s'.heap) (XB : KF.In base) (TB : Top p loose mean mg mb base)
    (D : KtsDicts (outer.filterMap (·.frame)) g) (T0 : KtsTurn (outer.filterMap (·.frame)) g₀ g) (ex : nsIn KF mainGlobals x = some (some (.ref 70))) (q : ktsIn KF 70 "BaseException" = true)
    (k : ∀ h' g' oe vs tk, KtsTurn (outer.filterMap (·.frame)) g₀ g' → Fr g' L h' (fun y => if y = n then some (.ref e) else m y) → oe.cls = .ref 70 → oe.dict = some dd → oe.data = .fields vs → News g' L h' ((e, oe) :: news) → Below A₀ base outer g' → KF.In g' → Top p loose mean mg mb g' → KtsDicts (outer.filterMap (·.frame)) g' →
      wpAny (model prog w) ((A₀.deeper (envOf name scope L a cd)).mark (some (.ref e))) (execs (b₀ :: suite) (envOf name scope L a cd))
        (fun f s₄ => wpAny (model prog w) (A₀.deeper (envOf name scope L a cd)) (do bindName (envOf name scope L a cd) n .none; unbindBehindTheSuite (envOf name scope L a cd) n pos) (fun _ s₅ => Q f s₅) E s₄)
        (AsSuiteRaised (model prog w) ((A₀.deeper (envOf name scope L a cd)).mark (some (.ref e))) (envOf name scope L a cd) n pos (notedBy (model prog w) ((A₀.deeper (envOf name scope L a cd)).mark (some (.ref e))) (envOf name scope L a cd) (cameBackBy (model prog w) (A₀.deeper (envOf name scope L a cd)) (envOf name scope L a cd) E)))
        { s' with heap := h', toks := tk })
    (hk : scope.kind = .function := by rfl) (hlo : (envOf name scope L a cd).kindOf n = some .local := by rfl) (hx : (envOf name scope L a cd).kindOf x = some .globalImplicit := by rfl) (hd : (x == ("__debug__" : Str)) = false := by decide) :
    wpAny (model prog w) (A₀.deeper (envOf name scope L a cd)) (noteFrame (.ref e) (envOf name scope L a cd))
      (fun _ s₂ => wpAny (model prog w) (A₀.deeper (envOf name scope L a cd)) (setFlight (.ref e) none) (fun _ s₃ =>
        wpAny (model prog w) (A₀.deeper (envOf name scope L a cd)) (handleBy (.ref e) (envOf name scope L a cd) (.ExceptHandler (some (.Name x np)) (some n) (b₀ :: suite) pos :: rest)) Q E s₃) E s₂) E s' := by
  obtain ⟨B, hB, hBG, hl, k1, k2, k3, k4⟩ := R
  have hL : B.get? L = none := by
    obtain ⟨_, ⟨L', _, hf, hn', _⟩, _⟩ := k3
    obtain rfl : L = L' := Option.some.inj hf
    exact hn'
  refine x_note (Around.frames_deeper K.stack) k3 rfl k4 k1 k2 fun h₄ ⟨a1, a2, a3, a4⟩ => ?_
  refine x_flight a1 a2 a3 fun h₅ ⟨b1, b2, b3, b4⟩ => ?_
  have u5 := hsm.trans (a4.trans b4)
  obtain ⟨g₅, T₅, F₅, K₅⟩ := kts_ground K F hBG b1 u5
  have X₅ : KF.In g₅ := XB.keeps K₅.stays
  have P₅ : TopRead p loose mg mb g₅ := topRead_of (TB.keeps K₅.stays)
  obtain ⟨nm, q', N, bs, bm, hdct, sn, sub, ab, col, dd', i0, i1, i2, i3, i5, newId, hC, hbase, hbT⟩ := kts_cls X₅ q
  have hC₅ := F₅.keep _ _ hC
  have b3' := b3
  obtain ⟨ob, vs, T, oT, ts, hob, hobc, _⟩ := b3'
  refine wpAny_handleBy_cons (codeAny_handlers_test (name_K F₅ X₅ P₅ ex ?_ hk hx hd)) (by intro q; cases q)
  refine wpAny_excMatches_sub_self hC₅ hob hobc.1 hbase (codeAny_handlers_suite_as ?_)
  refine x_flight b1 b2 b3 fun h₆ ⟨c1, c2, c3, c4⟩ => ?_
  have u6 := u5.trans c4
  obtain ⟨g₆, T₆, F₆, K₆⟩ := kts_ground K F hBG c1 u6
  obtain ⟨oe, ws, T', oT', ts', hoe, hoec, hoed, _⟩ := c3
  have ne₆ : g₆.get? e = none := T₆.none_ _ (kts_fresh F hBG k2 fun o ho m => by
    obtain ⟨_, o', ho', hd⟩ := K.frames.mem m
    rw [ho] at ho'
    cases ho'
    obtain ⟨sl, hs⟩ := u6 _ _ (F.keep _ _ ho) hd
    rw [hoe] at hs
    cases hs
    exact hd _ hoed)
  have Nl : News g₆ L h₆ news := fun q hq => ⟨c1 _ _ (hl q hq).1, (fun z => by have := (hl q hq).1; rw [z, hL] at this; cases this), T₆.none_ _ (kts_none F.keep (hl q hq).2.1)⟩
  have N₆ := News.more F₆ Nl hoe (fun es n q => by rw [hoed] at q; cases q) ne₆
  refine stN F₆ N₆ (fun h₇ F₇ N₇ => ?_) hk hlo
  exact k h₇ g₆ oe ws _ (T0.trans T₆) F₇ hoec.1 hoec.2 hoed N₇ K₆ (XB.keeps K₆.stays) (TB.keeps K₆.stays) (D.turn T₆)
end
end
section -- XH
open PySem PySem.W PyProof.Rows PySem.Calls PySem.Spec
set_option maxRecDepth 100000
set_option maxHeartbeats 8000000
theorem x_raise {M : Model} {A : Around} {E : Value → Shared → Prop} {s : Shared} {env : Env} {ex : Expr} {pos : Pos} {Q : Flow → Shared → Prop} {KF : Frag} (q : ktsIn KF 70 "BaseException" = true) (hh : A.handled = none)
    (h : wpAny M A (eval ex env) (fun v s₁ => ∃ e t dd, v = .ref e ∧ KF.In s₁.heap ∧ s₁.heap.get? e = some (excObj t dd) ∧ E (.ref e) s₁) E s) :
    wpAny M A (exec (.Raise (some ex) none pos) env) Q E s := by
  show wpAny M A (do standAt pos; raiseStmt env (some (do let v ← eval ex env; standAt pos; pure v)) none) Q E s
  refine wpAny_bind (wpAny_standAt ?_)
  unfold raiseStmt
  dsimp only
  refine wpAny_bind (wpAny_bind (wpAny_mono h (fun v s₁ h₁ => wpAny_bind (wpAny_standAt (wpAny_pure ?_))) fun _ _ x => x))
  obtain ⟨e, t, dd, rfl, X, he, hE⟩ := h₁
  obtain ⟨nm, qn, N, bs, bm, hdct, sn, sub, ab, col, d2, k0, k1, k2, k3, k5, newId, hC, hbase, -⟩ := kts_cls X q
  obtain ⟨hp, g, d, tk, os⟩ := s₁
  have hcB : (Value.ref 70 :: bm).contains (.type "BaseException") = true := by rw [List.contains_cons, hbase, Bool.or_true]
  repeat (first | with_reducible refine wpAny_loadPart_at he ?_ | with_reducible refine wpAny_loadPart_at hC ?_ | (with_reducible refine wpAny_isSubtype_exc hC ?_; rw [hcB]) | wp_step)
  exact wpAny_raiseNew_none hh hE
end
section -- XI
open PySem PySem.W PyProof.Rows PySem.Calls PySem.Spec
set_option maxRecDepth 100000
set_option maxHeartbeats 8000000
def RaisableX (KF : Frag) (E : Value → Shared → Prop) (v : Value) (s₁ : Shared) : Prop := ∃ e t dd, v = .ref e ∧ KF.In s₁.heap ∧ s₁.heap.get? e = some (excObj t dd) ∧ E (.ref e) s₁
theorem x_raise2 {w : World} {A : Around} {E : Value → Shared → Prop} {s : Shared} {env : Env} {ex : Expr} {pos : Pos} {Q : Flow → Shared → Prop} (q : ktsIn (hd.heap_1 w.params) 70 "BaseException" = true) (hh : A.handled = none)
    (h : wpAny (model PySem.Challenge.rw_nt0166_01.row.prog w) A (eval ex env) (RaisableX (hd.heap_1 w.params) E) E s) : wpAny (model PySem.Challenge.rw_nt0166_01.row.prog w) A (exec (.Raise (some ex) none pos) env) Q E s := x_raise q hh h
noncomputable abbrev ExcIn (l dd : Addr) (x y z : Int) (a b c u v : Tok) : List (Addr × Obj) := [(dd, excD l x y z a b c u v), (l, lawObj v)]
theorem x_make {w : World} {e0 e1 e2 : Env} {v : Tok} {E E' : Value → Shared → Prop} {s : Shared} (X : (hd.heap_1 w.params).In s.heap)
    (hE : ∀ (e t dd l : Addr) (x y z : Int) (a b c u v : Tok) (h' : Heap) (tk' : Nat), (∀ b o, s.heap.get? b = some o → h'.get? b = some o) → h'.get? e = some (excObj t dd) → s.heap.get? e = none →
      (∀ q ∈ ExcIn l dd x y z a b c u v, h'.get? q.1 = some q.2 ∧ s.heap.get? q.1 = none ∧ q.1 ≠ e) → E (.ref e) { s with heap := h', toks := tk' }) :
    wpAny (model PySem.Challenge.rw_nt0166_01.row.prog w) (((callerA.deeper e0).deeper e1).deeper e2) (call (.ref 70) [.str (Str.ofString "law") v]) (RaisableX (hd.heap_1 w.params) E) E' s := by
  obtain ⟨h, g, d, tk, os⟩ := s
  refine mk_exc w _ h g d tk os X e0 e1 e2 v _ _ ?_ rfl
  intro e t dd l x y z a b c u v h' tk' k he hdd hl ne nt ndd nl
  refine ⟨e, t, dd, rfl, fun q o hq => k _ _ (X q o hq), he, hE e t dd l x y z a b c u v h' tk' k he ne ?_⟩
  intro q hq
  rcases List.mem_cons.mp hq with rfl | hq
  · refine ⟨hdd, ndd, fun z' => ?_⟩
    have z' : dd = e := z'
    rw [z', he] at hdd
    have := congrArg Obj.data (Option.some.inj hdd)
    cases this
  · rcases List.mem_cons.mp hq with rfl | hq
    · refine ⟨hl, nl, fun z' => ?_⟩
      have z' : l = e := z'
      rw [z', he] at hl
      have := congrArg Obj.data (Option.some.inj hl)
      cases this
    · cases hq
end
open PySem PySem.W PyProof.Rows PySem.Calls PySem.Spec
set_option maxRecDepth 100000
set_option maxHeartbeats 8000000
local macro_rules | `(tactic| walk_at "binaryOp FloorDiv int int") => `(tactic| (k_here; (with_reducible refine fd_mine ?mb ?_); (case mb => first | decide | omega | k_extra "div")))
local macro_rules | `(tactic| walk_at "binaryOp Mod int int") => `(tactic| (k_here; (with_reducible refine md_mine ?mb ?_); (case mb => first | decide | omega | k_extra "div")))
local macro_rules | `(tactic| walk_at "binaryOp Mult int int") => `(tactic| (k_here; first | ((with_reducible refine ml_mine ?mb ?_); (case mb => first | decide | omega | k_extra "mul")) | ((with_reducible refine mr_mine ?mb ?_); (case mb => first | decide | omega | k_extra "mul"))))
local macro_rules | `(tactic| walk_at "binaryOp LShift int int") => `(tactic| (k_here; (with_reducible refine sl_mine ?mb ?mc ?_); (case mb => first | decide | omega | k_extra "shift"); (case mc => first | decide | omega | k_extra "shifted")))
local macro_rules | `(tactic| walk_at "binaryOp RShift int int") => `(tactic| (k_here; (with_reducible refine sr_mine ?mb ?_); (case mb => first | decide | omega | k_extra "shift")))
local macro_rules | `(tactic| walk_at "binaryOp Pow int int") => `(tactic| (k_here; (with_reducible refine pw_mine ?mb ?mc ?_); (case mb => first | decide | omega | k_extra "shift"); (case mc => first | decide | omega | k_extra "shifted")))
local macro_rules | `(tactic| walk_at "mine.mem") => `(tactic| first | assumption | exact List.Mem.head _ | (refine' List.Mem.tail _ ?_; walk_at "mine.mem"))
local macro_rules | `(tactic| k_mem) => `(tactic| first | assumption | exact List.Mem.head _ | (refine' List.Mem.tail _ ?_; k_mem))
local macro_rules | `(tactic| o_head $H) => `(tactic| (refine' Fn.use $H ?k1 ?k2 ?k3 ?k4 ?k5 ?k6 ?k7 ?k8 ?_; (case k1 | k2 | k3 | k4 | k5 => k_asm); (case k6 => first | exact rfl | assumption); (case k7 => ktr_room); (case k8 => ktr_units)))
local macro_rules | `(tactic| walk_at "mine.hx") => `(tactic| (case hx => (refine' ⟨_, _, _, _, _, ?hx1, ?hx2⟩; (case hx1 | hx2 => walk_at "mine.mem"))))
local macro_rules | `(tactic| walk_at "mine.r2frac") => `(tactic| (case r1 | r2 => first | assumption | omega | k_extra "frac"))
local macro_rules | `(tactic| walk_at "mine.r3pos") => `(tactic| (case r1 | r2 | r3 => walk_at "mine.po"))
local macro_rules | `(tactic| walk_at "mine.r4pos") => `(tactic| (case r1 | r2 | r3 | r4 => walk_at "mine.po"))
local macro_rules | `(tactic| walk_at "mine.ra") => `(tactic| (first | assumption | walk_at "mine.ro"))
local macro_rules | `(tactic| walk_at "mine.r4root") => `(tactic| (case r1 | r2 | r3 | r4 => walk_at "mine.ra"))
local macro_rules | `(tactic| walk_at "mine.ro") => `(tactic| (first | omega | k_extra "root"))
local macro_rules | `(tactic| walk_at "mine.po") => `(tactic| (first | assumption | omega | k_extra "pos"))
local macro_rules | `(tactic| walk_at "mine.pow") => `(tactic| (first | omega | k_extra "pow"))
local macro_rules | `(tactic| walk_at "mine.ns") => `(tactic| (first | omega | k_extra "ns"))
local macro_rules | `(tactic| walk_at "mine.lean") => `(tactic| (first | omega | k_extra "lean"))
local macro_rules | `(tactic| walk_at "mine.sround") => `(tactic| (first | omega | k_extra "sround"))
local macro_rules | `(tactic| walk_at "mine.i") => `(tactic| (intros; (try dsimp only); (try k_fold)))
local macro_rules | `(tactic| walk_at "mine.tex") => `(tactic| (refine And.intro (fun _ => And.intro ?_ ?_) ?_; all_goals walk_at "mine.i"))
local macro_rules | `(tactic| walk_at "mine.tsq") => `(tactic| (refine And.intro ?_ ?_; all_goals walk_at "mine.i"))
local macro_rules | `(tactic| walk_at "mine.tans") => `(tactic| (refine ⟨?_, ?_, ?_, ?_⟩; all_goals intros; all_goals (try (exfalso; first | omega | contradiction)); all_goals walk_at "mine.i"))
local macro_rules | `(tactic| walk_at "mine.tnum") => `(tactic| (refine ⟨?_, ?_, ?_⟩; all_goals walk_at "mine.i"))
local macro_rules | `(tactic| walk_at "execs cons") => `(tactic| (k_here; (with_reducible refine gen_tok ?_); intro tk; (with_reducible refine wpAny_execs_cons ?_); try dsimp only))
section
variable (w : World)
-- R1
theorem newton_inv {n g : Int} (hn : 1 ≤ n) (hg : 0 < g) (hb : g ≤ 2 ^ 40) (hl : (g + n.fdiv g).fdiv 2 < g) :
    0 < (g + n.fdiv g).fdiv 2 ∧ (g + n.fdiv g).fdiv 2 ≤ 2 ^ 40 ∧ n < ((g + n.fdiv g).fdiv 2 + 1) * ((g + n.fdiv g).fdiv 2 + 1) :=
  ⟨newton_pos hn hg, by omega, newton_step (by omega) hg⟩
def NewtP (n g r : Int) : Prop := 1 ≤ n ∧ 0 < g ∧ g ≤ 2 ^ 40 ∧ n < (g + 1) * (g + 1) ∧ r = (g + n.fdiv g).fdiv 2
theorem NewtP.start {n : Int} (h0 : 0 ≤ n) (h1 : n < 2 ^ 60) (h : n ≠ 0) : NewtP n (1 * (2 : Int) ^ ((((Builtin.Int.intBits n : Nat) : Int) + 1).fdiv 2).toNat) ((1 * (2 : Int) ^ ((((Builtin.Int.intBits n : Nat) : Int) + 1).fdiv 2).toNat + n.fdiv (1 * (2 : Int) ^ ((((Builtin.Int.intBits n : Nat) : Int) + 1).fdiv 2).toNat)).fdiv 2) :=
  ⟨by omega, (guess_div h0 h1).1, (guess_div h0 h1).2, guess_sq h0, rfl⟩
theorem NewtP.turn {n g r : Int} (h : NewtP n g r) (hl : r < g) : NewtP n r ((r + n.fdiv r).fdiv 2) := by
  obtain ⟨h1, h2, h3, h4, rfl⟩ := h
  have z := newton_inv h1 h2 h3 hl
  exact ⟨h1, z.1, z.2.1, z.2.2, rfl⟩
theorem NewtP.div {n g r : Int} (h : NewtP n g r) : 0 < g ∧ g < 2 ^ 62 := ⟨h.2.1, by have := h.2.2.1; omega⟩
theorem NewtP.div2 {n g r : Int} (h : NewtP n g r) (hl : r < g) : 0 < r ∧ r < 2 ^ 62 := (h.turn hl).div
theorem NewtP.done {n g r : Int} (h : NewtP n g r) (hl : ¬ r < g) : g = isq n := by
  obtain ⟨h1, h2, h3, h4, rfl⟩ := h
  exact newton_end (by omega) h2 h4 hl
theorem NewtP.two {n g r : Int} (h : NewtP n g r) (hl : ¬ r < g) : g = isq n ∧ n - g * g = n - isq n * isq n := by
  have := h.done hl
  subst this
  exact ⟨rfl, rfl⟩
theorem NewtP.less {n g r : Int} (h : NewtP n g r) (hl : r < g) : r.toNat < g.toNat := by
  have := h.2.1
  omega
theorem guess_div' {n : Int} (h0 : 0 ≤ n) (h1 : n < 2 ^ 60) : 0 < 1 * (2 : Int) ^ ((((Builtin.Int.intBits n : Nat) : Int) + 1).fdiv 2).toNat ∧ 1 * (2 : Int) ^ ((((Builtin.Int.intBits n : Nat) : Int) + 1).fdiv 2).toNat < 2 ^ 62 := by
  have := guess_div h0 h1; omega
theorem guess_shift {n : Int} (h0 : 0 ≤ n) (h1 : n < 2 ^ 60) : 0 ≤ (((Builtin.Int.intBits n : Nat) : Int) + 1).fdiv 2 ∧ (((Builtin.Int.intBits n : Nat) : Int) + 1).fdiv 2 ≤ 1000000 := by
  have hb := bits_le (k := 60) h0 h1
  rw [Int.fdiv_eq_ediv_of_nonneg _ (by decide)]; omega
theorem root_below_spec (n : Int) (tk : Tok) (h0 : 0 ≤ n) (h1 : n < 2 ^ 60) (news) : Fn w 2 156 [.int n tk] news (RetI (isq n)) := by
  dsimp only [Fn, RetI]
  k_fill
  k_with_none
  intros
  rename_i hret
  refine wpAny_call ?_
  k_dflt cell_enter
  k_with "shift" => exact guess_shift h0 h1
  k_with "div" => first | exact guess_div' h0 h1 | exact NewtP.div (by assumption) | exact NewtP.div2 (by assumption) (by assumption)
  k_with "state" => first | exact NewtP.start h0 h1 (by assumption) | exact NewtP.turn (by assumption) (by assumption)
  k_with "measure" => exact NewtP.less (by assumption) (by assumption)
  k_with "exec While Compare cons nil" => k_while_given ["number"] (fun n script g r => NewtP n g r) (fun n script g r => g.toNat) "found" "better"
  k_steps
  all_goals first
    | exact cb_retI hret (NewtP.done (by assumption) (by assumption)) (by k_asm) (by k_asm)
    | exact cb_retI hret (by subst_vars; rfl) (by k_asm) (by k_asm)
theorem root_exact_spec (n : Int) (tk : Tok) (h0 : 0 ≤ n) (h1 : n < 2 ^ 60) (news) : Fn w 2 226 [.int n tk] news (RetT2 (isq n) (n - isq n * isq n)) := by
  dsimp only [Fn, RetT2]
  k_fill
  k_with_none
  intros
  rename_i hret
  refine wpAny_call ?_
  k_dflt cell_enter
  k_with "shift" => exact guess_shift h0 h1
  k_with "div" => first | exact guess_div' h0 h1 | exact NewtP.div (by assumption) | exact NewtP.div2 (by assumption) (by assumption)
  k_with "mul" => have := NewtP.div (by assumption); omega
  k_with "state" => first | exact NewtP.start h0 h1 (by assumption) | exact NewtP.turn (by assumption) (by assumption)
  k_with "measure" => exact NewtP.less (by assumption) (by assumption)
  k_with "exec While Compare cons nil" => k_while_given ["number"] (fun n script g r => NewtP n g r) (fun n script g r => g.toNat) "guess" "nearer"
  k_steps
  all_goals first
    | (refine' ret_t2 hret ?e ?F ?N; (case N => k_asm); (case F => k_asm); (case e => first | (subst_vars; exact ⟨rfl, rfl⟩) | exact NewtP.two (by assumption) (by assumption)))
def UpP (_n s : Int) : Prop := ∃ k : Nat, s = 2 ^ k ∧ s ≤ 2 ^ 31
theorem UpP.start (n : Int) : UpP n 1 := ⟨0, rfl, by decide⟩
theorem UpP.small {n s : Int} (h1 : n < 2 ^ 60) (_h : UpP n s) (hl : s * s ≤ n) : s < 2 ^ 30 := by
  refine lt_of_sq (by decide) (Int.lt_of_le_of_lt hl (Int.lt_of_lt_of_le h1 (by decide)))
theorem UpP.turn {n s : Int} (h1 : n < 2 ^ 60) (h : UpP n s) (hl : s * s ≤ n) : UpP n (s * 2) := by
  have q := h.small h1 hl
  obtain ⟨k, rfl, _⟩ := h
  exact ⟨k + 1, by rw [Int.pow_succ], by omega⟩
theorem UpP.less {n s : Int} (h1 : n < 2 ^ 60) (h : UpP n s) (hl : s * s ≤ n) : (2 ^ 31 - s * 2).toNat < (2 ^ 31 - s).toNat := by
  have q := h.small h1 hl
  obtain ⟨k, rfl, _⟩ := h
  have := two_pow_pos k
  omega
theorem UpP.mul {n s : Int} (h : UpP n s) : -(2 ^ 64) < s ∧ s < 2 ^ 64 := by
  obtain ⟨k, rfl, _⟩ := h
  have := two_pow_pos k
  omega
def DownP (n f s : Int) : Prop := 0 ≤ f ∧ f * f ≤ n ∧ ((s = 0 ∧ n < (f + 1) * (f + 1)) ∨ ∃ k : Nat, s = 2 ^ k ∧ s ≤ 2 ^ 31 ∧ n < (f + 2 * s) * (f + 2 * s))
theorem DownP.start {n s : Int} (h0 : 0 ≤ n) (h : UpP n s) (hl : ¬ s * s ≤ n) : DownP n 0 s := by
  obtain ⟨k, rfl, h2⟩ := h
  have := two_pow_pos k
  refine ⟨by decide, by simpa using h0, .inr ⟨k, rfl, h2, ?_⟩⟩
  have : (2 : Int) ^ k * 2 ^ k < (0 + 2 * 2 ^ k) * (0 + 2 * 2 ^ k) := sq_lt_of_lt (by omega) (by omega)
  omega
theorem DownP.f_lt {n f s : Int} (h1 : n < 2 ^ 60) (h : DownP n f s) : f < 2 ^ 30 := lt_of_sq (by decide) (Int.lt_of_le_of_lt h.2.1 (Int.lt_of_lt_of_le h1 (by decide)))
theorem DownP.s_in {n f s : Int} (h : DownP n f s) : 0 ≤ s ∧ s ≤ 2 ^ 31 := by
  rcases h.2.2 with ⟨rfl, _⟩ | ⟨k, rfl, h2, _⟩
  · decide
  · exact ⟨Int.le_of_lt (two_pow_pos k), h2⟩
theorem DownP.mul {n f s : Int} (h1 : n < 2 ^ 60) (h : DownP n f s) : -(2 ^ 64) < f + s ∧ f + s < 2 ^ 64 := by
  have a := h.f_lt h1
  have b := h.s_in
  have c := h.1
  omega
theorem half_pow {k : Nat} : ((2 : Int) ^ k).fdiv 2 = 0 ∧ k = 0 ∨ ∃ j, k = j + 1 ∧ ((2 : Int) ^ k).fdiv 2 = 2 ^ j := by
  cases k with
  | zero => exact .inl ⟨by decide, rfl⟩
  | succ j => refine .inr ⟨j, rfl, ?_⟩; rw [Int.fdiv_eq_ediv_of_nonneg _ (by decide), Int.pow_succ]; omega
theorem DownP.next {n f s g : Int} (hs : 0 < s) (h : DownP n f s) (hg0 : 0 ≤ g) (hg : g * g ≤ n) (hh : n < (g + s) * (g + s)) : DownP n g (s.fdiv 2) := by
  rcases h.2.2 with ⟨rfl, _⟩ | ⟨k, rfl, h2, _⟩
  · omega
  · rcases half_pow (k := k) with ⟨e, rfl⟩ | ⟨j, rfl, e⟩
    · rw [e]; exact ⟨hg0, hg, .inl ⟨rfl, hh⟩⟩
    · rw [e]
      rw [Int.pow_succ] at hh h2
      have := two_pow_pos j
      rw [Int.mul_comm (2 ^ j) 2] at hh
      exact ⟨hg0, hg, .inr ⟨j, rfl, by omega, hh⟩⟩
theorem DownP.yes {n f s : Int} (hs : 0 < s) (h : DownP n f s) (hl : (f + s) * (f + s) ≤ n) : DownP n (f + s) (s.fdiv 2) := by
  refine h.next hs (by have := h.1; omega) hl ?_
  rcases h.2.2 with ⟨rfl, _⟩ | ⟨k, rfl, h2, h3⟩
  · omega
  · have e : f + 2 ^ k + 2 ^ k = f + 2 * 2 ^ k := by omega
    rw [e]; exact h3
theorem DownP.no {n f s : Int} (hs : 0 < s) (h : DownP n f s) (hl : ¬ (f + s) * (f + s) ≤ n) : DownP n f (s.fdiv 2) := h.next hs h.1 h.2.1 (by omega)
theorem DownP.less {s : Int} (hs : 0 < s) : (s.fdiv 2).toNat < s.toNat := by
  rw [Int.fdiv_eq_ediv_of_nonneg _ (by decide)]; omega
theorem DownP.done {n f s : Int} (h : DownP n f s) (hl : ¬ 0 < s) : f = isq n := by
  rcases h.2.2 with ⟨rfl, h3⟩ | ⟨k, rfl, h2, h3⟩
  · exact isq_unique h.1 h.2.1 h3
  · exact absurd (two_pow_pos k) hl
theorem whole_root_spec (n : Int) (tk : Tok) (h0 : 0 ≤ n) (h1 : n < 2 ^ 60) (news) : Fn w 2 303 [.int n tk] news (RetI (isq n)) := by
  dsimp only [Fn, RetI]
  k_fill
  k_with_none
  intros
  rename_i hret
  refine wpAny_call ?_
  k_dflt cell_enter
  k_with "mul" => first | exact UpP.mul (by assumption) | exact DownP.mul h1 (by assumption)
  k_with "state" => first | exact UpP.start _ | exact UpP.turn h1 (by assumption) (by assumption) | exact DownP.start h0 (by assumption) (by assumption) | exact DownP.yes (by assumption) (by assumption) (by assumption) | exact DownP.no (by assumption) (by assumption) (by assumption)
  k_with "measure" => first | exact UpP.less h1 (by assumption) (by assumption) | exact DownP.less (by assumption)
  k_with "exec While Compare cons nil" => k_while_given ["number"] (fun n script s => UpP n s) (fun n script s => (2 ^ 31 - s).toNat) "step"
  k_with "exec While Compare cons nil" => k_while_given ["number"] (fun n script f s => DownP n f s) (fun n script f s => s.toNat) "found" "step"
  k_steps
  all_goals first
    | exact cb_retI hret (DownP.done (by assumption) (by assumption)) (by k_asm) (ntl (by k_asm))
-- S3
theorem pow_end {b r : Int} (h : 0 < Int.fdiv 2 2 ∧ r = b * b ∨ ¬ 0 < Int.fdiv 2 2 ∧ r = b) : 1 * r = b * b := by
  rcases h with ⟨_, rfl⟩ | ⟨h, _⟩
  · omega
  · exact absurd (by decide) h
theorem power_two_spec (b : Int) (t1 t2 : Tok) (hb : -(2 ^ 62) < b ∧ b < 2 ^ 62) (news) : Fn w 2 219 [.int b t1, .int 2 t2] news (RetI (b * b)) := by
  dsimp only [Fn, RetI]
  k_fill
  k_with_none
  intros
  rename_i hret
  refine wpAny_call ?_
  k_dflt cell_enter
  k_steps
  all_goals exact cb_retI hret (pow_end (by assumption)) (by k_asm) (by k_asm)
def BisP (n lo hi : Int) : Prop := 1 ≤ lo ∧ lo < hi ∧ hi ≤ 2 ^ 40 ∧ lo * lo ≤ n ∧ n < hi * hi
theorem bis_exp (n : Int) : (((Builtin.Int.intBits n : Nat) : Int).fdiv 2 + 1).toNat = Builtin.Int.intBits n / 2 + 1 := by
  rw [Int.fdiv_eq_ediv_of_nonneg _ (by decide)]; omega
theorem bis_shift {n : Int} (h0 : 0 ≤ n) (h1 : n < 2 ^ 60) : 0 ≤ ((Builtin.Int.intBits n : Nat) : Int).fdiv 2 + 1 ∧ ((Builtin.Int.intBits n : Nat) : Int).fdiv 2 + 1 ≤ 1000000 := by
  have hb := bits_le (k := 60) h0 h1
  rw [Int.fdiv_eq_ediv_of_nonneg _ (by decide)]; omega
theorem BisP.start {n : Int} (h0 : 0 ≤ n) (h1 : n < 2 ^ 60) (h2 : ¬ n < 2) : BisP n 1 (1 * 2 ^ (((Builtin.Int.intBits n : Nat) : Int).fdiv 2 + 1).toNat) := by
  rw [bis_exp, Int.one_mul]
  have hb := bits_le (k := 60) h0 h1
  have hl := bits_lt h0
  have q : (2 : Int) ^ Builtin.Int.intBits n ≤ 2 ^ (2 * (Builtin.Int.intBits n / 2 + 1)) := two_pow_le (by omega)
  rw [← pow_two_sq] at q
  have r : (2 : Int) ^ (Builtin.Int.intBits n / 2 + 1) ≤ 2 ^ 40 := two_pow_le (by omega)
  have z : (2 : Int) ^ 1 ≤ 2 ^ (Builtin.Int.intBits n / 2 + 1) := two_pow_le (by omega)
  refine ⟨by decide, ?_, r, by omega, by omega⟩
  have : (2 : Int) ^ 1 = 2 := rfl
  omega
theorem fd2 (x : Int) : x.fdiv 2 = x / 2 := Int.fdiv_eq_ediv_of_nonneg _ (by decide)
theorem BisP.mid {n lo hi : Int} (h : BisP n lo hi) (hl : 1 < hi - lo) : lo < (lo + hi).fdiv 2 ∧ (lo + hi).fdiv 2 < hi := by
  rw [fd2]; omega
theorem BisP.pow {n lo hi : Int} (h : BisP n lo hi) (hl : 1 < hi - lo) : -(2 ^ 62) < (lo + hi).fdiv 2 ∧ (lo + hi).fdiv 2 < 2 ^ 62 := by
  have := h.mid hl
  obtain ⟨a, b, c, _, _⟩ := h
  omega
theorem BisP.yes {n lo hi : Int} (h : BisP n lo hi) (hl : 1 < hi - lo) (hm : (lo + hi).fdiv 2 * (lo + hi).fdiv 2 ≤ n) : BisP n ((lo + hi).fdiv 2) hi := by
  have := h.mid hl
  obtain ⟨a, b, c, d, e⟩ := h
  exact ⟨by omega, by omega, c, hm, e⟩
theorem BisP.no {n lo hi : Int} (h : BisP n lo hi) (hl : 1 < hi - lo) (hm : ¬ (lo + hi).fdiv 2 * (lo + hi).fdiv 2 ≤ n) : BisP n lo ((lo + hi).fdiv 2) := by
  have := h.mid hl
  obtain ⟨a, b, c, d, e⟩ := h
  exact ⟨a, by omega, by omega, d, by omega⟩
theorem BisP.less1 {n lo hi : Int} (h : BisP n lo hi) (hl : 1 < hi - lo) : (hi - (lo + hi).fdiv 2).toNat < (hi - lo).toNat := by
  have := h.mid hl
  omega
theorem BisP.less2 {n lo hi : Int} (h : BisP n lo hi) (hl : 1 < hi - lo) : ((lo + hi).fdiv 2 - lo).toNat < (hi - lo).toNat := by
  have := h.mid hl
  omega
theorem BisP.done {n lo hi : Int} (h : BisP n lo hi) (hl : ¬ 1 < hi - lo) : lo = isq n := by
  obtain ⟨a, b, c, d, e⟩ := h
  obtain rfl : hi = lo + 1 := by omega
  exact isq_unique (by omega) d e
theorem bis_small {n : Int} (h0 : 0 ≤ n) (h : n < 2) : n = isq n := by
  rcases (by omega : n = 0 ∨ n = 1) with rfl | rfl <;> rfl
theorem bis_two {n : Int} (h0 : 0 ≤ n) (h : ¬ n < 2) (hb : ((Builtin.Int.intBits n : Nat) : Int) ≤ 2) : 1 = isq n := by
  have hl := bits_lt h0
  have q : (2 : Int) ^ Builtin.Int.intBits n ≤ 2 ^ 2 := two_pow_le (by omega)
  have : (2 : Int) ^ 2 = 4 := rfl
  exact isq_unique (by decide) (by omega) (by omega)
local macro_rules | `(tactic| walk_at "call ref") => `(tactic| (k_here; (with_reducible show wpAny _ _ (call (Value.ref 219) _ _) _ _ _); o_head (power_two_spec _ _ _ _ (by first | omega | k_extra "pow") _); walk_at "mine.i"))
theorem root_of_degree_spec (n : Int) (t1 t2 : Tok) (h0 : 0 ≤ n) (h1 : n < 2 ^ 60) (news) : Fn w 4 233 [.int n t1, .int 2 t2] news (RetI (isq n)) := by
  dsimp only [Fn, RetI]
  k_fill
  k_with_none
  intros
  rename_i hret
  refine wpAny_call ?_
  k_dflt cell_enter
  k_with "shift" => exact bis_shift h0 h1
  k_with "pow" => exact BisP.pow (by assumption) (by assumption)
  k_with "state" => first | exact BisP.start h0 h1 (by assumption) | exact BisP.yes (by assumption) (by assumption) (by assumption) | exact BisP.no (by assumption) (by assumption) (by assumption)
  k_with "measure" => first | exact BisP.less1 (by assumption) (by assumption) | exact BisP.less2 (by assumption) (by assumption)
  k_with "exec While Compare cons nil" => k_while_given ["number"] (fun n script lo hi => BisP n lo hi) (fun n script lo hi => (hi - lo).toNat) "low" "high"
  k_steps
  all_goals first
    | exact cb_retI hret (bis_small h0 (by assumption)) (by k_asm) (by k_asm)
    | exact cb_retI hret (bis_two h0 (by assumption) (by assumption)) (by k_asm) (by k_asm)
    | exact cb_retI hret (BisP.done (by assumption) (by assumption)) (by k_asm) (ntl (by k_asm))
    | trace_state
-- S4
theorem mk_real_spec (n e : Int) (t1 t2 : Tok) (news) : Fn w 3 89 [.int n t1, .int e t2] news (RetReal n e) := by
  dsimp only [Fn, RetReal]
  k_fill
  k_with_none
  intros
  rename_i hret
  (refine' call_cls ?k1 ?k2 ?k3 ?k4 ?k5 ?k6 ?_; (case k1 => k_asm); (case k2 => k_asm); (case k3 => k_asm); (case k4 => k_is); (case k5 => k_is); (case k6 => k_is); k_whole; intro x' d' h' F' N' l1 l2; (try k_lt l1); (try k_lt2 l2); (try k_sweep))
  k_dflt cell_enter
  k_steps
  all_goals exact hret _ _ _ _ _ _ _ _ (by k_asm) (by k_asm)
theorem mk_ratio_spec (n e : Int) (t1 t2 : Tok) (news) : Fn w 3 180 [.int n t1, .int e t2] news (RetRatio n e) := by
  dsimp only [Fn, RetRatio]
  k_fill
  k_with_none
  intros
  rename_i hret
  (refine' call_cls ?k1 ?k2 ?k3 ?k4 ?k5 ?k6 ?_; (case k1 => k_asm); (case k2 => k_asm); (case k3 => k_asm); (case k4 => k_is); (case k5 => k_is); (case k6 => k_is); k_whole; intro x' d' h' F' N' l1 l2; (try k_lt l1); (try k_lt2 l2); (try k_sweep))
  k_dflt cell_enter
  k_steps
  all_goals exact hret _ _ _ _ _ _ _ _ (by k_asm) (by k_asm)
theorem size_of_spec (n : Int) (tk : Tok) (news) : Fn w 2 100 [.int n tk] news (RetI (Builtin.Int.intBits n)) := by
  dsimp only [Fn, RetI]
  k_fill
  k_with_none
  intros
  rename_i hret
  refine wpAny_call ?_
  k_dflt cell_enter
  k_steps
  all_goals exact cb_retI hret (by rw [bits_abs]) (by k_asm) (by k_asm)
theorem sign_of_whole_spec (n : Int) (tk : Tok) (news) : Fn w 2 107 [.int n tk] news (RetI n.sign) := by
  dsimp only [Fn, RetI]
  k_fill
  k_with_none
  intros
  rename_i hret
  refine wpAny_call ?_
  k_dflt cell_enter
  k_steps
  all_goals exact cb_retI hret (by
    rcases Int.lt_trichotomy n 0 with h | rfl | h
    · rw [Int.sign_eq_neg_one_of_neg h, decide_eq_false (by omega), decide_eq_true h]; rfl
    · rfl
    · rw [Int.sign_eq_one_of_pos h, decide_eq_true h, decide_eq_false (by omega)]; rfl) (by k_asm) (by k_asm)
theorem zeros_below_spec (n : Int) (tk : Tok) (news) : Fn w 2 114 [.int n tk] news (RetI (tzp n)) := by
  dsimp only [Fn, RetI]
  k_fill
  k_with_none
  intros
  rename_i hret
  refine wpAny_call ?_
  k_dflt cell_enter
  k_steps
  all_goals exact cb_retI hret rfl (by k_asm) (by k_asm)
theorem with_sticky_spec (n : Int) (b : Bool) (tk : Tok) (news) : Fn w 2 142 [.int n tk, .bool b] news (RetI (2 * n + if b = true then 1 else 0)) := by
  dsimp only [Fn, RetI]
  k_fill
  k_with_none
  intros
  rename_i hret
  refine wpAny_call ?_
  k_dflt cell_enter
  k_steps
  all_goals exact cb_retI hret (by subst_vars; rfl) (by k_asm) (by k_asm)
theorem nearest_shift_spec (n g : Int) (tk t2 : Tok) (hn : 0 ≤ n) (hg : 1 ≤ g ∧ g ≤ 100) (news) : Fn w 2 128 [.int n tk, .int g t2] news (RetI (nsV n g)) := by
  dsimp only [Fn, RetI]
  k_fill
  k_with_none
  intros
  rename_i hret
  refine wpAny_call ?_
  k_dflt cell_enter
  k_steps
  all_goals first
    | exact cb_retI hret (ns_up hn (by assumption)) (by k_asm) (ntl (by k_asm))
    | exact cb_retI hret (ns_tie hn (by assumption) (by assumption)) (by k_asm) (ntl (by k_asm))
    | exact cb_retI hret (ns_even hn (by assumption) (by assumption)) (by k_asm) (ntl (by k_asm))
    | exact cb_retI hret (ns_down hn (by assumption) (by assumption)) (by k_asm) (ntl (by k_asm))
local macro_rules | `(tactic| walk_at "call ref") => `(tactic| (k_here; first | ((with_reducible show wpAny _ _ (call (Value.ref 128) _ _) _ _ _); o_head (nearest_shift_spec _ _ _ _ _ (by first | omega | k_extra "ns") (by first | omega | k_extra "ns") _); walk_at "mine.i") | ((with_reducible show wpAny _ _ (call (Value.ref 142) _ _) _ _ _); o_head (with_sticky_spec _ _ _ _ _); walk_at "mine.i") | ((with_reducible show wpAny _ _ (call (Value.ref 114) _ _) _ _ _); o_head (zeros_below_spec _ _ _ _); walk_at "mine.i") | ((with_reducible show wpAny _ _ (call (Value.ref 107) _ _) _ _ _); o_head (sign_of_whole_spec _ _ _ _); walk_at "mine.i") | ((with_reducible show wpAny _ _ (call (Value.ref 100) _ _) _ _ _); o_head (size_of_spec _ _ _ _); walk_at "mine.i") | ((with_reducible show wpAny _ _ (call (Value.ref 180) _ _) _ _ _); o_head (mk_ratio_spec _ _ _ _ _ _); walk_at "mine.i") | ((with_reducible show wpAny _ _ (call (Value.ref 89) _ _) _ _ _); o_head (mk_real_spec _ _ _ _ _ _); walk_at "mine.i")))
theorem bits_512 {n : Int} (hn : 1 ≤ n ∧ n ≤ 512) : ((Builtin.Int.intBits n : Nat) : Int) ≤ 10 := by
  have := bits_le (n := n) (k := 10) (by omega) (by omega)
  omega
theorem lean_spec (n e : Int) (t1 t2 : Tok) (hn : 1 ≤ n ∧ n ≤ 512) (he : -1000 ≤ e ∧ e ≤ 1000) (news) : Fn w 6 121 [.int n t1, .int e t2] news (RetReal (oddp n) (e + tzp n)) := by
  dsimp only [Fn, RetReal]
  k_fill
  k_with_none
  intros
  rename_i hret
  refine wpAny_call ?_
  k_dflt cell_enter
  have hb := bits_512 hn
  have ht := (tz_facts hn).1
  k_steps
  all_goals first
    | (exfalso; omega)
    | (refine' ret_real hret ?e ?F ?N; (case N => k_asm); (case F => k_asm); (case e => first | exact ⟨rfl, rfl⟩))
    | (refine' ret_real hret ?e ?F (nm1 ?N); (case N => k_asm); (case F => k_asm); (case e => first | exact ⟨rfl, rfl⟩))
    | (refine' ret_real hret ?e ?F (nm2 ?N); (case N => k_asm); (case F => k_asm); (case e => first | exact ⟨rfl, rfl⟩))
    | (refine' ret_real hret ?e ?F (nm3 ?N); (case N => k_asm); (case F => k_asm); (case e => first | exact ⟨rfl, rfl⟩))
    | (refine' ret_real hret ?e ?F (nm4 ?N); (case N => k_asm); (case F => k_asm); (case e => first | exact ⟨rfl, rfl⟩))
local macro_rules | `(tactic| walk_at "call ref") => `(tactic| (k_here; (with_reducible show wpAny _ _ (call (Value.ref 121) _ _) _ _ _); o_head (lean_spec _ _ _ _ _ (by first | omega | k_extra "lean") (by first | omega | k_extra "lean") _); walk_at "mine.i"))
/-- what shifted_round hands back for v of p + g bits -/
theorem shifted_round_spec (p v e : Int) (t0 t1 t2 : Tok) (hp : 2 ≤ p ∧ p ≤ 9) (hv : 0 < v) (hg : 1 ≤ ((Builtin.Int.intBits v : Nat) : Int) - p ∧ ((Builtin.Int.intBits v : Nat) : Int) - p ≤ 100) (he : -500 ≤ e ∧ e ≤ 500) (news) :
    Fn w 8 135 [.int p t0, .int v t1, .int e t2] news (RetReal (oddp (nsV v (((Builtin.Int.intBits v : Nat) : Int) - p))) (e + (((Builtin.Int.intBits v : Nat) : Int) - p) + tzp (nsV v (((Builtin.Int.intBits v : Nat) : Int) - p)))) := by
  dsimp only [Fn, RetReal]
  k_fill
  k_with_none
  intros
  rename_i hret
  refine wpAny_call ?_
  k_dflt cell_enter
  have hb := ns_bounds hv hp rfl hg.1
  have hs : v.sign = 1 := Int.sign_eq_one_of_pos hv
  have ha := abs_pos (Int.le_of_lt hv)
  k_with "lean" => rw [hs, ha, Int.one_mul]; omega
  k_with "ns" => rw [ha]; omega
  k_steps
  all_goals first
    | (exfalso; omega)
    | (refine' ret_real hret ?e ?F ?N; (case N => k_asm); (case F => k_asm); (case e => first | (rw [hs, ha, Int.one_mul]; exact ⟨rfl, rfl⟩)))
    | (refine' ret_real hret ?e ?F (nm1 ?N); (case N => k_asm); (case F => k_asm); (case e => first | (rw [hs, ha, Int.one_mul]; exact ⟨rfl, rfl⟩)))
    | (refine' ret_real hret ?e ?F (nm2 ?N); (case N => k_asm); (case F => k_asm); (case e => first | (rw [hs, ha, Int.one_mul]; exact ⟨rfl, rfl⟩)))
    | (refine' ret_real hret ?e ?F (nm3 ?N); (case N => k_asm); (case F => k_asm); (case e => first | (rw [hs, ha, Int.one_mul]; exact ⟨rfl, rfl⟩)))
    | (refine' ret_real hret ?e ?F (nm4 ?N); (case N => k_asm); (case F => k_asm); (case e => first | (rw [hs, ha, Int.one_mul]; exact ⟨rfl, rfl⟩)))
-- S5
theorem top_of_int_spec (n : Int) (tk : Tok) (news) : Fn w 2 191 [.int n tk] news (RetI n) := by
  dsimp only [Fn, RetI]
  k_fill
  k_with_none
  intros
  rename_i hret
  refine wpAny_call ?_
  k_dflt cell_enter
  k_steps
  all_goals first
    | (exfalso; omega)
    | (refine' cb_retI hret ?e ?F ?N; (case N => k_asm); (case F => k_asm); (case e => first | rfl))
    | (refine' cb_retI hret ?e ?F (ntl ?N); (case N => k_asm); (case F => k_asm); (case e => first | rfl))
    | (refine' cb_retI hret ?e ?F (ntl (ntl ?N)); (case N => k_asm); (case F => k_asm); (case e => first | rfl))
    | (refine' cb_retI hret ?e ?F (ntl (ntl (ntl ?N))); (case N => k_asm); (case F => k_asm); (case e => first | rfl))
theorem bottom_of_int_spec (n : Int) (tk : Tok) (news) : Fn w 2 198 [.int n tk] news (RetI 1) := by
  dsimp only [Fn, RetI]
  k_fill
  k_with_none
  intros
  rename_i hret
  refine wpAny_call ?_
  k_dflt cell_enter
  k_steps
  all_goals first
    | (exfalso; omega)
    | (refine' cb_retI hret ?e ?F ?N; (case N => k_asm); (case F => k_asm); (case e => first | rfl))
    | (refine' cb_retI hret ?e ?F (ntl ?N); (case N => k_asm); (case F => k_asm); (case e => first | rfl))
    | (refine' cb_retI hret ?e ?F (ntl (ntl ?N)); (case N => k_asm); (case F => k_asm); (case e => first | rfl))
    | (refine' cb_retI hret ?e ?F (ntl (ntl (ntl ?N))); (case N => k_asm); (case F => k_asm); (case e => first | rfl))
theorem top_of_ratio_spec (x : Addr) (t b : Int) (news) (hx : IsRatio w news x t b) : Fn w 2 191 [.ref x] news (RetI t) := by
  obtain ⟨xd, xa, xb, xu, xv, hx, hd⟩ := hx
  dsimp only [Fn, RetI]
  k_fill
  k_with_none
  intros
  rename_i hret
  refine wpAny_call ?_
  k_dflt cell_enter
  k_steps
  all_goals first
    | (exfalso; omega)
    | (refine' cb_retI hret ?e ?F ?N; (case N => k_asm); (case F => k_asm); (case e => first | rfl))
    | (refine' cb_retI hret ?e ?F (ntl ?N); (case N => k_asm); (case F => k_asm); (case e => first | rfl))
    | (refine' cb_retI hret ?e ?F (ntl (ntl ?N)); (case N => k_asm); (case F => k_asm); (case e => first | rfl))
    | (refine' cb_retI hret ?e ?F (ntl (ntl (ntl ?N))); (case N => k_asm); (case F => k_asm); (case e => first | rfl))
theorem bottom_of_ratio_spec (x : Addr) (t b : Int) (news) (hx : IsRatio w news x t b) : Fn w 2 198 [.ref x] news (RetI b) := by
  obtain ⟨xd, xa, xb, xu, xv, hx, hd⟩ := hx
  dsimp only [Fn, RetI]
  k_fill
  k_with_none
  intros
  rename_i hret
  refine wpAny_call ?_
  k_dflt cell_enter
  k_steps
  all_goals first
    | (exfalso; omega)
    | (refine' cb_retI hret ?e ?F ?N; (case N => k_asm); (case F => k_asm); (case e => first | rfl))
    | (refine' cb_retI hret ?e ?F (ntl ?N); (case N => k_asm); (case F => k_asm); (case e => first | rfl))
    | (refine' cb_retI hret ?e ?F (ntl (ntl ?N)); (case N => k_asm); (case F => k_asm); (case e => first | rfl))
    | (refine' cb_retI hret ?e ?F (ntl (ntl (ntl ?N))); (case N => k_asm); (case F => k_asm); (case e => first | rfl))
local macro_rules | `(tactic| walk_at "call ref") => `(tactic| (k_here; first | ((with_reducible show wpAny _ _ (call (Value.ref 198) _ _) _ _ _); o_head (bottom_of_ratio_spec _ _ _ _ _ ?hx); walk_at "mine.hx"; walk_at "mine.i") | ((with_reducible show wpAny _ _ (call (Value.ref 191) _ _) _ _ _); o_head (top_of_ratio_spec _ _ _ _ _ ?hx); walk_at "mine.hx"; walk_at "mine.i") | ((with_reducible show wpAny _ _ (call (Value.ref 198) _ _) _ _ _); o_head (bottom_of_int_spec _ _ _ _); walk_at "mine.i") | ((with_reducible show wpAny _ _ (call (Value.ref 191) _ _) _ _ _); o_head (top_of_int_spec _ _ _ _); walk_at "mine.i")))
theorem sgn (n : Int) : b2i (decide (0 < n)) - b2i (decide (n < 0)) = n.sign := by
  rcases Int.lt_trichotomy n 0 with h | rfl | h
  · rw [Int.sign_eq_neg_one_of_neg h, decide_eq_false (by omega), decide_eq_true h]; rfl
  · rfl
  · rw [Int.sign_eq_one_of_pos h, decide_eq_true h, decide_eq_false (by omega)]; rfl
theorem sign_of_exact_int_spec (n : Int) (tk : Tok) (news) : Fn w 4 212 [.int n tk] news (RetI n.sign) := by
  dsimp only [Fn, RetI]
  k_fill
  k_with_none
  intros
  rename_i hret
  refine wpAny_call ?_
  k_dflt cell_enter
  k_steps
  all_goals first
    | (exfalso; omega)
    | (refine' cb_retI hret ?e ?F ?N; (case N => k_asm); (case F => k_asm); (case e => first | exact sgn _))
    | (refine' cb_retI hret ?e ?F (ntl ?N); (case N => k_asm); (case F => k_asm); (case e => first | exact sgn _))
    | (refine' cb_retI hret ?e ?F (ntl (ntl ?N)); (case N => k_asm); (case F => k_asm); (case e => first | exact sgn _))
    | (refine' cb_retI hret ?e ?F (ntl (ntl (ntl ?N))); (case N => k_asm); (case F => k_asm); (case e => first | exact sgn _))
theorem sign_of_exact_ratio_spec (x : Addr) (t b : Int) (news) (hx : IsRatio w news x t b) : Fn w 4 212 [.ref x] news (RetI t.sign) := by
  obtain ⟨xd, xa, xb, xu, xv, hx, hd⟩ := hx
  dsimp only [Fn, RetI]
  k_fill
  k_with_none
  intros
  rename_i hret
  refine wpAny_call ?_
  k_dflt cell_enter
  k_steps
  all_goals first
    | (exfalso; omega)
    | (refine' cb_retI hret ?e ?F ?N; (case N => k_asm); (case F => k_asm); (case e => first | exact sgn _))
    | (refine' cb_retI hret ?e ?F (ntl ?N); (case N => k_asm); (case F => k_asm); (case e => first | exact sgn _))
    | (refine' cb_retI hret ?e ?F (ntl (ntl ?N)); (case N => k_asm); (case F => k_asm); (case e => first | exact sgn _))
    | (refine' cb_retI hret ?e ?F (ntl (ntl (ntl ?N))); (case N => k_asm); (case F => k_asm); (case e => first | exact sgn _))
theorem sign_of_real_spec (x : Addr) (n e : Int) (news) (hx : IsReal w news x n e) : Fn w 4 149 [.ref x] news (RetI n.sign) := by
  obtain ⟨xd, xa, xb, xu, xv, hx, hd⟩ := hx
  dsimp only [Fn, RetI]
  k_fill
  k_with_none
  intros
  rename_i hret
  refine wpAny_call ?_
  k_dflt cell_enter
  k_steps
  all_goals first
    | (exfalso; omega)
    | (refine' cb_retI hret ?e ?F ?N; (case N => k_asm); (case F => k_asm); (case e => first | rfl))
    | (refine' cb_retI hret ?e ?F (ntl ?N); (case N => k_asm); (case F => k_asm); (case e => first | rfl))
    | (refine' cb_retI hret ?e ?F (ntl (ntl ?N)); (case N => k_asm); (case F => k_asm); (case e => first | rfl))
    | (refine' cb_retI hret ?e ?F (ntl (ntl (ntl ?N))); (case N => k_asm); (case F => k_asm); (case e => first | rfl))
theorem inexact_int_spec (n : Int) (tk : Tok) (news) : Fn w 2 247 [.int n tk] news (RetB false) := by
  dsimp only [Fn, RetB]
  k_fill
  k_with_none
  intros
  rename_i hret
  refine wpAny_call ?_
  k_dflt cell_enter
  k_steps
  all_goals first
    | (exfalso; omega)
    | (refine' ret_b hret ?e ?F ?N; (case N => k_asm); (case F => k_asm); (case e => first | rfl))
    | (refine' ret_b hret ?e ?F (ntl ?N); (case N => k_asm); (case F => k_asm); (case e => first | rfl))
    | (refine' ret_b hret ?e ?F (ntl (ntl ?N)); (case N => k_asm); (case F => k_asm); (case e => first | rfl))
    | (refine' ret_b hret ?e ?F (ntl (ntl (ntl ?N))); (case N => k_asm); (case F => k_asm); (case e => first | rfl))
theorem inexact_ratio_spec (x : Addr) (t b : Int) (news) (hx : IsRatio w news x t b) : Fn w 2 247 [.ref x] news (RetB false) := by
  obtain ⟨xd, xa, xb, xu, xv, hx, hd⟩ := hx
  dsimp only [Fn, RetB]
  k_fill
  k_with_none
  intros
  rename_i hret
  refine wpAny_call ?_
  k_dflt cell_enter
  k_steps
  all_goals first
    | (exfalso; omega)
    | (refine' ret_b hret ?e ?F ?N; (case N => k_asm); (case F => k_asm); (case e => first | rfl))
    | (refine' ret_b hret ?e ?F (ntl ?N); (case N => k_asm); (case F => k_asm); (case e => first | rfl))
    | (refine' ret_b hret ?e ?F (ntl (ntl ?N)); (case N => k_asm); (case F => k_asm); (case e => first | rfl))
    | (refine' ret_b hret ?e ?F (ntl (ntl (ntl ?N))); (case N => k_asm); (case F => k_asm); (case e => first | rfl))
theorem inexact_real_spec (x : Addr) (n e : Int) (news) (hx : IsReal w news x n e) : Fn w 2 247 [.ref x] news (RetB true) := by
  obtain ⟨xd, xa, xb, xu, xv, hx, hd⟩ := hx
  dsimp only [Fn, RetB]
  k_fill
  k_with_none
  intros
  rename_i hret
  refine wpAny_call ?_
  k_dflt cell_enter
  k_steps
  all_goals first
    | (exfalso; omega)
    | (refine' ret_b hret ?e ?F ?N; (case N => k_asm); (case F => k_asm); (case e => first | rfl))
    | (refine' ret_b hret ?e ?F (ntl ?N); (case N => k_asm); (case F => k_asm); (case e => first | rfl))
    | (refine' ret_b hret ?e ?F (ntl (ntl ?N)); (case N => k_asm); (case F => k_asm); (case e => first | rfl))
    | (refine' ret_b hret ?e ?F (ntl (ntl (ntl ?N))); (case N => k_asm); (case F => k_asm); (case e => first | rfl))
local macro_rules | `(tactic| walk_at "call ref") => `(tactic| (k_here; first | ((with_reducible show wpAny _ _ (call (Value.ref 247) _ _) _ _ _); o_head (inexact_real_spec _ _ _ _ _ ?hx); walk_at "mine.hx"; walk_at "mine.i") | ((with_reducible show wpAny _ _ (call (Value.ref 247) _ _) _ _ _); o_head (inexact_ratio_spec _ _ _ _ _ ?hx); walk_at "mine.hx"; walk_at "mine.i") | ((with_reducible show wpAny _ _ (call (Value.ref 247) _ _) _ _ _); o_head (inexact_int_spec _ _ _ _); walk_at "mine.i") | ((with_reducible show wpAny _ _ (call (Value.ref 149) _ _) _ _ _); o_head (sign_of_real_spec _ _ _ _ _ ?hx); walk_at "mine.hx"; walk_at "mine.i") | ((with_reducible show wpAny _ _ (call (Value.ref 212) _ _) _ _ _); o_head (sign_of_exact_ratio_spec _ _ _ _ _ ?hx); walk_at "mine.hx"; walk_at "mine.i") | ((with_reducible show wpAny _ _ (call (Value.ref 212) _ _) _ _ _); o_head (sign_of_exact_int_spec _ _ _ _); walk_at "mine.i")))
theorem sign_int_spec (n : Int) (tk : Tok) (news) : Fn w 6 254 [.int n tk] news (RetI n.sign) := by
  dsimp only [Fn, RetI]
  k_fill
  k_with_none
  intros
  rename_i hret
  refine wpAny_call ?_
  k_dflt cell_enter
  k_steps
  all_goals first
    | (exfalso; omega)
    | (refine' cb_retI hret ?e ?F ?N; (case N => k_asm); (case F => k_asm); (case e => first | rfl))
    | (refine' cb_retI hret ?e ?F (ntl ?N); (case N => k_asm); (case F => k_asm); (case e => first | rfl))
    | (refine' cb_retI hret ?e ?F (ntl (ntl ?N)); (case N => k_asm); (case F => k_asm); (case e => first | rfl))
    | (refine' cb_retI hret ?e ?F (ntl (ntl (ntl ?N))); (case N => k_asm); (case F => k_asm); (case e => first | rfl))
theorem sign_ratio_spec (x : Addr) (t b : Int) (news) (hx : IsRatio w news x t b) : Fn w 6 254 [.ref x] news (RetI t.sign) := by
  obtain ⟨xd, xa, xb, xu, xv, hx, hd⟩ := hx
  dsimp only [Fn, RetI]
  k_fill
  k_with_none
  intros
  rename_i hret
  refine wpAny_call ?_
  k_dflt cell_enter
  k_steps
  all_goals first
    | (exfalso; omega)
    | (refine' cb_retI hret ?e ?F ?N; (case N => k_asm); (case F => k_asm); (case e => first | rfl))
    | (refine' cb_retI hret ?e ?F (ntl ?N); (case N => k_asm); (case F => k_asm); (case e => first | rfl))
    | (refine' cb_retI hret ?e ?F (ntl (ntl ?N)); (case N => k_asm); (case F => k_asm); (case e => first | rfl))
    | (refine' cb_retI hret ?e ?F (ntl (ntl (ntl ?N))); (case N => k_asm); (case F => k_asm); (case e => first | rfl))
theorem sign_real_spec (x : Addr) (n e : Int) (news) (hx : IsReal w news x n e) : Fn w 6 254 [.ref x] news (RetI n.sign) := by
  obtain ⟨xd, xa, xb, xu, xv, hx, hd⟩ := hx
  dsimp only [Fn, RetI]
  k_fill
  k_with_none
  intros
  rename_i hret
  refine wpAny_call ?_
  k_dflt cell_enter
  k_steps
  all_goals first
    | (exfalso; omega)
    | (refine' cb_retI hret ?e ?F ?N; (case N => k_asm); (case F => k_asm); (case e => first | rfl))
    | (refine' cb_retI hret ?e ?F (ntl ?N); (case N => k_asm); (case F => k_asm); (case e => first | rfl))
    | (refine' cb_retI hret ?e ?F (ntl (ntl ?N)); (case N => k_asm); (case F => k_asm); (case e => first | rfl))
    | (refine' cb_retI hret ?e ?F (ntl (ntl (ntl ?N))); (case N => k_asm); (case F => k_asm); (case e => first | rfl))
theorem made_spec (t b : Int) (t1 t2 : Tok) (news) : Fn w 5 205 [.int t t1, .int b t2] news (RetMade t b) := by
  dsimp only [Fn, RetMade, RetI, RetRatio]
  k_fill
  k_with_none
  intros
  rename_i hret
  refine wpAny_call ?_
  k_dflt cell_enter
  obtain ⟨hr1, hr2⟩ := hret
  k_steps
  all_goals first
    | exact hr1 (by assumption) _ _ _ (by k_asm) (by k_asm)
    | exact hr2 (by assumption) _ _ _ _ _ _ _ _ (by k_asm) (by k_asm)
-- S6
local macro_rules | `(tactic| walk_at "call ref") => `(tactic| (k_here; first | ((with_reducible show wpAny _ _ (call (Value.ref 205) _ _) _ _ _); o_head (made_spec _ _ _ _ _ _); walk_at "mine.tsq") | ((with_reducible show wpAny _ _ (call (Value.ref 233) _ _) _ _ _); o_head (root_of_degree_spec _ _ _ _ (by walk_at "mine.ro") (by walk_at "mine.ro") _); walk_at "mine.i") | ((with_reducible show wpAny _ _ (call (Value.ref 219) _ _) _ _ _); o_head (power_two_spec _ _ _ _ (by walk_at "mine.pow") _); walk_at "mine.i")))
theorem isq_in {n : Int} (h : 0 ≤ n) : 0 ≤ isq n ∧ isq n ≤ n := ⟨isq_nonneg n, isq_le_self h⟩
abbrev RetEx (t b : Int) : Ret := fun w h₀ L m news s Q E => (isq t * isq t = t ∧ isq b * isq b = b → RetMade (isq t) (isq b) w h₀ L m news s Q E) ∧ (¬ (isq t * isq t = t ∧ isq b * isq b = b) → RetNone w h₀ L m news s Q E)
theorem exact_root_int_spec (n : Int) (t1 t2 : Tok) (h0 : 0 ≤ n) (h1 : n < 2 ^ 60) (news) : Fn w 8 240 [.int n t1, .int 2 t2] news (RetEx n 1) := by
  dsimp only [Fn, RetEx, RetMade, RetI, RetRatio, RetNone]
  k_fill
  k_with_none
  intros
  rename_i hret
  refine wpAny_call ?_
  k_dflt cell_enter
  obtain ⟨hr1, hr2⟩ := hret
  have hq := isq_in h0
  have hq1 := isq_one
  k_steps
  all_goals first
    | (exfalso; omega)
    | (refine' ret_none (hr2 ?c) trivial ?F (ntl ?N); (case N => k_asm); (case F => k_asm); (case c => first | exact fun q => absurd q.1 (by assumption) | exact fun q => absurd q.2 (by assumption)))
    | (refine' cb_retI ((hr1 ⟨?c1, ?c2⟩).1 ?c3) rfl ?F (ntl ?N); (case N => k_asm); (case F => k_asm); (case c1 => assumption); (case c2 => first | assumption | rfl); (case c3 => assumption))
    | (refine' ret_ratio ((hr1 ⟨?c1, ?c2⟩).2 ?c3) ⟨rfl, rfl⟩ ?F (nm1 ?N); (case N => k_asm); (case F => k_asm); (case c1 => assumption); (case c2 => first | assumption | rfl); (case c3 => assumption))
theorem exact_root_ratio_spec (x : Addr) (t b : Int) (t2 : Tok) (h0 : 0 ≤ t) (h1 : t < 2 ^ 60) (h2 : 0 ≤ b) (h3 : b < 2 ^ 60) (news) (hx : IsRatio w news x t b) : Fn w 8 240 [.ref x, .int 2 t2] news (RetEx t b) := by
  obtain ⟨xd, xa, xb, xu, xv, hx, hd⟩ := hx
  dsimp only [Fn, RetEx, RetMade, RetI, RetRatio, RetNone]
  k_fill
  k_with_none
  intros
  rename_i hret
  refine wpAny_call ?_
  k_dflt cell_enter
  obtain ⟨hr1, hr2⟩ := hret
  have hq := isq_in h0
  have hq1 := isq_in h2
  k_steps
  all_goals first
    | (exfalso; omega)
    | (refine' ret_none (hr2 ?c) trivial ?F (ntl ?N); (case N => k_asm); (case F => k_asm); (case c => first | exact fun q => absurd q.1 (by assumption) | exact fun q => absurd q.2 (by assumption)))
    | (refine' cb_retI ((hr1 ⟨?c1, ?c2⟩).1 ?c3) rfl ?F (ntl ?N); (case N => k_asm); (case F => k_asm); (case c1 => assumption); (case c2 => first | assumption | rfl); (case c3 => assumption))
    | (refine' ret_ratio ((hr1 ⟨?c1, ?c2⟩).2 ?c3) ⟨rfl, rfl⟩ ?F (nm1 ?N); (case N => k_asm); (case F => k_asm); (case c1 => assumption); (case c2 => first | assumption | rfl); (case c3 => assumption))
-- S7
theorem dm_mine {prog : Program} {A : Around} {E : Value → Shared → Prop} {s : Shared} {a b : Int} {t u : Tok} {Q : Value → Shared → Prop} {h₀ : Heap} {L : Addr} {m : Str → Option Value} {news : List (Addr × Obj)}
    (F : Fr h₀ L s.heap m) (N : News h₀ L s.heap news) (hb : 0 < b ∧ b < 2 ^ 62)
    (h : ∀ h', Fr h₀ L h' m → News h₀ L h' ((s.heap.objs.size, { cls := .type "tuple", data := .seq #[.int (a.fdiv b) s.toks, .int (a.fmod b) (s.toks + 1)] }) :: news) →
      Q (.ref s.heap.objs.size) { s with toks := s.toks + 1 + 1, heap := h' }) :
    wpAny (model prog w) A (call (.builtin "divmod") [.int a t, .int b u]) Q E s :=
  divmod_N F N (by omega) h (Or.inl (PyProof.noPylong_of_log2 (by
    have h0 : b.natAbs ≠ 0 := by omega
    have : b.natAbs.log2 < 62 := (Nat.log2_lt h0).mpr (by omega)
    omega)))
local macro_rules | `(tactic| walk_at "call builtin:divmod") => `(tactic| (k_here; (with_reducible show wpAny _ _ (call (Value.builtin _) [Value.int _ _, Value.int _ _]) _ _ _); (refine' dm_mine _ ?k1 ?k2 ?mb ?_; (case k1 => k_asm); (case k2 => k_asm); (case mb => first | decide | omega | k_extra "div")); k_whole; intro h' F' N'))
local macro_rules | `(tactic| walk_at "call ref") => `(tactic| (k_here; first | ((with_reducible show wpAny _ _ (call (Value.ref 135) _ _) _ _ _); o_head (shifted_round_spec _ _ _ _ _ _ _ (by walk_at "mine.sround") (by walk_at "mine.sround") (by walk_at "mine.sround") (by walk_at "mine.sround") _); walk_at "mine.i") | ((with_reducible show wpAny _ _ (call (Value.ref 156) _ _) _ _ _); o_head (root_below_spec _ _ _ (by walk_at "mine.ro") (by walk_at "mine.ro") _); walk_at "mine.i") | ((with_reducible show wpAny _ _ (call (Value.ref 226) _ _) _ _ _); o_head (root_exact_spec _ _ _ (by walk_at "mine.ro") (by walk_at "mine.ro") _); walk_at "mine.i")))
theorem rt_shift {p t b : Int} (hp : 2 ≤ p ∧ p ≤ 9) (ht : 0 < t ∧ t < 2 ^ 20) (hb : 0 < b ∧ b < 2 ^ 10) : 0 ≤ 2 * shR p t b ∧ 2 * shR p t b ≤ 1000000 := by
  have := shR_in hp ht.1 hb; omega
theorem rt_lo {p t b : Int} (hp : 2 ≤ p ∧ p ≤ 9) (ht : 0 < t ∧ t < 2 ^ 20) (hb : 0 < b ∧ b < 2 ^ 10) : 0 ≤ (t * 2 ^ (2 * shR p t b).toNat).fdiv b := Int.le_trans (Int.le_of_lt (two_pow_pos _)) (scaled_in hp ht hb).1
theorem rt_hi {p t b : Int} (hp : 2 ≤ p ∧ p ≤ 9) (ht : 0 < t ∧ t < 2 ^ 20) (hb : 0 < b ∧ b < 2 ^ 10) : (t * 2 ^ (2 * shR p t b).toNat).fdiv b < 2 ^ 60 := Int.lt_trans (scaled_in hp ht hb).2 (by decide)
theorem b2i_01 (c : Bool) : (if c = true then (1 : Int) else 0) = 0 ∨ (if c = true then (1 : Int) else 0) = 1 := by cases c <;> decide
theorem rt_v {p t b : Int} (hp : 2 ≤ p ∧ p ≤ 9) (ht : 0 < t ∧ t < 2 ^ 20) (hb : 0 < b ∧ b < 2 ^ 10) (c : Bool) :
    0 < 2 * isq ((t * 2 ^ (2 * shR p t b).toNat).fdiv b) + (if c = true then 1 else 0) := (v_in (scaled_in hp ht hb).1 (scaled_in hp ht hb).2 (b2i_01 c)).1
theorem rt_g {p t b : Int} (hp : 2 ≤ p ∧ p ≤ 9) (ht : 0 < t ∧ t < 2 ^ 20) (hb : 0 < b ∧ b < 2 ^ 10) (c : Bool) :
    1 ≤ bitsI (2 * isq ((t * 2 ^ (2 * shR p t b).toNat).fdiv b) + (if c = true then 1 else 0)) - p ∧ bitsI (2 * isq ((t * 2 ^ (2 * shR p t b).toNat).fdiv b) + (if c = true then 1 else 0)) - p ≤ 100 := by
  have := v_in (scaled_in hp ht hb).1 (scaled_in hp ht hb).2 (b2i_01 c)
  omega
theorem rt_e {p t b : Int} (hp : 2 ≤ p ∧ p ≤ 9) (ht : 0 < t ∧ t < 2 ^ 20) (hb : 0 < b ∧ b < 2 ^ 10) : -500 ≤ 0 - shR p t b - 1 ∧ 0 - shR p t b - 1 ≤ 500 := by
  have := shR_in hp ht.1 hb; omega
theorem rt_end {p t b : Int} (hp : 2 ≤ p ∧ p ≤ 9) (ht : 0 < t ∧ t < 2 ^ 20) (hb : 0 < b ∧ b < 2 ^ 10) (c : Bool)
    (hc : c = true ↔ ((t * 2 ^ (2 * shR p t b).toNat).fmod b ≠ 0 ∨ (t * 2 ^ (2 * shR p t b).toNat).fdiv b - isq ((t * 2 ^ (2 * shR p t b).toNat).fdiv b) * isq ((t * 2 ^ (2 * shR p t b).toNat).fdiv b) ≠ 0)) {v : Int}
    (hv : v = 2 * isq ((t * 2 ^ (2 * shR p t b).toNat).fdiv b) + (if c = true then 1 else 0)) :
    oddp (nsV v (bitsI v - p)) = (near p.toNat t b).1 ∧ 0 - shR p t b - 1 + (bitsI v - p) + tzp (nsV v (bitsI v - p)) = (near p.toNat t b).2 := by
  refine ratio_near hp ht hb rfl ?_ hv
  cases c
  · refine .inr ⟨?_, by rfl⟩
    rcases Classical.em ((t * 2 ^ (2 * shR p t b).toNat).fmod b = 0) with q | q
    · rcases Classical.em ((t * 2 ^ (2 * shR p t b).toNat).fdiv b - isq ((t * 2 ^ (2 * shR p t b).toNat).fdiv b) * isq ((t * 2 ^ (2 * shR p t b).toNat).fdiv b) = 0) with r | r
      · exact ⟨q, r⟩
      · exact absurd (hc.mpr (.inr r)) (by decide)
    · exact absurd (hc.mpr (.inl q)) (by decide)
  · exact .inl ⟨hc.mp rfl, by rfl⟩
theorem or_A {x y : Int} (h : x ≠ 0) : (x != 0) = true ↔ (x ≠ 0 ∨ y ≠ 0) := ⟨fun _ => .inl h, fun _ => by simpa using h⟩
theorem or_A2 {x y : Int} (h : (x != 0) = true) : (x != 0) = true ↔ (x ≠ 0 ∨ y ≠ 0) := or_A (by simpa using h)
theorem or_B {x y : Int} (h : x = 0) : (y != 0) = true ↔ (x ≠ 0 ∨ y ≠ 0) := ⟨fun q => .inr (by simpa using q), fun q => by simpa [h] using q⟩
theorem or_B2 {x y : Int} (h : ¬ x ≠ 0) : (y != 0) = true ↔ (x ≠ 0 ∨ y ≠ 0) := or_B (by simpa using h)
theorem or_B3 {x y : Int} (h : ¬ (x != 0) = true) : (y != 0) = true ↔ (x ≠ 0 ∨ y ≠ 0) := or_B (by simpa using h)
theorem sqrt_of_ratio_int_spec (p n : Int) (t1 t2 : Tok) (hp : 2 ≤ p ∧ p ≤ 9) (ht : 0 < n ∧ n < 2 ^ 20) (news) : Fn w 11 261 [.int p t1, .int n t2] news (RetReal (near p.toNat n 1).1 (near p.toNat n 1).2) := by
  dsimp only [Fn, RetReal]
  k_fill
  k_with_none
  intros
  rename_i hret
  refine wpAny_call ?_
  k_dflt cell_enter
  have hb : (0 : Int) < 1 ∧ (1 : Int) < 2 ^ 10 := by decide
  k_with "shift" => exact rt_shift hp ht hb
  k_with "root" => first | exact rt_lo hp ht hb | exact rt_hi hp ht hb
  k_with "sround" => first | exact rt_v hp ht hb _ | exact rt_g hp ht hb _ | exact rt_e hp ht hb
  k_steps
  all_goals first
    | (exfalso; omega)
    | (refine' ret_real hret ?e ?F ?N; (case N => k_asm); (case F => k_asm); (case e => first | (refine rt_end hp ht hb _ ?_ rfl; first | exact or_A (by assumption) | exact or_A2 (by assumption) | exact or_B (by assumption) | exact or_B2 (by assumption) | exact or_B3 (by assumption))))
    | (refine' ret_real hret ?e ?F (nm1 ?N); (case N => k_asm); (case F => k_asm); (case e => first | (refine rt_end hp ht hb _ ?_ rfl; first | exact or_A (by assumption) | exact or_A2 (by assumption) | exact or_B (by assumption) | exact or_B2 (by assumption) | exact or_B3 (by assumption))))
    | (refine' ret_real hret ?e ?F (nm2 ?N); (case N => k_asm); (case F => k_asm); (case e => first | (refine rt_end hp ht hb _ ?_ rfl; first | exact or_A (by assumption) | exact or_A2 (by assumption) | exact or_B (by assumption) | exact or_B2 (by assumption) | exact or_B3 (by assumption))))
    | (refine' ret_real hret ?e ?F (nm3 ?N); (case N => k_asm); (case F => k_asm); (case e => first | (refine rt_end hp ht hb _ ?_ rfl; first | exact or_A (by assumption) | exact or_A2 (by assumption) | exact or_B (by assumption) | exact or_B2 (by assumption) | exact or_B3 (by assumption))))
    | (refine' ret_real hret ?e ?F (nm4 ?N); (case N => k_asm); (case F => k_asm); (case e => first | (refine rt_end hp ht hb _ ?_ rfl; first | exact or_A (by assumption) | exact or_A2 (by assumption) | exact or_B (by assumption) | exact or_B2 (by assumption) | exact or_B3 (by assumption))))
theorem sqrt_of_ratio_ratio_spec (p : Int) (x : Addr) (t b : Int) (t1 : Tok) (hp : 2 ≤ p ∧ p ≤ 9) (ht : 0 < t ∧ t < 2 ^ 20) (hb : 0 < b ∧ b < 2 ^ 10) (news) (hx : IsRatio w news x t b) : Fn w 11 261 [.int p t1, .ref x] news (RetReal (near p.toNat t b).1 (near p.toNat t b).2) := by
  obtain ⟨xd, xa, xb, xu, xv, hx, hd⟩ := hx
  dsimp only [Fn, RetReal]
  k_fill
  k_with_none
  intros
  rename_i hret
  refine wpAny_call ?_
  k_dflt cell_enter
  k_with "shift" => exact rt_shift hp ht hb
  k_with "root" => first | exact rt_lo hp ht hb | exact rt_hi hp ht hb
  k_with "sround" => first | exact rt_v hp ht hb _ | exact rt_g hp ht hb _ | exact rt_e hp ht hb
  k_steps
  all_goals first
    | (exfalso; omega)
    | (refine' ret_real hret ?e ?F ?N; (case N => k_asm); (case F => k_asm); (case e => first | (refine rt_end hp ht hb _ ?_ rfl; first | exact or_A (by assumption) | exact or_A2 (by assumption) | exact or_B (by assumption) | exact or_B2 (by assumption) | exact or_B3 (by assumption))))
    | (refine' ret_real hret ?e ?F (nm1 ?N); (case N => k_asm); (case F => k_asm); (case e => first | (refine rt_end hp ht hb _ ?_ rfl; first | exact or_A (by assumption) | exact or_A2 (by assumption) | exact or_B (by assumption) | exact or_B2 (by assumption) | exact or_B3 (by assumption))))
    | (refine' ret_real hret ?e ?F (nm2 ?N); (case N => k_asm); (case F => k_asm); (case e => first | (refine rt_end hp ht hb _ ?_ rfl; first | exact or_A (by assumption) | exact or_A2 (by assumption) | exact or_B (by assumption) | exact or_B2 (by assumption) | exact or_B3 (by assumption))))
    | (refine' ret_real hret ?e ?F (nm3 ?N); (case N => k_asm); (case F => k_asm); (case e => first | (refine rt_end hp ht hb _ ?_ rfl; first | exact or_A (by assumption) | exact or_A2 (by assumption) | exact or_B (by assumption) | exact or_B2 (by assumption) | exact or_B3 (by assumption))))
    | (refine' ret_real hret ?e ?F (nm4 ?N); (case N => k_asm); (case F => k_asm); (case e => first | (refine rt_end hp ht hb _ ?_ rfl; first | exact or_A (by assumption) | exact or_A2 (by assumption) | exact or_B (by assumption) | exact or_B2 (by assumption) | exact or_B3 (by assumption))))
noncomputable abbrev shB (p m e : Int) : Int := sh0 p m + Builtin.bitAnd (e - sh0 p m) 1
theorem shB_eq (p m e : Int) : shB p m e = shX p m e := by unfold shB shX; rw [bitAnd_m1]
theorem rr_s0 {p m : Int} (hp : 2 ≤ p ∧ p ≤ 9) (e : Int) (hm : 0 < m ∧ m ≤ 512) : 0 ≤ shB p m e ∧ shB p m e ≤ 1000000 := by
  rw [shB_eq]; have := shX_in (e := e) hp hm.1; omega
theorem rr_lo {p m e : Int} (hp : 2 ≤ p ∧ p ≤ 9) (hm : 0 < m ∧ m ≤ 512) : 0 ≤ m * 2 ^ (shB p m e).toNat := by
  rw [shB_eq]; exact Int.le_trans (Int.le_of_lt (two_pow_pos _)) (number_in hp hm).1
theorem rr_hi {p m e : Int} (hp : 2 ≤ p ∧ p ≤ 9) (hm : 0 < m ∧ m ≤ 512) : m * 2 ^ (shB p m e).toNat < 2 ^ 60 := by
  rw [shB_eq]; exact Int.lt_trans (number_in hp hm).2 (by decide)
theorem rr_mul {p m e : Int} (hp : 2 ≤ p ∧ p ≤ 9) (hm : 0 < m ∧ m ≤ 512) : -(2 ^ 64) < isq (m * 2 ^ (shB p m e).toNat) ∧ isq (m * 2 ^ (shB p m e).toNat) < 2 ^ 64 := by
  have a := isq_nonneg (m * 2 ^ (shB p m e).toNat)
  have b := isq_le_self (rr_lo (e := e) hp hm)
  have c := rr_hi (e := e) hp hm
  omega
theorem rr_v {p m e : Int} (hp : 2 ≤ p ∧ p ≤ 9) (hm : 0 < m ∧ m ≤ 512) (c : Bool) : 0 < 2 * isq (m * 2 ^ (shB p m e).toNat) + (if c = true then 1 else 0) := by
  rw [shB_eq]; exact (v_in (number_in hp hm).1 (number_in hp hm).2 (b2i_01 c)).1
theorem rr_g {p m e : Int} (hp : 2 ≤ p ∧ p ≤ 9) (hm : 0 < m ∧ m ≤ 512) (c : Bool) :
    1 ≤ bitsI (2 * isq (m * 2 ^ (shB p m e).toNat) + (if c = true then 1 else 0)) - p ∧ bitsI (2 * isq (m * 2 ^ (shB p m e).toNat) + (if c = true then 1 else 0)) - p ≤ 100 := by
  rw [shB_eq]
  have := v_in (number_in (e := e) hp hm).1 (number_in hp hm).2 (b2i_01 c)
  omega
theorem rr_e {p m e : Int} (hp : 2 ≤ p ∧ p ≤ 9) (hm : 0 < m ∧ m ≤ 512) (he : -20 ≤ e ∧ e ≤ 20) : -500 ≤ (e - shB p m e).fdiv 2 - 1 ∧ (e - shB p m e).fdiv 2 - 1 ≤ 500 := by
  rw [shB_eq, Int.fdiv_eq_ediv_of_nonneg _ (by decide)]; have := shX_in (e := e) hp hm.1; omega
theorem rr_end {p m e : Int} (hp : 2 ≤ p ∧ p ≤ 9) (hm : 0 < m ∧ m ≤ 512) {v : Int} (hv : v = 2 * isq (m * 2 ^ (shB p m e).toNat) + (if (isq (m * 2 ^ (shB p m e).toNat) * isq (m * 2 ^ (shB p m e).toNat) != m * 2 ^ (shB p m e).toNat) = true then 1 else 0)) :
    oddp (nsV v (bitsI v - p)) = (near p.toNat (frT m e) (frB e)).1 ∧ (e - shB p m e).fdiv 2 - 1 + (bitsI v - p) + tzp (nsV v (bitsI v - p)) = (near p.toNat (frT m e) (frB e)).2 := by
  rw [shB_eq] at *
  refine real_near hp hm rfl ?_ hv
  rcases Classical.em (isq (m * 2 ^ (shX p m e).toNat) * isq (m * 2 ^ (shX p m e).toNat) = m * 2 ^ (shX p m e).toNat) with q | q
  · exact .inr ⟨q, if_neg (by simpa using q)⟩
  · exact .inl ⟨q, if_pos (by simpa using q)⟩
theorem sqrt_real_spec (p : Int) (x : Addr) (n e : Int) (t1 : Tok) (hp : 2 ≤ p ∧ p ≤ 9) (hm : 0 < n ∧ n ≤ 512) (he : -20 ≤ e ∧ e ≤ 20) (news) (hx : IsReal w news x n e) : Fn w 11 163 [.int p t1, .ref x] news (RetReal (near p.toNat (frT n e) (frB e)).1 (near p.toNat (frT n e) (frB e)).2) := by
  obtain ⟨xd, xa, xb, xu, xv, hx, hd⟩ := hx
  dsimp only [Fn, RetReal]
  k_fill
  k_with_none
  intros
  rename_i hret
  refine wpAny_call ?_
  k_dflt cell_enter
  k_with "shift" => exact rr_s0 hp _ hm
  k_with "root" => first | exact rr_lo hp hm | exact rr_hi hp hm
  k_with "mul" => exact rr_mul hp hm
  k_with "sround" => first | exact rr_v hp hm _ | exact rr_g hp hm _ | exact rr_e hp hm he
  k_steps
  all_goals first
    | (exfalso; omega)
    | (refine' ret_real hret ?e ?F ?N; (case N => k_asm); (case F => k_asm); (case e => first | exact rr_end hp hm rfl))
    | (refine' ret_real hret ?e ?F (nm1 ?N); (case N => k_asm); (case F => k_asm); (case e => first | exact rr_end hp hm rfl))
    | (refine' ret_real hret ?e ?F (nm2 ?N); (case N => k_asm); (case F => k_asm); (case e => first | exact rr_end hp hm rfl))
    | (refine' ret_real hret ?e ?F (nm3 ?N); (case N => k_asm); (case F => k_asm); (case e => first | exact rr_end hp hm rfl))
    | (refine' ret_real hret ?e ?F (nm4 ?N); (case N => k_asm); (case F => k_asm); (case e => first | exact rr_end hp hm rfl))
/-- a Real of mantissa 0 is handed back -/
abbrev RetV (v : Value) : Ret := fun _ h₀ L m news s Q _ => ∀ (h' : Heap) (tk' : Nat), Fr h₀ L h' m → News h₀ L h' news → Q v { s with heap := h', toks := tk' }
theorem sqrt_real_zero_spec (p : Int) (x : Addr) (e : Int) (t1 : Tok) (news) (hx : IsReal w news x 0 e) : Fn w 11 163 [.int p t1, .ref x] news (RetV (.ref x)) := by
  obtain ⟨xd, xa, xb, xu, xv, hx, hd⟩ := hx
  dsimp only [Fn, RetV]
  k_fill
  k_with_none
  intros
  rename_i hret
  refine wpAny_call ?_
  k_dflt cell_enter
  k_steps
  all_goals exact hret _ _ (by k_asm) (by k_asm)
-- S8
def LowP (t b one other : Int) : Prop := 0 ≤ one ∧ one < 2 ^ 30 ∧ 0 ≤ other ∧ other < 2 ^ 30 ∧ Int.gcd one other = Int.gcd t b
theorem LowP.start {t b : Int} (ht : -(2 ^ 20) < t ∧ t < 2 ^ 20) (hb : 0 < b ∧ b < 2 ^ 20) : LowP t b (if t < 0 then -t else t) b := by
  refine ⟨by split <;> omega, by split <;> omega, by omega, by omega, ?_⟩
  split
  · exact Int.neg_gcd
  · rfl
theorem LowP.turn {t b one other : Int} (h : LowP t b one other) (hl : other ≠ 0) : LowP t b other (one.fmod other) := by
  obtain ⟨h1, h2, h3, h4, h5⟩ := h
  rw [Int.fmod_eq_emod_of_nonneg _ h3]
  have a := Int.emod_nonneg one hl
  have b := Int.emod_lt_of_pos one (show 0 < other by omega)
  refine ⟨h3, h4, a, by omega, ?_⟩
  rw [← h5, Int.gcd_comm one other]
  unfold Int.gcd
  rw [Int.natAbs_emod_of_nonneg h1, Nat.gcd_comm, ← Nat.gcd_rec]
theorem LowP.div {t b one other : Int} (h : LowP t b one other) (hl : other ≠ 0) : 0 < other ∧ other < 2 ^ 62 := by
  have := h.2.2.1
  have := h.2.2.2.1
  omega
theorem LowP.less {t b one other : Int} (h : LowP t b one other) (hl : other ≠ 0) : (one.fmod other).toNat < other.toNat := by
  have p := h.div hl
  rw [Int.fmod_eq_emod_of_nonneg _ h.2.2.1]
  have a := Int.emod_nonneg one hl
  have b := Int.emod_lt_of_pos one p.1
  omega
theorem LowP.done {t b one other : Int} (h : LowP t b one other) (hl : other = 0) : one = (Int.gcd t b : Nat) := by
  obtain ⟨h1, h2, h3, h4, h5⟩ := h
  rw [hl, Int.gcd_zero_right] at h5
  omega
theorem LowP.one {t b one other : Int} (hb : 0 < b) (h : LowP t b one other) (hl : other = 0) : 0 < one ∧ one < 2 ^ 62 := by
  have e := h.done hl
  have g : 0 < Int.gcd t b := Int.gcd_pos_of_ne_zero_right _ (by omega)
  have := h.2.1
  omega
theorem LowP.two {t b one other : Int} (h : LowP t b one other) (hl : other = 0) : t.fdiv one = t.fdiv (Int.gcd t b : Nat) ∧ b.fdiv one = b.fdiv (Int.gcd t b : Nat) := by
  rw [h.done hl]; exact ⟨rfl, rfl⟩
theorem low_spec (t b : Int) (t1 t2 : Tok) (ht : -(2 ^ 20) < t ∧ t < 2 ^ 20) (hb : 0 < b ∧ b < 2 ^ 20) (news) : Fn w 2 275 [.int t t1, .int b t2] news (RetT2 (t.fdiv (Int.gcd t b : Nat)) (b.fdiv (Int.gcd t b : Nat))) := by
  dsimp only [Fn, RetT2]
  k_fill
  k_with_none
  intros
  rename_i hret
  refine wpAny_call ?_
  k_dflt cell_enter
  k_with "div" => first | exact LowP.div (by assumption) (by assumption) | exact LowP.one hb.1 (by assumption) (by assumption)
  k_with "state" => first | exact LowP.start ht hb | exact LowP.turn (by assumption) (by assumption)
  k_with "measure" => exact LowP.less (by assumption) (by assumption)
  k_with "exec While Compare cons nil" => k_while_given ["bottom"] (fun b' script one other => LowP t b one other) (fun b' script one other => other.toNat) "one" "other"
  k_steps
  all_goals first
    | (exfalso; omega)
    | (refine' ret_t2 hret ?e ?F ?N; (case N => k_asm); (case F => k_asm); (case e => first | exact LowP.two (by assumption) (by assumption)))
    | (refine' ret_t2 hret ?e ?F (ns1 ?N); (case N => k_asm); (case F => k_asm); (case e => first | exact LowP.two (by assumption) (by assumption)))
    | (refine' ret_t2 hret ?e ?F (ns2 ?N); (case N => k_asm); (case F => k_asm); (case e => first | exact LowP.two (by assumption) (by assumption)))
    | (refine' ret_t2 hret ?e ?F (ns3 ?N); (case N => k_asm); (case F => k_asm); (case e => first | exact LowP.two (by assumption) (by assumption)))
    | (refine' ret_t2 hret ?e ?F (ns4 ?N); (case N => k_asm); (case F => k_asm); (case e => first | exact LowP.two (by assumption) (by assumption)))
/-- twos struck off -/
def OddP (n e0 m e : Int) : Prop := m ≠ 0 ∧ e0 ≤ e ∧ (m.natAbs : Int) * 2 ^ (e - e0).toNat ≤ 512
theorem OddP.start {n e : Int} (hn : -512 ≤ n ∧ n ≤ 512) (h : n ≠ 0) : OddP n e n e := ⟨h, Int.le_refl _, by rw [Int.sub_self]; show (n.natAbs : Int) * 1 ≤ 512; omega⟩
theorem OddP.turn {n e0 m e : Int} (h : OddP n e0 m e) (hl : m.fmod 2 = 0) : OddP n e0 (m.fdiv 2) (e + 1) := by
  obtain ⟨h1, h2, h3⟩ := h
  rw [Int.fmod_eq_emod_of_nonneg _ (by decide)] at hl
  rw [Int.fdiv_eq_ediv_of_nonneg _ (by decide)]
  refine ⟨by omega, by omega, ?_⟩
  have e1 : (e + 1 - e0).toNat = (e - e0).toNat + 1 := by omega
  have e2 : (m.natAbs : Int) = ((m / 2).natAbs : Int) * 2 := by omega
  rw [e2] at h3
  rw [e1, Int.pow_succ, Int.mul_comm _ 2, ← Int.mul_assoc]
  exact h3
theorem OddP.less {n e0 m e : Int} (h : OddP n e0 m e) (hl : m.fmod 2 = 0) : (m.fdiv 2).natAbs < m.natAbs := by
  have := h.1
  rw [Int.fmod_eq_emod_of_nonneg _ (by decide)] at hl
  rw [Int.fdiv_eq_ediv_of_nonneg _ (by decide)]
  omega
theorem OddP.out {n e0 m e : Int} (h : OddP n e0 m e) (he : -10 ≤ e0 ∧ e0 ≤ 10) : m ≠ 0 ∧ (-512 ≤ m ∧ m ≤ 512) ∧ -20 ≤ e ∧ e ≤ 20 := by
  obtain ⟨h1, h2, h3⟩ := h
  have p := two_pow_pos (e - e0).toNat
  have q : (m.natAbs : Int) * 1 ≤ m.natAbs * 2 ^ (e - e0).toNat := Int.mul_le_mul_of_nonneg_left (by omega) (by omega)
  have r : (1 : Int) * 2 ^ (e - e0).toNat ≤ m.natAbs * 2 ^ (e - e0).toNat := Int.mul_le_mul_of_nonneg_right (by omega) (by omega)
  refine ⟨h1, by omega, by omega, ?_⟩
  refine Int.le_of_not_gt fun z => ?_
  have : (2 : Int) ^ 10 ≤ 2 ^ (e - e0).toNat := two_pow_le (by omega)
  omega
/-- a new Real: 0 with 0, otherwise some mantissa, exponent in their bounds -/
abbrev RetOdd (n : Int) : Ret := fun w h₀ L m news s Q E => (n = 0 → RetReal 0 0 w h₀ L m news s Q E) ∧ (n ≠ 0 → ∀ m' e' : Int, m' ≠ 0 → (-512 ≤ m' ∧ m' ≤ 512) → (-20 ≤ e' ∧ e' ≤ 20) → RetReal m' e' w h₀ L m news s Q E)
theorem law_real_spec (n e : Int) (t1 t2 : Tok) (hn : -512 ≤ n ∧ n ≤ 512) (he : -10 ≤ e ∧ e ≤ 10) (news) : Fn w 5 282 [.int n t1, .int e t2] news (RetOdd n) := by
  dsimp only [Fn, RetOdd, RetReal]
  k_fill
  k_with_none
  intros
  rename_i hret
  refine wpAny_call ?_
  k_dflt cell_enter
  obtain ⟨hr1, hr2⟩ := hret
  k_with "state" => first | exact OddP.start hn (by assumption) | exact OddP.turn (by assumption) (by assumption)
  k_with "measure" => exact OddP.less (by assumption) (by assumption)
  k_with "exec While Compare cons nil" => k_while_given ["mantissa!", "exponent!"] (fun n' e' script m' f' => OddP n e m' f') (fun n' e' script m' f' => m'.natAbs) "mantissa" "exponent"
  k_steps
  all_goals first
    | (refine' ret_real (hr1 (by assumption)) ⟨rfl, rfl⟩ ?F ?N; (case N => k_asm); (case F => k_asm))
    | (have z := OddP.out (by assumption) he; first
      | (refine' ret_real (hr2 (by assumption) _ _ z.1 z.2.1 z.2.2) ⟨rfl, rfl⟩ ?F ?N; (case N => k_asm); (case F => k_asm))
      | (refine' ret_real (hr2 (by assumption) _ _ z.1 z.2.1 z.2.2) ⟨rfl, rfl⟩ ?F (nm1 ?N); (case N => k_asm); (case F => k_asm)))
/-- a new list: a name and two ints -/
noncomputable abbrev shownObj (k : Str) (x y : Int) (a t u : Tok) : Obj := { cls := Value.type "list", data := Data.seq #[.str k a, .int x t, .int y u] }
abbrev RetShown (k : Str) (x y : Int) : Ret := fun _ h₀ L m news s Q _ => ∀ (q : Addr) (a t u : Tok) (h' : Heap) (tk' : Nat), Fr h₀ L h' m → News h₀ L h' ((q, shownObj k x y a t u) :: news) → Q (.ref q) { s with heap := h', toks := tk' }
theorem law_shown_int_spec (n : Int) (tk : Tok) (news) : Fn w 2 296 [.int n tk] news (RetShown (Str.ofString "exact") n 1) := by
  dsimp only [Fn, RetShown]
  k_fill
  k_with_none
  intros
  rename_i hret
  refine wpAny_call ?_
  k_dflt cell_enter
  k_steps
  all_goals exact hret _ _ _ _ _ _ (by k_asm) (by k_asm)
theorem law_shown_ratio_spec (x : Addr) (t b : Int) (news) (hx : IsRatio w news x t b) : Fn w 2 296 [.ref x] news (RetShown (Str.ofString "exact") t b) := by
  obtain ⟨xd, xa, xb, xu, xv, hx, hd⟩ := hx
  dsimp only [Fn, RetShown]
  k_fill
  k_with_none
  intros
  rename_i hret
  refine wpAny_call ?_
  k_dflt cell_enter
  k_steps
  all_goals exact hret _ _ _ _ _ _ (by k_asm) (by k_asm)
theorem law_shown_real_spec (x : Addr) (n e : Int) (news) (hx : IsReal w news x n e) : Fn w 2 296 [.ref x] news (RetShown (Str.ofString "real") n e) := by
  obtain ⟨xd, xa, xb, xu, xv, hx, hd⟩ := hx
  dsimp only [Fn, RetShown]
  k_fill
  k_with_none
  intros
  rename_i hret
  refine wpAny_call ?_
  k_dflt cell_enter
  k_steps
  all_goals exact hret _ _ _ _ _ _ (by k_asm) (by k_asm)
theorem law_fraction_int_spec (n : Int) (tk : Tok) (news) : Fn w 2 289 [.int n tk] news (RetT2 n 1) := by
  dsimp only [Fn, RetT2]
  k_fill
  k_with_none
  intros
  rename_i hret
  refine wpAny_call ?_
  k_dflt cell_enter
  k_steps
  all_goals first
    | (exfalso; omega)
    | (refine' ret_t2 hret ?e ?F ?N; (case N => k_asm); (case F => k_asm); (case e => first | exact ⟨rfl, rfl⟩))
    | (refine' ret_t2 hret ?e ?F (ns1 ?N); (case N => k_asm); (case F => k_asm); (case e => first | exact ⟨rfl, rfl⟩))
    | (refine' ret_t2 hret ?e ?F (ns2 ?N); (case N => k_asm); (case F => k_asm); (case e => first | exact ⟨rfl, rfl⟩))
    | (refine' ret_t2 hret ?e ?F (ns3 ?N); (case N => k_asm); (case F => k_asm); (case e => first | exact ⟨rfl, rfl⟩))
    | (refine' ret_t2 hret ?e ?F (ns4 ?N); (case N => k_asm); (case F => k_asm); (case e => first | exact ⟨rfl, rfl⟩))
theorem law_fraction_ratio_spec (x : Addr) (t b : Int) (news) (hx : IsRatio w news x t b) : Fn w 2 289 [.ref x] news (RetT2 t b) := by
  obtain ⟨xd, xa, xb, xu, xv, hx, hd⟩ := hx
  dsimp only [Fn, RetT2]
  k_fill
  k_with_none
  intros
  rename_i hret
  refine wpAny_call ?_
  k_dflt cell_enter
  k_steps
  all_goals first
    | (exfalso; omega)
    | (refine' ret_t2 hret ?e ?F ?N; (case N => k_asm); (case F => k_asm); (case e => first | exact ⟨rfl, rfl⟩))
    | (refine' ret_t2 hret ?e ?F (ns1 ?N); (case N => k_asm); (case F => k_asm); (case e => first | exact ⟨rfl, rfl⟩))
    | (refine' ret_t2 hret ?e ?F (ns2 ?N); (case N => k_asm); (case F => k_asm); (case e => first | exact ⟨rfl, rfl⟩))
    | (refine' ret_t2 hret ?e ?F (ns3 ?N); (case N => k_asm); (case F => k_asm); (case e => first | exact ⟨rfl, rfl⟩))
    | (refine' ret_t2 hret ?e ?F (ns4 ?N); (case N => k_asm); (case F => k_asm); (case e => first | exact ⟨rfl, rfl⟩))
theorem law_fraction_real_spec (x : Addr) (n e : Int) (hn : -512 ≤ n ∧ n ≤ 512) (he : -20 ≤ e ∧ e ≤ 20) (news) (hx : IsReal w news x n e) : Fn w 2 289 [.ref x] news (RetT2 (frT n e) (frB e)) := by
  obtain ⟨xd, xa, xb, xu, xv, hx, hd⟩ := hx
  dsimp only [Fn, RetT2]
  k_fill
  k_with_none
  intros
  rename_i hret
  refine wpAny_call ?_
  k_dflt cell_enter
  k_steps
  all_goals first
    | (exfalso; omega)
    | (refine' ret_t2 hret ?e ?F ?N; (case N => k_asm); (case F => k_asm); (case e => first | exact ⟨(if_pos (by assumption)).symm, (if_pos (by assumption)).symm⟩ | exact ⟨(if_neg (by assumption)).symm, (if_neg (by assumption)).symm⟩ | (simp only [frT, frB]; constructor <;> split <;> first | rfl | (exfalso; omega))))
    | (refine' ret_t2 hret ?e ?F (ns1 ?N); (case N => k_asm); (case F => k_asm); (case e => first | exact ⟨(if_pos (by assumption)).symm, (if_pos (by assumption)).symm⟩ | exact ⟨(if_neg (by assumption)).symm, (if_neg (by assumption)).symm⟩ | (simp only [frT, frB]; constructor <;> split <;> first | rfl | (exfalso; omega))))
    | (refine' ret_t2 hret ?e ?F (ns2 ?N); (case N => k_asm); (case F => k_asm); (case e => first | exact ⟨(if_pos (by assumption)).symm, (if_pos (by assumption)).symm⟩ | exact ⟨(if_neg (by assumption)).symm, (if_neg (by assumption)).symm⟩ | (simp only [frT, frB]; constructor <;> split <;> first | rfl | (exfalso; omega))))
    | (refine' ret_t2 hret ?e ?F (ns3 ?N); (case N => k_asm); (case F => k_asm); (case e => first | exact ⟨(if_pos (by assumption)).symm, (if_pos (by assumption)).symm⟩ | exact ⟨(if_neg (by assumption)).symm, (if_neg (by assumption)).symm⟩ | (simp only [frT, frB]; constructor <;> split <;> first | rfl | (exfalso; omega))))
    | (refine' ret_t2 hret ?e ?F (ns4 ?N); (case N => k_asm); (case F => k_asm); (case e => first | exact ⟨(if_pos (by assumption)).symm, (if_pos (by assumption)).symm⟩ | exact ⟨(if_neg (by assumption)).symm, (if_neg (by assumption)).symm⟩ | (simp only [frT, frB]; constructor <;> split <;> first | rfl | (exfalso; omega))))
-- S9
theorem four_in {p : Int} (hp : p ≤ 9) : -(2 ^ 64) < (4 : Int) ^ p.toNat ∧ (4 : Int) ^ p.toNat < 2 ^ 64 := by
  have a := four_pos p.toNat
  have b : (4 : Int) ^ p.toNat ≤ 4 ^ 9 := four_le (by omega)
  omega
theorem four_split {p : Int} (hp : 2 ≤ p) : (4 : Int) ^ p.toNat = 4 * 4 ^ (p - 1).toNat := by
  have : p.toNat = (p - 1).toNat + 1 := by omega
  rw [this, Int.pow_succ, Int.mul_comm]
def NrA (p T B b s : Int) : Prop := 2 ≤ p ∧ p ≤ 9 ∧ 0 < T ∧ T < 2 ^ 30 ∧ 0 < B ∧ b < 2 ^ 30 ∧ ∃ a : Nat, b = B * 4 ^ a ∧ s = a
theorem NrA.start {p T B : Int} (hp : 2 ≤ p ∧ p ≤ 9) (hT : 0 < T ∧ T < 2 ^ 30) (hB : 0 < B ∧ B < 2 ^ 30) : NrA p T B B 0 := ⟨hp.1, hp.2, hT.1, hT.2, hB.1, hB.2, 0, by rw [Int.pow_zero, Int.mul_one], rfl⟩
theorem NrA.pos {p T B b s : Int} (h : NrA p T B b s) : 0 < b := by
  obtain ⟨_, _, _, _, h5, _, a, rfl, _⟩ := h
  exact Int.mul_pos h5 (four_pos a)
theorem NrA.step {p T B b s : Int} (h : NrA p T B b s) (hl : T ≥ b * 4 ^ p.toNat) : b * 4 ≤ T := by
  have hb := h.pos
  have e := four_split h.1
  have q := four_pos (p - 1).toNat
  have : b * 4 ≤ b * 4 ^ p.toNat := Int.mul_le_mul_of_nonneg_left (by omega) (by omega)
  omega
theorem NrA.turn {p T B b s : Int} (h : NrA p T B b s) (hl : T ≥ b * 4 ^ p.toNat) : NrA p T B (b * 4) (s + 1) := by
  have q := h.step hl
  obtain ⟨h1, h2, h3, h4, h5, h6, a, rfl, rfl⟩ := h
  exact ⟨h1, h2, h3, h4, h5, by omega, a + 1, by rw [Int.pow_succ, Int.mul_assoc], by omega⟩
theorem NrA.less {p T B b s : Int} (h : NrA p T B b s) (hl : T ≥ b * 4 ^ p.toNat) : (T - b * 4).toNat < (T - b).toNat := by
  have q := h.step hl
  have hb := h.pos
  omega
def NrB (p T B b t s : Int) : Prop := 2 ≤ p ∧ p ≤ 9 ∧ 0 < T ∧ 0 < B ∧ b < 2 ^ 30 ∧ t < b * 4 ^ p.toNat ∧ ∃ a c : Nat, b = B * 4 ^ a ∧ t = T * 4 ^ c ∧ s = (a : Int) - c
theorem NrB.start {p T B b s : Int} (h : NrA p T B b s) (hl : ¬ T ≥ b * 4 ^ p.toNat) : NrB p T B b T s := by
  obtain ⟨h1, h2, h3, h4, h5, h6, a, e, e'⟩ := h
  exact ⟨h1, h2, h3, h5, h6, by omega, a, 0, e, by rw [Int.pow_zero, Int.mul_one], by omega⟩
theorem NrB.pos {p T B b t s : Int} (h : NrB p T B b t s) : 0 < b ∧ 0 < t := by
  obtain ⟨_, _, h3, h4, _, _, a, c, rfl, rfl, _⟩ := h
  exact ⟨Int.mul_pos h4 (four_pos a), Int.mul_pos h3 (four_pos c)⟩
theorem NrB.turn {p T B b t s : Int} (h : NrB p T B b t s) (hl : t < b * 4 ^ (p - 1).toNat) : NrB p T B b (t * 4) (s - 1) := by
  obtain ⟨h1, h2, h3, h4, h5, h6, a, c, e, e', e''⟩ := h
  refine ⟨h1, h2, h3, h4, h5, ?_, a, c + 1, e, by rw [Int.pow_succ, ← Int.mul_assoc, e'], by omega⟩
  rw [four_split h1, Int.mul_left_comm]
  omega
theorem NrB.less {p T B b t s : Int} (h : NrB p T B b t s) (hl : t < b * 4 ^ (p - 1).toNat) : (b * 4 ^ (p - 1).toNat - t * 4).toNat < (b * 4 ^ (p - 1).toNat - t).toNat := by
  have := h.pos
  omega
theorem NrB.div {p T B b t s : Int} (h : NrB p T B b t s) : 0 < b ∧ b < 2 ^ 62 := by
  have := h.pos
  have := h.2.2.2.2.1
  omega
theorem NrB.lo {p T B b t s : Int} (h : NrB p T B b t s) : 0 ≤ t.fdiv b := by
  have := h.pos
  rw [Int.fdiv_eq_ediv_of_nonneg _ (by omega)]
  exact Int.ediv_nonneg (by omega) (by omega)
theorem NrB.hi' {p T B b t s : Int} (h : NrB p T B b t s) : t.fdiv b < 4 ^ 9 := by
  have q := h.pos
  rw [Int.fdiv_eq_ediv_of_nonneg _ (by omega)]
  have : t / b < 4 ^ p.toNat := Int.ediv_lt_of_lt_mul q.1 (by rw [Int.mul_comm]; exact h.2.2.2.2.2.1)
  have : (4 : Int) ^ p.toNat ≤ 4 ^ 9 := four_le (by have := h.2.1; omega)
  omega
theorem NrB.hi {p T B b t s : Int} (h : NrB p T B b t s) : t.fdiv b < 2 ^ 60 := by
  have := h.hi'
  omega
theorem NrB.mul {p T B b t s : Int} (h : NrB p T B b t s) : -(2 ^ 64) < 2 * isq (t.fdiv b) + 1 ∧ 2 * isq (t.fdiv b) + 1 < 2 ^ 64 := by
  have a := isq_nonneg (t.fdiv b)
  have z := isq_lt (b := 512) h.lo (by decide) h.hi'
  omega
theorem NrB.mul2 {p T B b t s : Int} (h : NrB p T B b t s) : -(2 ^ 64) < (2 * isq (t.fdiv b) + 1) * (2 * isq (t.fdiv b) + 1) ∧ (2 * isq (t.fdiv b) + 1) * (2 * isq (t.fdiv b) + 1) < 2 ^ 64 := by
  have a := isq_nonneg (t.fdiv b)
  have z := isq_lt (b := 512) h.lo (by decide) h.hi'
  have c : (2 * isq (t.fdiv b) + 1) * (2 * isq (t.fdiv b) + 1) ≤ 1025 * 1025 := sq_le_of_le (by omega) (by omega)
  have d : 0 * 0 ≤ (2 * isq (t.fdiv b) + 1) * (2 * isq (t.fdiv b) + 1) := sq_le_of_le (by decide) (by omega)
  omega
theorem NrB.one {p T B b t s : Int} (h : NrB p T B b t s) (hl : ¬ t < b * 4 ^ (p - 1).toNat) : 0 < isq (t.fdiv b) := by
  have q := h.pos
  have l := h.lo
  have : 1 ≤ t.fdiv b := by
    rw [Int.fdiv_eq_ediv_of_nonneg _ (by omega)]
    refine Int.le_ediv_of_mul_le q.1 ?_
    have : b * 1 ≤ b * 4 ^ (p - 1).toNat := Int.mul_le_mul_of_nonneg_left (by have := four_pos (p - 1).toNat; omega) (by omega)
    omega
  have := isq_hi l
  have a := isq_nonneg (t.fdiv b)
  rcases Int.lt_or_le 0 (isq (t.fdiv b)) with z | z
  · exact z
  · have e : isq (t.fdiv b) = 0 := by omega
    have i := isq_hi l
    rw [e] at i
    omega
def NrC (W0 s0 W s : Int) : Prop := 0 < W ∧ ∃ k : Nat, W * 2 ^ k = W0 ∧ s = s0 + k
theorem NrC.start {W s : Int} (h : 0 < W) : NrC W s W s := ⟨h, 0, by rw [Int.pow_zero, Int.mul_one], by omega⟩
theorem NrC.turn {W0 s0 W s : Int} (h : NrC W0 s0 W s) (hl : W.fmod 2 = 0) : NrC W0 s0 (W.fdiv 2) (s + 1) := by
  obtain ⟨h1, k, h2, h3⟩ := h
  rw [Int.fmod_eq_emod_of_nonneg _ (by decide)] at hl
  rw [Int.fdiv_eq_ediv_of_nonneg _ (by decide)]
  refine ⟨by omega, k + 1, ?_, by omega⟩
  rw [Int.pow_succ, Int.mul_comm _ 2, ← Int.mul_assoc, ← h2]
  congr 1
  omega
theorem NrC.less {W0 s0 W s : Int} (h : NrC W0 s0 W s) (hl : W.fmod 2 = 0) : (W.fdiv 2).toNat < W.toNat := by
  have := h.1
  rw [Int.fdiv_eq_ediv_of_nonneg _ (by decide)]
  omega
theorem up_gt {t b W : Int} (h : 4 * t > (2 * W + 1) * (2 * W + 1) * b) : W + 1 = upW t b W := by rw [upW, if_pos (.inl h)]
theorem up_tie {t b W : Int} (h : 4 * t = (2 * W + 1) * (2 * W + 1) * b) (h2 : W.fmod 2 = 1) : W + 1 = upW t b W := by
  rw [Int.fmod_eq_emod_of_nonneg _ (by decide)] at h2
  rw [upW, if_pos (.inr ⟨h, h2⟩)]
theorem up_no {t b W : Int} (h : ¬ 4 * t > (2 * W + 1) * (2 * W + 1) * b) (h2 : 4 * t ≠ (2 * W + 1) * (2 * W + 1) * b) : W = upW t b W := by
  rw [upW, if_neg (fun q => q.elim h fun q => h2 q.1)]
theorem up_even {t b W : Int} (h : ¬ 4 * t > (2 * W + 1) * (2 * W + 1) * b) (h2 : W.fmod 2 ≠ 1) : W = upW t b W := by
  rw [Int.fmod_eq_emod_of_nonneg _ (by decide)] at h2
  rw [upW, if_neg (fun q => q.elim h fun q => h2 q.2)]
theorem nr_end {p T B b t s0 W0 W s : Int} (h : NrB p T B b t s0) (hl : ¬ t < b * 4 ^ (p - 1).toNat) (hu : W0 = upW t b (isq (t.fdiv b))) (hc : NrC W0 s0 W s) (ho : W.fmod 2 ≠ 0) :
    W = (near p.toNat T B).1 ∧ s = (near p.toNat T B).2 := by
  have q := h.pos
  obtain ⟨h1, h2, h3, h4, h5, h6, a, c, eb, et, es⟩ := h
  obtain ⟨hW, k, e1, e2⟩ := hc
  rw [Int.fmod_eq_emod_of_nonneg _ (by decide)] at ho
  rw [Int.fdiv_eq_ediv_of_nonneg _ (by omega)] at hu
  have ep : (p - 1).toNat = p.toNat - 1 := by omega
  rw [ep] at hl
  exact near_fst (by omega) h3 h4 (law_spec a c k et eb q.1 (by omega) h6 (by omega) (e1.trans hu) (by omega))
local macro_rules | `(tactic| walk_at "call ref") => `(tactic| (k_here; (with_reducible show wpAny _ _ (call (Value.ref 303) _ _) _ _ _); o_head (whole_root_spec _ _ _ (by walk_at "mine.ro") (by walk_at "mine.ro") _); walk_at "mine.i"))
theorem near_root_spec (p T B : Int) (t1 t2 t3 : Tok) (hp : 2 ≤ p ∧ p ≤ 9) (hT : 0 < T ∧ T < 2 ^ 30) (hB : 0 < B ∧ B < 2 ^ 30) (news) : Fn w 4 310 [.int p t1, .int T t2, .int B t3] news (RetT2 (near p.toNat T B).1 (near p.toNat T B).2) := by
  dsimp only [Fn, RetT2]
  k_fill
  k_with_none
  intros
  rename_i hret
  refine wpAny_call ?_
  k_dflt cell_enter
  k_with "div" => exact NrB.div (by assumption)
  k_with "root" => first | exact NrB.lo (by assumption) | exact NrB.hi (by assumption)
  k_with "mul" => first | exact four_in (by omega) | exact NrB.mul (by assumption) | exact NrB.mul2 (by assumption)
  k_with "state" => first | exact NrA.start hp hT hB | exact NrA.turn (by assumption) (by assumption) | exact NrB.start (by assumption) (by assumption) | exact NrB.turn (by assumption) (by assumption) | exact NrC.start (by have := NrB.one (by assumption) (by assumption); omega) | exact NrC.turn (by assumption) (by assumption)
  k_with "measure" => first | exact NrA.less (by assumption) (by assumption) | exact NrB.less (by assumption) (by assumption) | exact NrC.less (by assumption) (by assumption)
  k_with "exec While Compare cons nil" => k_while_given ["bits"] (fun p' script b s => NrA p T B b s) (fun p' script b s => (T - b).toNat) "bottom" "shift"
  k_with "exec While Compare cons nil" => k_while_given ["bottom"] (fun b script t s => NrB p T B b t s) (fun b script t s => (b * 4 ^ (p - 1).toNat - t).toNat) "top" "shift"
  k_with "exec While Compare cons nil" => k_while_given ["whole!", "shift!"] (fun W0 s0 script W s => NrC W0 s0 W s) (fun W0 s0 script W s => W.toNat) "whole" "shift"
  k_steps
  all_goals first
    | (exfalso; omega)
    | (refine' ret_t2 hret ?e ?F ?N; (case N => k_asm); (case F => k_asm); (case e => first | exact nr_end (by assumption) (by assumption) (up_gt (by assumption)) (by assumption) (by assumption) | exact nr_end (by assumption) (by assumption) (up_tie (by assumption) (by assumption)) (by assumption) (by assumption) | exact nr_end (by assumption) (by assumption) (up_no (by assumption) (by assumption)) (by assumption) (by assumption) | exact nr_end (by assumption) (by assumption) (up_even (by assumption) (by assumption)) (by assumption) (by assumption)))
    | (refine' ret_t2 hret ?e ?F (ns1 ?N); (case N => k_asm); (case F => k_asm); (case e => first | exact nr_end (by assumption) (by assumption) (up_gt (by assumption)) (by assumption) (by assumption) | exact nr_end (by assumption) (by assumption) (up_tie (by assumption) (by assumption)) (by assumption) (by assumption) | exact nr_end (by assumption) (by assumption) (up_no (by assumption) (by assumption)) (by assumption) (by assumption) | exact nr_end (by assumption) (by assumption) (up_even (by assumption) (by assumption)) (by assumption) (by assumption)))
    | (refine' ret_t2 hret ?e ?F (ns2 ?N); (case N => k_asm); (case F => k_asm); (case e => first | exact nr_end (by assumption) (by assumption) (up_gt (by assumption)) (by assumption) (by assumption) | exact nr_end (by assumption) (by assumption) (up_tie (by assumption) (by assumption)) (by assumption) (by assumption) | exact nr_end (by assumption) (by assumption) (up_no (by assumption) (by assumption)) (by assumption) (by assumption) | exact nr_end (by assumption) (by assumption) (up_even (by assumption) (by assumption)) (by assumption) (by assumption)))
    | (refine' ret_t2 hret ?e ?F (ns3 ?N); (case N => k_asm); (case F => k_asm); (case e => first | exact nr_end (by assumption) (by assumption) (up_gt (by assumption)) (by assumption) (by assumption) | exact nr_end (by assumption) (by assumption) (up_tie (by assumption) (by assumption)) (by assumption) (by assumption) | exact nr_end (by assumption) (by assumption) (up_no (by assumption) (by assumption)) (by assumption) (by assumption) | exact nr_end (by assumption) (by assumption) (up_even (by assumption) (by assumption)) (by assumption) (by assumption)))
    | (refine' ret_t2 hret ?e ?F (ns4 ?N); (case N => k_asm); (case F => k_asm); (case e => first | exact nr_end (by assumption) (by assumption) (up_gt (by assumption)) (by assumption) (by assumption) | exact nr_end (by assumption) (by assumption) (up_tie (by assumption) (by assumption)) (by assumption) (by assumption) | exact nr_end (by assumption) (by assumption) (up_no (by assumption) (by assumption)) (by assumption) (by assumption) | exact nr_end (by assumption) (by assumption) (up_even (by assumption) (by assumption)) (by assumption) (by assumption)))
-- S10
local macro_rules | `(tactic| walk_at "call ref") => `(tactic| (k_here; first | ((with_reducible show wpAny _ _ (call (Value.ref 261) _ _) _ _ _); o_head (sqrt_of_ratio_ratio_spec _ _ _ _ _ _ ?r1 ?r2 ?r3 _ ?hx); walk_at "mine.hx"; walk_at "mine.r3pos"; walk_at "mine.i") | ((with_reducible show wpAny _ _ (call (Value.ref 261) _ _) _ _ _); o_head (sqrt_of_ratio_int_spec _ _ _ _ _ (by walk_at "mine.po") (by walk_at "mine.po") _); walk_at "mine.i") | ((with_reducible show wpAny _ _ (call (Value.ref 240) _ _) _ _ _); o_head (exact_root_ratio_spec _ _ _ _ _ ?r1 ?r2 ?r3 ?r4 _ ?hx); walk_at "mine.hx"; walk_at "mine.r4root"; walk_at "mine.tex") | ((with_reducible show wpAny _ _ (call (Value.ref 240) _ _) _ _ _); o_head (exact_root_int_spec _ _ _ _ (by walk_at "mine.ro") (by walk_at "mine.ro") _); walk_at "mine.tex") | ((with_reducible show wpAny _ _ (call (Value.ref 254) _ _) _ _ _); o_head (sign_ratio_spec _ _ _ _ _ ?hx); walk_at "mine.hx"; walk_at "mine.i") | ((with_reducible show wpAny _ _ (call (Value.ref 254) _ _) _ _ _); o_head (sign_int_spec _ _ _ _); walk_at "mine.i")))
abbrev RetSqI (p n : Int) : Ret := fun w h₀ L m news s Q E => (isq n * isq n = n → RetI (isq n) w h₀ L m news s Q E) ∧ (¬ isq n * isq n = n → RetReal (near p.toNat n 1).1 (near p.toNat n 1).2 w h₀ L m news s Q E)
theorem sqr_pos {n : Int} (h0 : 0 ≤ n ∧ n < 2 ^ 20) (h : ¬ (isq n * isq n = n ∧ isq 1 * isq 1 = 1)) : 0 < n ∧ n < 2 ^ 20 := by
  refine ⟨?_, h0.2⟩
  rcases Int.lt_or_le 0 n with q | q
  · exact q
  · obtain rfl : n = 0 := by omega
    exact absurd ⟨rfl, rfl⟩ h
theorem sqr_not {n : Int} (h : ¬ (isq n * isq n = n ∧ isq 1 * isq 1 = 1)) : ¬ isq n * isq n = n := fun q => h ⟨q, rfl⟩
theorem sqr_sgn {n : Int} (h : 0 ≤ n) : 0 ≤ n.sign := Int.sign_nonneg_iff.mpr h
theorem square_root_int_spec (p n : Int) (t1 t2 t3 : Tok) (hp : 2 ≤ p ∧ p ≤ 9) (h0 : 0 ≤ n ∧ n < 2 ^ 20) (news) : Fn w 13 268 [.int p t1, .int n t2, .str (Str.ofString "law") t3] news (RetSqI p n) := by
  dsimp only [Fn, RetSqI, RetI, RetReal]
  k_fill
  k_with_none
  intros
  rename_i hret
  refine wpAny_call ?_
  k_dflt cell_enter
  obtain ⟨hr1, hr2⟩ := hret
  have hs := sqr_sgn h0.1
  k_with "pos" => exact sqr_pos h0 (by assumption)
  k_steps
  all_goals first
    | (exfalso; omega)
    | exact absurd (by rfl : isq 1 = 1) (by assumption)
    | (refine' cb_retI (hr1 ?c1) rfl ?F ?N; (case N => k_asm); (case F => k_asm); (case c1 => exact (show isq n * isq n = n ∧ isq 1 * isq 1 = 1 by assumption).1))
    | (refine' ret_real (hr2 ?c1) ⟨rfl, rfl⟩ ?F ?N; (case N => k_asm); (case F => k_asm); (case c1 => exact sqr_not (by assumption)))
abbrev RetSqR (p t b : Int) : Ret := fun w h₀ L m news s Q E => (isq t * isq t = t ∧ isq b * isq b = b → RetRatio (isq t) (isq b) w h₀ L m news s Q E) ∧ (¬ (isq t * isq t = t ∧ isq b * isq b = b) → RetReal (near p.toNat t b).1 (near p.toNat t b).2 w h₀ L m news s Q E)
theorem isq_ne1 {t b : Int} (hb : 2 ≤ b) (h : isq t * isq t = t ∧ isq b * isq b = b) (h1 : isq b = 1) : False := by
  have := h.2
  rw [h1] at this
  omega
theorem square_root_ratio_spec (p : Int) (x : Addr) (t b : Int) (t1 t3 : Tok) (hp : 2 ≤ p ∧ p ≤ 9) (ht : 0 < t ∧ t < 2 ^ 20) (hb : 2 ≤ b ∧ b < 2 ^ 10) (news) (hx : IsRatio w news x t b) : Fn w 13 268 [.int p t1, .ref x, .str (Str.ofString "law") t3] news (RetSqR p t b) := by
  obtain ⟨xd, xa, xb, xu, xv, hx, hd⟩ := hx
  dsimp only [Fn, RetSqR, RetRatio, RetReal]
  k_fill
  k_with_none
  intros
  rename_i hret
  refine wpAny_call ?_
  k_dflt cell_enter
  obtain ⟨hr1, hr2⟩ := hret
  have hs := sqr_sgn (Int.le_of_lt ht.1)
  have hb' : 0 < b ∧ b < 2 ^ 10 := ⟨by omega, hb.2⟩
  k_steps
  all_goals first
    | (exfalso; omega)
    | (exfalso; exact isq_ne1 (t := t) hb.1 (by first | assumption | exact ⟨by assumption, by assumption⟩) (by assumption))
    | (refine' ret_ratio (hr1 (by first | assumption | exact ⟨by assumption, by assumption⟩)) ⟨rfl, rfl⟩ ?F ?N; (case N => k_asm); (case F => k_asm))
    | (refine' ret_real (hr2 (by assumption)) ⟨rfl, rfl⟩ ?F ?N; (case N => k_asm); (case F => k_asm))
local macro_rules | `(tactic| walk_at "call ref") => `(tactic| (k_here; first | ((with_reducible show wpAny _ _ (call (Value.ref 163) _ _) _ _ _); o_head (sqrt_real_spec _ _ _ _ _ _ ?r1 ?r2 ?r3 _ ?hx); walk_at "mine.hx"; walk_at "mine.r3pos"; walk_at "mine.i") | ((with_reducible show wpAny _ _ (call (Value.ref 254) _ _) _ _ _); o_head (sign_real_spec _ _ _ _ _ ?hx); walk_at "mine.hx"; walk_at "mine.i")))
theorem square_root_real_spec (p : Int) (x : Addr) (n e : Int) (t1 t3 : Tok) (hp : 2 ≤ p ∧ p ≤ 9) (hm : 0 < n ∧ n ≤ 512) (he : -20 ≤ e ∧ e ≤ 20) (news) (hx : IsReal w news x n e) : Fn w 13 268 [.int p t1, .ref x, .str (Str.ofString "law") t3] news (RetReal (near p.toNat (frT n e) (frB e)).1 (near p.toNat (frT n e) (frB e)).2) := by
  obtain ⟨xd, xa, xb, xu, xv, hx, hd⟩ := hx
  dsimp only [Fn, RetReal]
  k_fill
  k_with_none
  intros
  rename_i hret
  refine wpAny_call ?_
  k_dflt cell_enter
  have hs := sqr_sgn (Int.le_of_lt hm.1)
  k_steps
  all_goals first
    | (exfalso; omega)
    | (refine' ret_real hret ?e ?F ?N; (case N => k_asm); (case F => k_asm); (case e => first | exact ⟨rfl, rfl⟩))
    | (refine' ret_real hret ?e ?F (nm1 ?N); (case N => k_asm); (case F => k_asm); (case e => first | exact ⟨rfl, rfl⟩))
    | (refine' ret_real hret ?e ?F (nm2 ?N); (case N => k_asm); (case F => k_asm); (case e => first | exact ⟨rfl, rfl⟩))
    | (refine' ret_real hret ?e ?F (nm3 ?N); (case N => k_asm); (case F => k_asm); (case e => first | exact ⟨rfl, rfl⟩))
    | (refine' ret_real hret ?e ?F (nm4 ?N); (case N => k_asm); (case F => k_asm); (case e => first | exact ⟨rfl, rfl⟩))
local macro_rules | `(tactic| walk_at "call ref") => `(tactic| (k_here; (with_reducible show wpAny _ _ (call (Value.ref 163) _ _) _ _ _); o_head (sqrt_real_zero_spec _ _ _ _ _ _ ?hx); walk_at "mine.hx"; walk_at "mine.i"))
theorem square_root_zero_spec (p : Int) (x : Addr) (e : Int) (t1 t3 : Tok) (news) (hx : IsReal w news x 0 e) : Fn w 13 268 [.int p t1, .ref x, .str (Str.ofString "law") t3] news (RetV (.ref x)) := by
  obtain ⟨xd, xa, xb, xu, xv, hx, hd⟩ := hx
  dsimp only [Fn, RetV]
  k_fill
  k_with_none
  intros
  rename_i hret
  refine wpAny_call ?_
  k_dflt cell_enter
  have hs : (0 : Int).sign = 0 := rfl
  k_steps
  all_goals exact hret _ _ (by k_asm) (by k_asm)
-- S11
local macro_rules | `(tactic| walk_at "call ref") => `(tactic| (k_here; first | ((with_reducible show wpAny _ _ (call (Value.ref 310) _ _) _ _ _); o_head (near_root_spec _ _ _ _ _ _ _ (by walk_at "mine.po") (by walk_at "mine.po") (by walk_at "mine.po") _); walk_at "mine.i") | ((with_reducible show wpAny _ _ (call (Value.ref 289) _ _) _ _ _); o_head (law_fraction_ratio_spec _ _ _ _ _ ?hx); walk_at "mine.hx"; walk_at "mine.i") | ((with_reducible show wpAny _ _ (call (Value.ref 289) _ _) _ _ _); o_head (law_fraction_int_spec _ _ _ _); walk_at "mine.i")))
noncomputable abbrev domObj (a b : Tok) : Obj := { cls := Value.type "list", data := Data.seq #[.str (Str.ofString "domain") a, .str (Str.ofString "law") b] }
abbrev RetDomL : Ret := fun _ h₀ L m news s Q _ => ∀ (q : Addr) (a b : Tok) (h' : Heap) (tk' : Nat), Fr h₀ L h' m → News h₀ L h' ((q, domObj a b) :: news) → Q (.ref q) { s with heap := h', toks := tk' }
/-- the answer: below 0; exact; the nearest -/
abbrev RetAns (ex : Prop) (p T B : Int) : Ret := fun w h₀ L m news s Q E => (T < 0 → RetDomL w h₀ L m news s Q E) ∧ (0 ≤ T → ex → RetShown (Str.ofString "exact") (isq T) (isq B) w h₀ L m news s Q E) ∧
  (0 ≤ T → ¬ ex → T = 0 → RetShown (Str.ofString "real") 0 0 w h₀ L m news s Q E) ∧ (0 ≤ T → ¬ ex → T ≠ 0 → RetShown (Str.ofString "real") (near p.toNat T B).1 (near p.toNat T B).2 w h₀ L m news s Q E)
theorem mulq {n : Int} (h0 : 0 ≤ n) (h1 : n < 2 ^ 60) : -(2 ^ 64) < isq n ∧ isq n < 2 ^ 64 := by
  have a := isq_nonneg n
  have b := isq_le_self h0
  omega
theorem due_root_int_spec (p n : Int) (t1 t2 : Tok) (hp : 2 ≤ p ∧ p ≤ 9) (hn : -(2 ^ 20) < n ∧ n < 2 ^ 20) (news) : Fn w 6 324 [.int p t1, .int n t2] news (RetAns (isq n * isq n = n ∧ isq 1 * isq 1 = 1) p n 1) := by
  dsimp only [Fn, RetAns, RetDomL, RetShown]
  k_fill
  k_with_none
  intros
  rename_i hret
  refine wpAny_call ?_
  k_dflt cell_enter
  obtain ⟨hr1, hr2, hr3, hr4⟩ := hret
  k_with "mul" => first | exact mulq (by omega) (by omega)
  k_steps
  all_goals first
    | (exfalso; omega)
    | (refine' hr1 ?c1 _ _ _ _ _ ?F ?N; (case N => k_asm); (case F => k_asm); (case c1 => omega))
    | (refine' hr1 ?c1 _ _ _ _ _ ?F (ns1 ?N); (case N => k_asm); (case F => k_asm); (case c1 => omega))
    | (refine' hr1 ?c1 _ _ _ _ _ ?F (ns2 ?N); (case N => k_asm); (case F => k_asm); (case c1 => omega))
    | (refine' hr1 ?c1 _ _ _ _ _ ?F (ns3 ?N); (case N => k_asm); (case F => k_asm); (case c1 => omega))
    | (refine' hr1 ?c1 _ _ _ _ _ ?F (ns4 ?N); (case N => k_asm); (case F => k_asm); (case c1 => omega))
    | (refine' hr2 ?c1 ⟨?c2, ?c3⟩ _ _ _ _ _ _ ?F ?N; (case N => k_asm); (case F => k_asm); (case c1 => omega); (case c2 => assumption); (case c3 => first | assumption | rfl))
    | (refine' hr2 ?c1 ⟨?c2, ?c3⟩ _ _ _ _ _ _ ?F (ns1 ?N); (case N => k_asm); (case F => k_asm); (case c1 => omega); (case c2 => assumption); (case c3 => first | assumption | rfl))
    | (refine' hr2 ?c1 ⟨?c2, ?c3⟩ _ _ _ _ _ _ ?F (ns2 ?N); (case N => k_asm); (case F => k_asm); (case c1 => omega); (case c2 => assumption); (case c3 => first | assumption | rfl))
    | (refine' hr2 ?c1 ⟨?c2, ?c3⟩ _ _ _ _ _ _ ?F (ns3 ?N); (case N => k_asm); (case F => k_asm); (case c1 => omega); (case c2 => assumption); (case c3 => first | assumption | rfl))
    | (refine' hr2 ?c1 ⟨?c2, ?c3⟩ _ _ _ _ _ _ ?F (ns4 ?N); (case N => k_asm); (case F => k_asm); (case c1 => omega); (case c2 => assumption); (case c3 => first | assumption | rfl))
    | (refine' hr3 ?c1 ?c2 ?c3 _ _ _ _ _ _ ?F ?N; (case N => k_asm); (case F => k_asm); (case c1 => omega); (case c2 => first | exact fun q => absurd q.1 (by assumption) | exact fun q => absurd q.2 (by assumption) | exact id); (case c3 => assumption))
    | (refine' hr3 ?c1 ?c2 ?c3 _ _ _ _ _ _ ?F (ns1 ?N); (case N => k_asm); (case F => k_asm); (case c1 => omega); (case c2 => first | exact fun q => absurd q.1 (by assumption) | exact fun q => absurd q.2 (by assumption) | exact id); (case c3 => assumption))
    | (refine' hr3 ?c1 ?c2 ?c3 _ _ _ _ _ _ ?F (ns2 ?N); (case N => k_asm); (case F => k_asm); (case c1 => omega); (case c2 => first | exact fun q => absurd q.1 (by assumption) | exact fun q => absurd q.2 (by assumption) | exact id); (case c3 => assumption))
    | (refine' hr3 ?c1 ?c2 ?c3 _ _ _ _ _ _ ?F (ns3 ?N); (case N => k_asm); (case F => k_asm); (case c1 => omega); (case c2 => first | exact fun q => absurd q.1 (by assumption) | exact fun q => absurd q.2 (by assumption) | exact id); (case c3 => assumption))
    | (refine' hr3 ?c1 ?c2 ?c3 _ _ _ _ _ _ ?F (ns4 ?N); (case N => k_asm); (case F => k_asm); (case c1 => omega); (case c2 => first | exact fun q => absurd q.1 (by assumption) | exact fun q => absurd q.2 (by assumption) | exact id); (case c3 => assumption))
    | (refine' hr4 ?c1 ?c2 ?c3 _ _ _ _ _ _ ?F ?N; (case N => k_asm); (case F => k_asm); (case c1 => omega); (case c2 => first | exact fun q => absurd q.1 (by assumption) | exact fun q => absurd q.2 (by assumption) | exact id); (case c3 => assumption))
    | (refine' hr4 ?c1 ?c2 ?c3 _ _ _ _ _ _ ?F (ns1 ?N); (case N => k_asm); (case F => k_asm); (case c1 => omega); (case c2 => first | exact fun q => absurd q.1 (by assumption) | exact fun q => absurd q.2 (by assumption) | exact id); (case c3 => assumption))
    | (refine' hr4 ?c1 ?c2 ?c3 _ _ _ _ _ _ ?F (ns2 ?N); (case N => k_asm); (case F => k_asm); (case c1 => omega); (case c2 => first | exact fun q => absurd q.1 (by assumption) | exact fun q => absurd q.2 (by assumption) | exact id); (case c3 => assumption))
    | (refine' hr4 ?c1 ?c2 ?c3 _ _ _ _ _ _ ?F (ns3 ?N); (case N => k_asm); (case F => k_asm); (case c1 => omega); (case c2 => first | exact fun q => absurd q.1 (by assumption) | exact fun q => absurd q.2 (by assumption) | exact id); (case c3 => assumption))
    | (refine' hr4 ?c1 ?c2 ?c3 _ _ _ _ _ _ ?F (ns4 ?N); (case N => k_asm); (case F => k_asm); (case c1 => omega); (case c2 => first | exact fun q => absurd q.1 (by assumption) | exact fun q => absurd q.2 (by assumption) | exact id); (case c3 => assumption))
theorem due_root_ratio_spec (p : Int) (x : Addr) (t b : Int) (t1 : Tok) (hp : 2 ≤ p ∧ p ≤ 9) (ht : -(2 ^ 20) < t ∧ t < 2 ^ 20) (hb : 0 < b ∧ b < 2 ^ 10) (news) (hx : IsRatio w news x t b) : Fn w 6 324 [.int p t1, .ref x] news (RetAns (isq t * isq t = t ∧ isq b * isq b = b) p t b) := by
  obtain ⟨xd, xa, xb, xu, xv, hx, hd⟩ := hx
  dsimp only [Fn, RetAns, RetDomL, RetShown]
  k_fill
  k_with_none
  intros
  rename_i hret
  refine wpAny_call ?_
  k_dflt cell_enter
  obtain ⟨hr1, hr2, hr3, hr4⟩ := hret
  k_with "mul" => first | exact mulq (by omega) (by omega)
  k_steps
  all_goals first
    | (exfalso; omega)
    | (refine' hr1 ?c1 _ _ _ _ _ ?F ?N; (case N => k_asm); (case F => k_asm); (case c1 => omega))
    | (refine' hr1 ?c1 _ _ _ _ _ ?F (ns1 ?N); (case N => k_asm); (case F => k_asm); (case c1 => omega))
    | (refine' hr1 ?c1 _ _ _ _ _ ?F (ns2 ?N); (case N => k_asm); (case F => k_asm); (case c1 => omega))
    | (refine' hr1 ?c1 _ _ _ _ _ ?F (ns3 ?N); (case N => k_asm); (case F => k_asm); (case c1 => omega))
    | (refine' hr1 ?c1 _ _ _ _ _ ?F (ns4 ?N); (case N => k_asm); (case F => k_asm); (case c1 => omega))
    | (refine' hr2 ?c1 ⟨?c2, ?c3⟩ _ _ _ _ _ _ ?F ?N; (case N => k_asm); (case F => k_asm); (case c1 => omega); (case c2 => assumption); (case c3 => first | assumption | rfl))
    | (refine' hr2 ?c1 ⟨?c2, ?c3⟩ _ _ _ _ _ _ ?F (ns1 ?N); (case N => k_asm); (case F => k_asm); (case c1 => omega); (case c2 => assumption); (case c3 => first | assumption | rfl))
    | (refine' hr2 ?c1 ⟨?c2, ?c3⟩ _ _ _ _ _ _ ?F (ns2 ?N); (case N => k_asm); (case F => k_asm); (case c1 => omega); (case c2 => assumption); (case c3 => first | assumption | rfl))
    | (refine' hr2 ?c1 ⟨?c2, ?c3⟩ _ _ _ _ _ _ ?F (ns3 ?N); (case N => k_asm); (case F => k_asm); (case c1 => omega); (case c2 => assumption); (case c3 => first | assumption | rfl))
    | (refine' hr2 ?c1 ⟨?c2, ?c3⟩ _ _ _ _ _ _ ?F (ns4 ?N); (case N => k_asm); (case F => k_asm); (case c1 => omega); (case c2 => assumption); (case c3 => first | assumption | rfl))
    | (refine' hr3 ?c1 ?c2 ?c3 _ _ _ _ _ _ ?F ?N; (case N => k_asm); (case F => k_asm); (case c1 => omega); (case c2 => first | exact fun q => absurd q.1 (by assumption) | exact fun q => absurd q.2 (by assumption) | exact id); (case c3 => assumption))
    | (refine' hr3 ?c1 ?c2 ?c3 _ _ _ _ _ _ ?F (ns1 ?N); (case N => k_asm); (case F => k_asm); (case c1 => omega); (case c2 => first | exact fun q => absurd q.1 (by assumption) | exact fun q => absurd q.2 (by assumption) | exact id); (case c3 => assumption))
    | (refine' hr3 ?c1 ?c2 ?c3 _ _ _ _ _ _ ?F (ns2 ?N); (case N => k_asm); (case F => k_asm); (case c1 => omega); (case c2 => first | exact fun q => absurd q.1 (by assumption) | exact fun q => absurd q.2 (by assumption) | exact id); (case c3 => assumption))
    | (refine' hr3 ?c1 ?c2 ?c3 _ _ _ _ _ _ ?F (ns3 ?N); (case N => k_asm); (case F => k_asm); (case c1 => omega); (case c2 => first | exact fun q => absurd q.1 (by assumption) | exact fun q => absurd q.2 (by assumption) | exact id); (case c3 => assumption))
    | (refine' hr3 ?c1 ?c2 ?c3 _ _ _ _ _ _ ?F (ns4 ?N); (case N => k_asm); (case F => k_asm); (case c1 => omega); (case c2 => first | exact fun q => absurd q.1 (by assumption) | exact fun q => absurd q.2 (by assumption) | exact id); (case c3 => assumption))
    | (refine' hr4 ?c1 ?c2 ?c3 _ _ _ _ _ _ ?F ?N; (case N => k_asm); (case F => k_asm); (case c1 => omega); (case c2 => first | exact fun q => absurd q.1 (by assumption) | exact fun q => absurd q.2 (by assumption) | exact id); (case c3 => assumption))
    | (refine' hr4 ?c1 ?c2 ?c3 _ _ _ _ _ _ ?F (ns1 ?N); (case N => k_asm); (case F => k_asm); (case c1 => omega); (case c2 => first | exact fun q => absurd q.1 (by assumption) | exact fun q => absurd q.2 (by assumption) | exact id); (case c3 => assumption))
    | (refine' hr4 ?c1 ?c2 ?c3 _ _ _ _ _ _ ?F (ns2 ?N); (case N => k_asm); (case F => k_asm); (case c1 => omega); (case c2 => first | exact fun q => absurd q.1 (by assumption) | exact fun q => absurd q.2 (by assumption) | exact id); (case c3 => assumption))
    | (refine' hr4 ?c1 ?c2 ?c3 _ _ _ _ _ _ ?F (ns3 ?N); (case N => k_asm); (case F => k_asm); (case c1 => omega); (case c2 => first | exact fun q => absurd q.1 (by assumption) | exact fun q => absurd q.2 (by assumption) | exact id); (case c3 => assumption))
    | (refine' hr4 ?c1 ?c2 ?c3 _ _ _ _ _ _ ?F (ns4 ?N); (case N => k_asm); (case F => k_asm); (case c1 => omega); (case c2 => first | exact fun q => absurd q.1 (by assumption) | exact fun q => absurd q.2 (by assumption) | exact id); (case c3 => assumption))
local macro_rules | `(tactic| walk_at "call ref") => `(tactic| (k_here; (with_reducible show wpAny _ _ (call (Value.ref 289) _ _) _ _ _); o_head (law_fraction_real_spec _ _ _ _ ?r1 ?r2 _ ?hx); walk_at "mine.hx"; walk_at "mine.r2frac"; walk_at "mine.i"))
theorem frT_in {n e : Int} (hn : -512 ≤ n ∧ n ≤ 512) (he : -20 ≤ e ∧ e ≤ 20) : -(2 ^ 30) < frT n e ∧ frT n e < 2 ^ 30 ∧ (frT n e < 0 ↔ n < 0) ∧ (frT n e = 0 ↔ n = 0) := by
  unfold frT
  split
  · have p := two_pow_pos e.toNat
    have q : (2 : Int) ^ e.toNat ≤ 2 ^ 20 := two_pow_le (by omega)
    generalize (2 : Int) ^ e.toNat = z at *
    have a : n * z ≤ 512 * z := Int.mul_le_mul_of_nonneg_right (by omega) (by omega)
    have b : -512 * z ≤ n * z := Int.mul_le_mul_of_nonneg_right (by omega) (by omega)
    refine ⟨by omega, by omega, ⟨fun h => ?_, fun h => ?_⟩, ⟨fun h => ?_, fun h => by rw [h, Int.zero_mul]⟩⟩
    · refine Int.lt_of_not_ge fun y => ?_
      have := Int.mul_nonneg y (Int.le_of_lt p)
      omega
    · exact Int.mul_neg_of_neg_of_pos h p
    · rcases Int.mul_eq_zero.mp h with y | y
      · exact y
      · omega
  · exact ⟨by omega, by omega, Iff.rfl, Iff.rfl⟩
theorem frB_in {e : Int} (he : -20 ≤ e ∧ e ≤ 20) : 0 < frB e ∧ frB e < 2 ^ 30 := by
  refine ⟨frB_pos e, ?_⟩
  unfold frB
  split
  · decide
  · have q : (2 : Int) ^ (0 - e).toNat ≤ 2 ^ 20 := two_pow_le (by omega)
    omega
theorem due_root_real_spec (p : Int) (x : Addr) (n e : Int) (t1 : Tok) (hp : 2 ≤ p ∧ p ≤ 9) (hn : -512 ≤ n ∧ n ≤ 512) (he : -20 ≤ e ∧ e ≤ 20) (news) (hx : IsReal w news x n e) : Fn w 6 324 [.int p t1, .ref x] news (RetAns False p (frT n e) (frB e)) := by
  obtain ⟨xd, xa, xb, xu, xv, hx, hd⟩ := hx
  dsimp only [Fn, RetAns, RetDomL, RetShown]
  k_fill
  k_with_none
  intros
  rename_i hret
  refine wpAny_call ?_
  k_dflt cell_enter
  obtain ⟨hr1, hr2, hr3, hr4⟩ := hret
  have hT := frT_in hn he
  have hB := frB_in he
  k_with "mul" => first | exact mulq (by omega) (by omega)
  k_steps
  all_goals first
    | (exfalso; omega)
    | (refine' hr1 ?c1 _ _ _ _ _ ?F ?N; (case N => k_asm); (case F => k_asm); (case c1 => omega))
    | (refine' hr1 ?c1 _ _ _ _ _ ?F (ns1 ?N); (case N => k_asm); (case F => k_asm); (case c1 => omega))
    | (refine' hr1 ?c1 _ _ _ _ _ ?F (ns2 ?N); (case N => k_asm); (case F => k_asm); (case c1 => omega))
    | (refine' hr1 ?c1 _ _ _ _ _ ?F (ns3 ?N); (case N => k_asm); (case F => k_asm); (case c1 => omega))
    | (refine' hr1 ?c1 _ _ _ _ _ ?F (ns4 ?N); (case N => k_asm); (case F => k_asm); (case c1 => omega))
    | (refine' hr2 ?c1 ⟨?c2, ?c3⟩ _ _ _ _ _ _ ?F ?N; (case N => k_asm); (case F => k_asm); (case c1 => omega); (case c2 => assumption); (case c3 => first | assumption | rfl))
    | (refine' hr2 ?c1 ⟨?c2, ?c3⟩ _ _ _ _ _ _ ?F (ns1 ?N); (case N => k_asm); (case F => k_asm); (case c1 => omega); (case c2 => assumption); (case c3 => first | assumption | rfl))
    | (refine' hr2 ?c1 ⟨?c2, ?c3⟩ _ _ _ _ _ _ ?F (ns2 ?N); (case N => k_asm); (case F => k_asm); (case c1 => omega); (case c2 => assumption); (case c3 => first | assumption | rfl))
    | (refine' hr2 ?c1 ⟨?c2, ?c3⟩ _ _ _ _ _ _ ?F (ns3 ?N); (case N => k_asm); (case F => k_asm); (case c1 => omega); (case c2 => assumption); (case c3 => first | assumption | rfl))
    | (refine' hr2 ?c1 ⟨?c2, ?c3⟩ _ _ _ _ _ _ ?F (ns4 ?N); (case N => k_asm); (case F => k_asm); (case c1 => omega); (case c2 => assumption); (case c3 => first | assumption | rfl))
    | (refine' hr3 ?c1 ?c2 ?c3 _ _ _ _ _ _ ?F ?N; (case N => k_asm); (case F => k_asm); (case c1 => omega); (case c2 => first | exact fun q => absurd q.1 (by assumption) | exact fun q => absurd q.2 (by assumption) | exact id); (case c3 => assumption))
    | (refine' hr3 ?c1 ?c2 ?c3 _ _ _ _ _ _ ?F (ns1 ?N); (case N => k_asm); (case F => k_asm); (case c1 => omega); (case c2 => first | exact fun q => absurd q.1 (by assumption) | exact fun q => absurd q.2 (by assumption) | exact id); (case c3 => assumption))
    | (refine' hr3 ?c1 ?c2 ?c3 _ _ _ _ _ _ ?F (ns2 ?N); (case N => k_asm); (case F => k_asm); (case c1 => omega); (case c2 => first | exact fun q => absurd q.1 (by assumption) | exact fun q => absurd q.2 (by assumption) | exact id); (case c3 => assumption))
    | (refine' hr3 ?c1 ?c2 ?c3 _ _ _ _ _ _ ?F (ns3 ?N); (case N => k_asm); (case F => k_asm); (case c1 => omega); (case c2 => first | exact fun q => absurd q.1 (by assumption) | exact fun q => absurd q.2 (by assumption) | exact id); (case c3 => assumption))
    | (refine' hr3 ?c1 ?c2 ?c3 _ _ _ _ _ _ ?F (ns4 ?N); (case N => k_asm); (case F => k_asm); (case c1 => omega); (case c2 => first | exact fun q => absurd q.1 (by assumption) | exact fun q => absurd q.2 (by assumption) | exact id); (case c3 => assumption))
    | (refine' hr4 ?c1 ?c2 ?c3 _ _ _ _ _ _ ?F ?N; (case N => k_asm); (case F => k_asm); (case c1 => omega); (case c2 => first | exact fun q => absurd q.1 (by assumption) | exact fun q => absurd q.2 (by assumption) | exact id); (case c3 => assumption))
    | (refine' hr4 ?c1 ?c2 ?c3 _ _ _ _ _ _ ?F (ns1 ?N); (case N => k_asm); (case F => k_asm); (case c1 => omega); (case c2 => first | exact fun q => absurd q.1 (by assumption) | exact fun q => absurd q.2 (by assumption) | exact id); (case c3 => assumption))
    | (refine' hr4 ?c1 ?c2 ?c3 _ _ _ _ _ _ ?F (ns2 ?N); (case N => k_asm); (case F => k_asm); (case c1 => omega); (case c2 => first | exact fun q => absurd q.1 (by assumption) | exact fun q => absurd q.2 (by assumption) | exact id); (case c3 => assumption))
    | (refine' hr4 ?c1 ?c2 ?c3 _ _ _ _ _ _ ?F (ns3 ?N); (case N => k_asm); (case F => k_asm); (case c1 => omega); (case c2 => first | exact fun q => absurd q.1 (by assumption) | exact fun q => absurd q.2 (by assumption) | exact id); (case c3 => assumption))
    | (refine' hr4 ?c1 ?c2 ?c3 _ _ _ _ _ _ ?F (ns4 ?N); (case N => k_asm); (case F => k_asm); (case c1 => omega); (case c2 => first | exact fun q => absurd q.1 (by assumption) | exact fun q => absurd q.2 (by assumption) | exact id); (case c3 => assumption))
-- S12
local macro_rules | `(tactic| walk_at "call ref") => `(tactic| (k_here; first | ((with_reducible show wpAny _ _ (call (Value.ref 282) _ _) _ _ _); o_head (law_real_spec _ _ _ _ _ (by walk_at "mine.po") (by walk_at "mine.po") _); walk_at "mine.tsq") | ((with_reducible show wpAny _ _ (call (Value.ref 275) _ _) _ _ _); o_head (low_spec _ _ _ _ _ (by walk_at "mine.po") (by walk_at "mine.po") _); walk_at "mine.i")))
theorem fm (x : Int) {k : Int} (hk : 0 < k) : 0 ≤ x.fmod k ∧ x.fmod k < k := by
  rw [Int.fmod_eq_emod_of_nonneg _ (Int.le_of_lt hk)]
  exact ⟨Int.emod_nonneg _ (by omega), Int.emod_lt_of_pos _ hk⟩
theorem sq_in {x : Int} {k : Int} (h : 0 ≤ x ∧ x ≤ k) : 0 ≤ x * x ∧ x * x ≤ k * k := ⟨Int.mul_nonneg h.1 h.1, sq_le_of_le h.1 h.2⟩
theorem prod_in {x y j k : Int} (h : 0 ≤ x ∧ x ≤ j) (h' : 0 ≤ y ∧ y ≤ k) : 0 ≤ x * y ∧ x * y ≤ j * k := ⟨Int.mul_nonneg h.1 h'.1, Int.mul_le_mul h.2 h'.2 h'.1 (by omega)⟩
theorem num_facts (c p : Int) (hp : 2 ≤ p ∧ p ≤ 9) : (0 ≤ c.fmod 23 ∧ c.fmod 23 < 23) ∧ (0 ≤ (c.fdiv 23).fmod 19 ∧ (c.fdiv 23).fmod 19 < 19) ∧ (0 ≤ c.fmod 3 ∧ c.fmod 3 < 3) ∧ (0 ≤ c.fmod 300 ∧ c.fmod 300 < 300) ∧
    (0 ≤ c.fmod 23 * c.fmod 23 ∧ c.fmod 23 * c.fmod 23 ≤ 484) ∧ (1 ≤ (1 + (c.fdiv 23).fmod 19) * (1 + (c.fdiv 23).fmod 19) ∧ (1 + (c.fdiv 23).fmod 19) * (1 + (c.fdiv 23).fmod 19) ≤ 361) ∧
    (0 ≤ c.fmod 23 * c.fmod 23 * (1 + (c.fdiv 23).fmod 19) * (1 + (c.fdiv 23).fmod 19) ∧ c.fmod 23 * c.fmod 23 * (1 + (c.fdiv 23).fmod 19) * (1 + (c.fdiv 23).fmod 19) ≤ 174724) ∧
    (0 < (2 : Int) ^ p.toNat ∧ (2 : Int) ^ p.toNat ≤ 512) ∧ (0 ≤ c.fmod (2 ^ p.toNat + 1) ∧ c.fmod (2 ^ p.toNat + 1) ≤ 512) ∧ (0 ≤ (c.fdiv (2 ^ p.toNat + 1)).fmod 21 ∧ (c.fdiv (2 ^ p.toNat + 1)).fmod 21 < 21) := by
  have a := fm c (k := 23) (by decide)
  have b := fm (c.fdiv 23) (k := 19) (by decide)
  have s1 := sq_in (x := c.fmod 23) (k := 22) (by omega)
  have s2 := sq_in (x := 1 + (c.fdiv 23).fmod 19) (k := 19) (by omega)
  have s3 : 0 < (1 + (c.fdiv 23).fmod 19) * (1 + (c.fdiv 23).fmod 19) := Int.mul_pos (by omega) (by omega)
  have s4 := prod_in s1 s2
  rw [← Int.mul_assoc] at s4
  have q := two_pow_pos p.toNat
  have r : (2 : Int) ^ p.toNat ≤ 2 ^ 9 := two_pow_le (by omega)
  have z := fm c (k := 2 ^ p.toNat + 1) (by omega)
  exact ⟨a, b, fm c (by decide), fm c (by decide), ⟨s1.1, by omega⟩, ⟨by omega, by omega⟩, ⟨s4.1, by omega⟩, ⟨q, by omega⟩, ⟨z.1, by omega⟩, fm _ (by decide)⟩
theorem low_facts {t b : Int} (ht : -1000 < t ∧ t < 1000) (hb : 0 < b ∧ b < 1000) : (-1000 < t.fdiv (Int.gcd t b : Nat) ∧ t.fdiv (Int.gcd t b : Nat) < 1000) ∧ (0 < b.fdiv (Int.gcd t b : Nat) ∧ b.fdiv (Int.gcd t b : Nat) < 1000) ∧ (b.fdiv (Int.gcd t b : Nat) ≠ 1 → t.fdiv (Int.gcd t b : Nat) ≠ 0) := by
  have g0 : 0 < Int.gcd t b := Int.gcd_pos_of_ne_zero_right _ (by omega)
  have g1 : (Int.gcd t b : Int) ∣ t := Int.gcd_dvd_left ..
  have g2 : (Int.gcd t b : Int) ∣ b := Int.gcd_dvd_right ..
  have e : t = 0 → ((Int.gcd t b : Nat) : Int) = b := fun h => by rw [h, Int.gcd_zero_left]; omega
  generalize hG : ((Int.gcd t b : Nat) : Int) = g at *
  have gp : 0 < g := by omega
  rw [Int.fdiv_eq_ediv_of_nonneg _ (by omega), Int.fdiv_eq_ediv_of_nonneg _ (by omega)]
  obtain ⟨x, rfl⟩ := g1
  obtain ⟨y, rfl⟩ := g2
  rw [Int.mul_ediv_cancel_left _ (by omega), Int.mul_ediv_cancel_left _ (by omega)] 
  have y0 : 0 < y := Int.pos_of_mul_pos_right hb.1 (by omega)
  have y1 : 1 * y ≤ g * y := Int.mul_le_mul_of_nonneg_right (by omega) (by omega)
  refine ⟨?_, ⟨y0, by omega⟩, fun h h' => h ?_⟩
  · rcases Int.le_total 0 x with q | q
    · have : 1 * x ≤ g * x := Int.mul_le_mul_of_nonneg_right (by omega) q
      omega
    · have : g * x ≤ 1 * x := Int.mul_le_mul_of_nonpos_right (by omega) q
      omega
  · have z := e (by rw [h', Int.mul_zero])
    have : g * 1 = g * y := by omega
    exact (Int.eq_of_mul_eq_mul_left (by omega) this).symm
/-- the law's number -/
abbrev RetNum : Ret := fun w h₀ L m news s Q E => (∀ n : Int, (-(2 ^ 20) < n ∧ n < 2 ^ 20) → RetI n w h₀ L m news s Q E) ∧ (∀ t b : Int, (-1000 < t ∧ t < 1000 ∧ t ≠ 0) → (2 ≤ b ∧ b < 1000) → RetRatio t b w h₀ L m news s Q E) ∧
  (∀ n e : Int, (n = 0 → e = 0) → (-512 ≤ n ∧ n ≤ 512) → (-20 ≤ e ∧ e ≤ 20) → RetReal n e w h₀ L m news s Q E)
theorem low_int {t b : Int} (ht : -1000 < t ∧ t < 1000) (hb : 0 < b ∧ b < 1000) : -(2 ^ 20) < t.fdiv (Int.gcd t b : Nat) ∧ t.fdiv (Int.gcd t b : Nat) < 2 ^ 20 := by
  have := low_facts ht hb
  omega
theorem low_rt {t b : Int} (ht : -1000 < t ∧ t < 1000) (hb : 0 < b ∧ b < 1000) (h : b.fdiv (Int.gcd t b : Nat) ≠ 1) : -1000 < t.fdiv (Int.gcd t b : Nat) ∧ t.fdiv (Int.gcd t b : Nat) < 1000 ∧ t.fdiv (Int.gcd t b : Nat) ≠ 0 := by
  have z := low_facts ht hb
  exact ⟨z.1.1, z.1.2, z.2.2 h⟩
theorem low_rb {t b : Int} (ht : -1000 < t ∧ t < 1000) (hb : 0 < b ∧ b < 1000) (h : b.fdiv (Int.gcd t b : Nat) ≠ 1) : 2 ≤ b.fdiv (Int.gcd t b : Nat) ∧ b.fdiv (Int.gcd t b : Nat) < 1000 := by
  have z := low_facts ht hb
  omega
theorem law_number_spec (p code : Int) (t1 t2 : Tok) (hp : 2 ≤ p ∧ p ≤ 9) (news) : Fn w 7 317 [.int p t1, .int code t2] news RetNum := by
  dsimp only [Fn, RetNum, RetI, RetRatio, RetReal]
  k_fill
  k_with_none
  intros
  rename_i hret
  refine wpAny_call ?_
  k_dflt cell_enter
  obtain ⟨hr1, hr2, hr4⟩ := hret
  have hf := num_facts (code.fdiv 7) p hp
  have h7 := fm code (k := 7) (by decide)
  k_with "div" => omega
  k_steps
  all_goals first
    | (exfalso; omega)
    | (refine' cb_retI (hr1 _ ?c1) rfl ?F (nm2 ?N); (case N => k_asm); (case F => k_asm); (case c1 => first | omega | exact low_int (by omega) (by omega)))
    | (refine' cb_retI (hr1 _ ?c1) rfl ?F (nm4 ?N); (case N => k_asm); (case F => k_asm); (case c1 => first | omega | exact low_int (by omega) (by omega)))
    | (refine' cb_retI (hr1 _ ?c1) rfl ?F (ntl (ntl ?N)); (case N => k_asm); (case F => k_asm); (case c1 => first | omega | exact low_int (by omega) (by omega)))
    | (refine' cb_retI (hr1 _ ?c1) rfl ?F (ntl (ntl (ntl (ntl ?N)))); (case N => k_asm); (case F => k_asm); (case c1 => first | omega | exact low_int (by omega) (by omega)))
    | (refine' ret_ratio (hr2 _ _ ?c1 ?c2) ⟨rfl, rfl⟩ ?F (nm2 ?N); (case N => k_asm); (case F => k_asm); (case c1 => exact low_rt (by omega) (by omega) (by assumption)); (case c2 => exact low_rb (by omega) (by omega) (by assumption)))
    | (refine' ret_ratio (hr2 _ _ ?c1 ?c2) ⟨rfl, rfl⟩ ?F (nm4 ?N); (case N => k_asm); (case F => k_asm); (case c1 => exact low_rt (by omega) (by omega) (by assumption)); (case c2 => exact low_rb (by omega) (by omega) (by assumption)))
    | (refine' ret_ratio (hr2 _ _ ?c1 ?c2) ⟨rfl, rfl⟩ ?F (ntl (ntl ?N)); (case N => k_asm); (case F => k_asm); (case c1 => exact low_rt (by omega) (by omega) (by assumption)); (case c2 => exact low_rb (by omega) (by omega) (by assumption)))
    | (refine' ret_ratio (hr2 _ _ ?c1 ?c2) ⟨rfl, rfl⟩ ?F (ntl (ntl (ntl (ntl ?N)))); (case N => k_asm); (case F => k_asm); (case c1 => exact low_rt (by omega) (by omega) (by assumption)); (case c2 => exact low_rb (by omega) (by omega) (by assumption)))
    | (refine' ret_real (hr4 _ _ ?c1 ?c2 ?c3) ⟨rfl, rfl⟩ ?F (nm2 ?N); (case N => k_asm); (case F => k_asm); (case c1 => exact fun _ => rfl); (case c2 => decide); (case c3 => decide))
    | (refine' ret_real (hr4 _ _ ?c1 ?c2 ?c3) ⟨rfl, rfl⟩ ?F (nm4 ?N); (case N => k_asm); (case F => k_asm); (case c1 => exact fun _ => rfl); (case c2 => decide); (case c3 => decide))
    | (refine' ret_real (hr4 _ _ ?c1 ?c2 ?c3) ⟨rfl, rfl⟩ ?F (ntl (ntl ?N)); (case N => k_asm); (case F => k_asm); (case c1 => exact fun _ => rfl); (case c2 => decide); (case c3 => decide))
    | (refine' ret_real (hr4 _ _ ?c1 ?c2 ?c3) ⟨rfl, rfl⟩ ?F (ntl (ntl (ntl (ntl ?N)))); (case N => k_asm); (case F => k_asm); (case c1 => exact fun _ => rfl); (case c2 => decide); (case c3 => decide))
    | (refine' ret_real (hr4 _ _ ?c1 ?c2 ?c3) ⟨rfl, rfl⟩ ?F (nm2 ?N); (case N => k_asm); (case F => k_asm); (case c1 => exact fun q => absurd q (by assumption)); (case c2 => assumption); (case c3 => assumption))
    | (refine' ret_real (hr4 _ _ ?c1 ?c2 ?c3) ⟨rfl, rfl⟩ ?F (nm4 ?N); (case N => k_asm); (case F => k_asm); (case c1 => exact fun q => absurd q (by assumption)); (case c2 => assumption); (case c3 => assumption))
    | (refine' ret_real (hr4 _ _ ?c1 ?c2 ?c3) ⟨rfl, rfl⟩ ?F (ntl (ntl ?N)); (case N => k_asm); (case F => k_asm); (case c1 => exact fun q => absurd q (by assumption)); (case c2 => assumption); (case c3 => assumption))
    | (refine' ret_real (hr4 _ _ ?c1 ?c2 ?c3) ⟨rfl, rfl⟩ ?F (ntl (ntl (ntl (ntl ?N)))); (case N => k_asm); (case F => k_asm); (case c1 => exact fun q => absurd q (by assumption)); (case c2 => assumption); (case c3 => assumption))
-- S13
local macro_rules | `(tactic| walk_at "call ref") => `(tactic| (k_here; first | ((with_reducible show wpAny _ _ (call (Value.ref 268) _ _) _ _ _); o_head (square_root_ratio_spec _ _ _ _ _ _ _ ?r1 ?r2 ?r3 _ ?hx); walk_at "mine.hx"; walk_at "mine.r3pos"; walk_at "mine.tsq") | ((with_reducible show wpAny _ _ (call (Value.ref 268) _ _) _ _ _); o_head (square_root_int_spec _ _ _ _ _ _ (by walk_at "mine.po") (by walk_at "mine.po") _); walk_at "mine.tsq") | ((with_reducible show wpAny _ _ (call (Value.ref 296) _ _) _ _ _); o_head (law_shown_real_spec _ _ _ _ _ ?hx); walk_at "mine.hx"; walk_at "mine.i") | ((with_reducible show wpAny _ _ (call (Value.ref 296) _ _) _ _ _); o_head (law_shown_ratio_spec _ _ _ _ _ ?hx); walk_at "mine.hx"; walk_at "mine.i") | ((with_reducible show wpAny _ _ (call (Value.ref 296) _ _) _ _ _); o_head (law_shown_int_spec _ _ _ _); walk_at "mine.i")))
theorem sq_nz {n : Int} (h : ¬ isq n * isq n = n) : n ≠ 0 := fun e => h (by rw [e]; rfl)
abbrev RetPos (ex : Prop) (p T B : Int) : Ret := fun w h₀ L m news s Q E => (ex → RetShown (Str.ofString "exact") (isq T) (isq B) w h₀ L m news s Q E) ∧
  (¬ ex → T = 0 → RetShown (Str.ofString "real") 0 0 w h₀ L m news s Q E) ∧ (¬ ex → T ≠ 0 → RetShown (Str.ofString "real") (near p.toNat T B).1 (near p.toNat T B).2 w h₀ L m news s Q E)
theorem told_int_spec (p n : Int) (t1 t2 : Tok) (hp : 2 ≤ p ∧ p ≤ 9) (hn : 0 ≤ n ∧ n < 2 ^ 20) (news) : Fn w 15 331 [.int p t1, .int n t2] news (RetPos (isq n * isq n = n ∧ isq 1 * isq 1 = 1) p n 1) := by
  dsimp only [Fn, RetPos, RetShown]
  k_fill
  k_with_none
  intros
  rename_i hret
  refine wpAny_call ?_
  k_dflt cell_enter
  obtain ⟨hr1, hr2, hr3⟩ := hret
  k_steps
  all_goals first
    | (exfalso; omega)
    | (refine' hr1 ⟨?c1, isq_one⟩ _ _ _ _ _ _ ?F ?N; (case N => k_asm); (case F => k_asm); (case c1 => assumption))
    | (refine' hr1 ⟨?c1, isq_one⟩ _ _ _ _ _ _ ?F (ns2 ?N); (case N => k_asm); (case F => k_asm); (case c1 => assumption))
    | (refine' hr3 (fun q => absurd q.1 ?c1) ?c2 _ _ _ _ _ _ ?F ?N; (case N => k_asm); (case F => k_asm); (case c1 => assumption); (case c2 => exact sq_nz (by assumption)))
    | (refine' hr3 (fun q => absurd q.1 ?c1) ?c2 _ _ _ _ _ _ ?F (ns2 ?N); (case N => k_asm); (case F => k_asm); (case c1 => assumption); (case c2 => exact sq_nz (by assumption)))
theorem told_ratio_spec (p : Int) (x : Addr) (t b : Int) (t1 : Tok) (hp : 2 ≤ p ∧ p ≤ 9) (ht : 0 < t ∧ t < 2 ^ 20) (hb : 2 ≤ b ∧ b < 2 ^ 10) (news) (hx : IsRatio w news x t b) : Fn w 15 331 [.int p t1, .ref x] news (RetPos (isq t * isq t = t ∧ isq b * isq b = b) p t b) := by
  obtain ⟨xd, xa, xb, xu, xv, hx, hd⟩ := hx
  dsimp only [Fn, RetPos, RetShown]
  k_fill
  k_with_none
  intros
  rename_i hret
  refine wpAny_call ?_
  k_dflt cell_enter
  obtain ⟨hr1, hr2, hr3⟩ := hret
  have h0 : t ≠ 0 := by omega
  k_steps
  all_goals first
    | (exfalso; omega)
    | (refine' hr1 ?c1 _ _ _ _ _ _ ?F ?N; (case N => k_asm); (case F => k_asm); (case c1 => assumption))
    | (refine' hr1 ?c1 _ _ _ _ _ _ ?F (ns2 ?N); (case N => k_asm); (case F => k_asm); (case c1 => assumption))
    | (refine' hr3 ?c1 h0 _ _ _ _ _ _ ?F ?N; (case N => k_asm); (case F => k_asm); (case c1 => assumption))
    | (refine' hr3 ?c1 h0 _ _ _ _ _ _ ?F (ns2 ?N); (case N => k_asm); (case F => k_asm); (case c1 => assumption))
local macro_rules | `(tactic| walk_at "call ref") => `(tactic| (k_here; (with_reducible show wpAny _ _ (call (Value.ref 268) _ _) _ _ _); o_head (square_root_real_spec _ _ _ _ _ _ _ ?r1 ?r2 ?r3 _ ?hx); walk_at "mine.hx"; walk_at "mine.r3pos"; walk_at "mine.i"))
theorem told_real_spec (p : Int) (x : Addr) (n e : Int) (t1 : Tok) (hp : 2 ≤ p ∧ p ≤ 9) (hm : 0 < n ∧ n ≤ 512) (he : -20 ≤ e ∧ e ≤ 20) (news) (hx : IsReal w news x n e) : Fn w 15 331 [.int p t1, .ref x] news (RetPos False p (frT n e) (frB e)) := by
  obtain ⟨xd, xa, xb, xu, xv, hx, hd⟩ := hx
  dsimp only [Fn, RetPos, RetShown]
  k_fill
  k_with_none
  intros
  rename_i hret
  refine wpAny_call ?_
  k_dflt cell_enter
  obtain ⟨hr1, hr2, hr3⟩ := hret
  have h0 : frT n e ≠ 0 := by have := frT_pos (e := e) hm.1; omega
  k_steps
  all_goals first
    | (exfalso; omega)
    | (refine' hr3 id h0 _ _ _ _ _ _ ?F ?N; (case N => k_asm); (case F => k_asm))
    | (refine' hr3 id h0 _ _ _ _ _ _ ?F (ns2 ?N); (case N => k_asm); (case F => k_asm))
local macro_rules | `(tactic| walk_at "call ref") => `(tactic| (k_here; (with_reducible show wpAny _ _ (call (Value.ref 268) _ _) _ _ _); o_head (square_root_zero_spec _ _ _ _ _ _ _ ?hx); walk_at "mine.hx"; walk_at "mine.i"))
theorem told_zero_spec (p : Int) (x : Addr) (t1 : Tok) (news) (hx : IsReal w news x 0 0) : Fn w 15 331 [.int p t1, .ref x] news (RetPos False p (frT 0 0) (frB 0)) := by
  obtain ⟨xd, xa, xb, xu, xv, hx, hd⟩ := hx
  dsimp only [Fn, RetPos, RetShown]
  k_fill
  k_with_none
  intros
  rename_i hret
  refine wpAny_call ?_
  k_dflt cell_enter
  obtain ⟨hr1, hr2, hr3⟩ := hret
  have h0 : frT 0 0 = 0 := rfl
  k_steps
  all_goals first
    | (exfalso; omega)
    | (refine' hr2 id h0 _ _ _ _ _ _ ?F ?N; (case N => k_asm); (case F => k_asm))
section -- XU
open PySem PySem.W PyProof.Rows PySem.Calls PySem.Spec
set_option maxRecDepth 100000
set_option maxHeartbeats 8000000
theorem deep1_ok {e : Env} {need : Nat} (h : need ≤ 200) : (callerA.deeper e).depth + need < recursionLimit := by
  show 1 + claimMargin + 1 + need < recursionLimit
  simp only [claimMargin, recursionLimit]
  omega
theorem units1_ok {e : Env} {need : Nat} (h : need ≤ 200) : (callerA.deeper e).units + 8 * need < cLine := by
  show 4 + 3 + 8 * need < cLine
  have : (cLine : Nat) = 9900 := by decide
  omega
theorem deep2_ok {e0 e : Env} {need : Nat} (h : need ≤ 200) : ((callerA.deeper e0).deeper e).depth + need < recursionLimit := by
  show 1 + claimMargin + 1 + 1 + need < recursionLimit
  simp only [claimMargin, recursionLimit]
  omega
theorem units2_ok {e0 e : Env} {need : Nat} (h : need ≤ 200) : ((callerA.deeper e0).deeper e).units + 8 * need < cLine := by
  show 4 + 3 + 3 + 8 * need < cLine
  have : (cLine : Nat) = 9900 := by decide
  omega
theorem deep3_ok {e0 e1 e : Env} {need : Nat} (h : need ≤ 200) : (((callerA.deeper e0).deeper e1).deeper e).depth + need < recursionLimit := by
  show 1 + claimMargin + 1 + 1 + 1 + need < recursionLimit
  simp only [claimMargin, recursionLimit]
  omega
theorem units3_ok {e0 e1 e : Env} {need : Nat} (h : need ≤ 200) : (((callerA.deeper e0).deeper e1).deeper e).units + 8 * need < cLine := by
  show 4 + 3 + 3 + 3 + 8 * need < cLine
  have : (cLine : Nat) = 9900 := by decide
  omega
section
variable {w : World} {need : Nat} {f : Addr} {vs : List Value} {news : List (Addr × Obj)} {R : Ret} {mean : ExcName → Option Value} {mg mb : Str → Option Value} {cn : Str} {cs : Scope} {a : Addr} {ccd : Value} {base h₀ : Heap} {L : Addr} {m : Str → Option Value} {s : Shared} {Q E : Value → Shared → Prop} {e0 e1 : Env}
theorem Fn.use1 (H : Fn w need f vs news R)
    (B : Below callerA base [] h₀) (F : Fr h₀ L s.heap m) (X : (hd.heap_1 w.params).In h₀) (N : News h₀ L s.heap news) (T : Top hd.view_39 [Str.ofString "REACH"] mean mg mb h₀) (k : cs.kind = .function) (hn : need ≤ 200) (r : R w h₀ L m news s Q E) :
    wpAny (model PySem.Challenge.rw_nt0166_01.row.prog w) (callerA.deeper (envOf cn cs L a ccd)) (call (.ref f) vs) Q E s :=
  H mean mg mb (callerA.deeper (envOf cn cs L a ccd)).depth (callerA.deeper (envOf cn cs L a ccd)).units (callerA.deeper (envOf cn cs L a ccd)).guards cn cs a ccd [] [] callerA base h₀ L m s Q E B F X N T k (deep1_ok hn) (units1_ok hn) r
theorem Fn.use2 (H : Fn w need f vs news R)
    (B : Below (callerA.deeper e0) base [e0] h₀) (F : Fr h₀ L s.heap m) (X : (hd.heap_1 w.params).In h₀) (N : News h₀ L s.heap news) (T : Top hd.view_39 [Str.ofString "REACH"] mean mg mb h₀) (k : cs.kind = .function) (hn : need ≤ 200) (r : R w h₀ L m news s Q E) :
    wpAny (model PySem.Challenge.rw_nt0166_01.row.prog w) ((callerA.deeper e0).deeper (envOf cn cs L a ccd)) (call (.ref f) vs) Q E s :=
  H mean mg mb ((callerA.deeper e0).deeper (envOf cn cs L a ccd)).depth ((callerA.deeper e0).deeper (envOf cn cs L a ccd)).units ((callerA.deeper e0).deeper (envOf cn cs L a ccd)).guards cn cs a ccd [] [e0] (callerA.deeper e0) base h₀ L m s Q E B F X N T k (deep2_ok hn) (units2_ok hn) r
theorem Fn.use3 (H : Fn w need f vs news R)
    (B : Below ((callerA.deeper e0).deeper e1) base [e1, e0] h₀) (F : Fr h₀ L s.heap m) (X : (hd.heap_1 w.params).In h₀) (N : News h₀ L s.heap news) (T : Top hd.view_39 [Str.ofString "REACH"] mean mg mb h₀) (k : cs.kind = .function) (hn : need ≤ 200) (r : R w h₀ L m news s Q E) :
    wpAny (model PySem.Challenge.rw_nt0166_01.row.prog w) (((callerA.deeper e0).deeper e1).deeper (envOf cn cs L a ccd)) (call (.ref f) vs) Q E s :=
  H mean mg mb (((callerA.deeper e0).deeper e1).deeper (envOf cn cs L a ccd)).depth (((callerA.deeper e0).deeper e1).deeper (envOf cn cs L a ccd)).units (((callerA.deeper e0).deeper e1).deeper (envOf cn cs L a ccd)).guards cn cs a ccd [] [e1, e0] ((callerA.deeper e0).deeper e1) base h₀ L m s Q E B F X N T k (deep3_ok hn) (units3_ok hn) r
end
abbrev FnL (w : World) (f : Addr) (vs : List Value) (news : List (Addr × Obj)) (R : Ret) : Prop :=
  ∀ (mean : ExcName → Option Value) (mg mb : Str → Option Value) (cn : Str) (cs : Scope) (a : Addr) (ccd : Value) (base h₀ : Heap) (L : Addr) (m : Str → Option Value) (s : Shared) (Q E : Value → Shared → Prop),
    Below callerA base [] h₀ → Fr h₀ L s.heap m → (hd.heap_1 w.params).In h₀ → News h₀ L s.heap news → Top hd.view_39 [Str.ofString "REACH"] mean mg mb h₀ → cs.kind = .function → R w h₀ L m news s Q E →
      wpAny (model PySem.Challenge.rw_nt0166_01.row.prog w) (callerA.deeper (envOf cn cs L a ccd)) (call (.ref f) vs) Q E s
theorem FnL.use {w : World} {f : Addr} {vs : List Value} {news : List (Addr × Obj)} {R : Ret} (H : FnL w f vs news R)
    {mean : ExcName → Option Value} {mg mb : Str → Option Value} {cn : Str} {cs : Scope} {a : Addr} {ccd : Value} {base h₀ : Heap} {L : Addr} {m : Str → Option Value} {s : Shared} {Q E : Value → Shared → Prop}
    (B : Below callerA base [] h₀) (F : Fr h₀ L s.heap m) (X : (hd.heap_1 w.params).In h₀) (N : News h₀ L s.heap news) (T : Top hd.view_39 [Str.ofString "REACH"] mean mg mb h₀) (k : cs.kind = .function) (r : R w h₀ L m news s Q E) :
    wpAny (model PySem.Challenge.rw_nt0166_01.row.prog w) (callerA.deeper (envOf cn cs L a ccd)) (call (.ref f) vs) Q E s := H mean mg mb cn cs a ccd base h₀ L m s Q E B F X N T k r
end
section -- XD
open PySem PySem.W PyProof.Rows PySem.Calls PySem.Spec
variable (w : World)
set_option maxRecDepth 100000
set_option maxHeartbeats 8000000
local macro_rules | `(tactic| o_head $H) => `(tactic| (refine' Fn.use3 $H ?k1 ?k2 ?k3 ?k4 ?k5 ?k6 ?k7 ?_; (case k1 | k2 | k3 | k4 | k5 => k_asm); (case k6 => exact rfl); (case k7 => decide)))
abbrev RetX (base h₀ : Heap) (L : Addr) (m : Str → Option Value) (outer : List Env) (news : List (Addr × Obj)) (s : Shared) (E : Value → Shared → Prop) : Prop :=
  ∀ (G : Heap) (e dd l : Addr) (x y z : Int) (a b c u v : Tok) (h' : Heap) (tk' : Nat), Fr h₀ L G m → RX base G outer e dd (ExcIn l dd x y z a b c u v ++ news) h' → G.UpToSlots h' → E (.ref e) { s with heap := h', toks := tk' }
abbrev FnX (w : World) (vs : List Value) (news : List (Addr × Obj)) : Prop :=
  ∀ (mean : ExcName → Option Value) (mg mb : Str → Option Value) (cn : Str) (cs : Scope) (a : Addr) (ccd : Value) (base h₀ : Heap) (L : Addr) (m : Str → Option Value) (s : Shared) (Q E : Value → Shared → Prop) (e0 : Env),
    Below (callerA.deeper e0) base [e0] h₀ → Fr h₀ L s.heap m → (hd.heap_1 w.params).In h₀ → News h₀ L s.heap news → Top hd.view_39 [Str.ofString "REACH"] mean mg mb h₀ → (hd.heap_1 w.params).In base → Top hd.view_39 [Str.ofString "REACH"] mean mg mb base → KtsDicts ([e0].filterMap (·.frame)) h₀ → cs.kind = .function →
    RetX base h₀ L m [envOf cn cs L a ccd, e0] news s E →
      wpAny (model PySem.Challenge.rw_nt0166_01.row.prog w) ((callerA.deeper e0).deeper (envOf cn cs L a ccd)) (call (.ref 268) vs) Q E s
local macro_rules | `(tactic| walk_at "exec Raise some none") => `(tactic| (k_here; (with_reducible show wpAny _ _ (exec (Stmt.Raise (some (Expr.Call (Expr.Name _ _) [Expr.Name _ _] [] _)) none _) _) _ _ _); k_dflt (refine' x_raise2 ?q ?hh ?_; (case q => kts_isx); (case hh => exact rfl))))
local macro_rules | `(tactic| walk_at "call ref") => `(tactic| (k_here; (with_reducible show wpAny _ _ (call (Value.ref 70) _ _) _ _ _); (refine' x_make ?k1 ?_; (case k1 => first | assumption | exact Frag.In.keeps (by assumption) (Fr.keep (by assumption)) | k_asm)); intro e9 t9 d9 l9 x9 y9 z9 a9 b9 c9 u9 v9 h9 tk9 K9 G9 N9 M9; (try dsimp only)))
theorem sq_dom_int (p n : Int) (t1 t2 t3 : Tok) (hn : -(2 ^ 20) < n ∧ n < 0) (news) : FnX w [.int p t1, .int n t2, .str (Str.ofString "law") t3] news := by
  dsimp only [FnX, RetX]
  k_fill
  k_with_none
  intros
  rename_i hE
  have hs : Int.sign n = -1 := Int.sign_eq_neg_one_of_neg hn.2
  refine wpAny_call ?_
  (refine' code_defS ?k1 ?k2 ?k3 ?k4 ?k5 ?XB ?TB ?D ?T0 ?kA ?k6 ?k7 ?k8 ?k9 ?kB ?_ ?cK ?c2 ?c3 ?c4 ?c5; (case kA => exact rfl); (case k2 => k_asm); (case k1 => k_asm); (case XB => assumption); (case TB => assumption); (case D => assumption); (case T0 => first | assumption | exact KtsTurn.refl); (case k3 => k_asm); (case k4 => k_asm); (case k5 => k_asm); (case k6 => k_is); (case k7 => k_is); (case k8 => k_room); (case k9 => first | exact binds_K (by k_in) rfl (by k_is) rfl rfl rfl | exact BindsTo.of_eq rfl | fail "kts_go: no rule for these arguments"); (case kB => exact locs rfl); (case cK => assumption); (case c2 => exact rfl); (case c3 => exact rfl); (case c4 => exact rfl); (case c5 => decide); k_whole; intro g' L' h' FG' F' N' B' X' T' D'; (try dsimp only); (try k_fold))
  k_steps
  all_goals first
    | (exfalso; omega)
    | (refine' rx_leave (more := ExcIn _ _ _ _ _ _ _ _ _ _) ?k1 ?k2 ?k3 ?k4 ?k5 ?k6 ?k7 ?_ ?k8; (case k1 => assumption); (case k2 => assumption); (case k3 => assumption); (case k4 => assumption); (case k5 => assumption); (case k6 => assumption); (case k7 => assumption); (case k8 => exact rfl); (intro h8 R8 U8; exact hE _ _ _ _ _ _ _ _ _ _ _ _ _ _ (by assumption) R8 U8))
theorem sq_dom_ratio (p : Int) (x : Addr) (t b : Int) (t1 t3 : Tok) (hn : -(2 ^ 20) < t ∧ t < 0) (news) (hx : IsRatio w news x t b) : FnX w [.int p t1, .ref x, .str (Str.ofString "law") t3] news := by
  obtain ⟨xd, xa, xb, xu, xv, hx, hd⟩ := hx
  dsimp only [FnX, RetX]
  k_fill
  k_with_none
  intros
  rename_i hE
  have hs : Int.sign t = -1 := Int.sign_eq_neg_one_of_neg hn.2
  refine wpAny_call ?_
  (refine' code_defS ?k1 ?k2 ?k3 ?k4 ?k5 ?XB ?TB ?D ?T0 ?kA ?k6 ?k7 ?k8 ?k9 ?kB ?_ ?cK ?c2 ?c3 ?c4 ?c5; (case kA => exact rfl); (case k2 => k_asm); (case k1 => k_asm); (case XB => assumption); (case TB => assumption); (case D => assumption); (case T0 => first | assumption | exact KtsTurn.refl); (case k3 => k_asm); (case k4 => k_asm); (case k5 => k_asm); (case k6 => k_is); (case k7 => k_is); (case k8 => k_room); (case k9 => first | exact binds_K (by k_in) rfl (by k_is) rfl rfl rfl | exact BindsTo.of_eq rfl | fail "kts_go: no rule for these arguments"); (case kB => exact locs rfl); (case cK => assumption); (case c2 => exact rfl); (case c3 => exact rfl); (case c4 => exact rfl); (case c5 => decide); k_whole; intro g' L' h' FG' F' N' B' X' T' D'; (try dsimp only); (try k_fold))
  k_steps
  all_goals first
    | (exfalso; omega)
    | (refine' rx_leave (more := ExcIn _ _ _ _ _ _ _ _ _ _) ?k1 ?k2 ?k3 ?k4 ?k5 ?k6 ?k7 ?_ ?k8; (case k1 => assumption); (case k2 => assumption); (case k3 => assumption); (case k4 => assumption); (case k5 => assumption); (case k6 => assumption); (case k7 => assumption); (case k8 => exact rfl); (intro h8 R8 U8; exact hE _ _ _ _ _ _ _ _ _ _ _ _ _ _ (by assumption) R8 U8))
theorem sq_dom_real (p : Int) (x : Addr) (n e : Int) (t1 t3 : Tok) (hn : -(2 ^ 20) < n ∧ n < 0) (news) (hx : IsReal w news x n e) : FnX w [.int p t1, .ref x, .str (Str.ofString "law") t3] news := by
  obtain ⟨xd, xa, xb, xu, xv, hx, hd⟩ := hx
  dsimp only [FnX, RetX]
  k_fill
  k_with_none
  intros
  rename_i hE
  have hs : Int.sign n = -1 := Int.sign_eq_neg_one_of_neg hn.2
  refine wpAny_call ?_
  (refine' code_defS ?k1 ?k2 ?k3 ?k4 ?k5 ?XB ?TB ?D ?T0 ?kA ?k6 ?k7 ?k8 ?k9 ?kB ?_ ?cK ?c2 ?c3 ?c4 ?c5; (case kA => exact rfl); (case k2 => k_asm); (case k1 => k_asm); (case XB => assumption); (case TB => assumption); (case D => assumption); (case T0 => first | assumption | exact KtsTurn.refl); (case k3 => k_asm); (case k4 => k_asm); (case k5 => k_asm); (case k6 => k_is); (case k7 => k_is); (case k8 => k_room); (case k9 => first | exact binds_K (by k_in) rfl (by k_is) rfl rfl rfl | exact BindsTo.of_eq rfl | fail "kts_go: no rule for these arguments"); (case kB => exact locs rfl); (case cK => assumption); (case c2 => exact rfl); (case c3 => exact rfl); (case c4 => exact rfl); (case c5 => decide); k_whole; intro g' L' h' FG' F' N' B' X' T' D'; (try dsimp only); (try k_fold))
  k_steps
  all_goals first
    | (exfalso; omega)
    | (refine' rx_leave (more := ExcIn _ _ _ _ _ _ _ _ _ _) ?k1 ?k2 ?k3 ?k4 ?k5 ?k6 ?k7 ?_ ?k8; (case k1 => assumption); (case k2 => assumption); (case k3 => assumption); (case k4 => assumption); (case k5 => assumption); (case k6 => assumption); (case k7 => assumption); (case k8 => exact rfl); (intro h8 R8 U8; exact hE _ _ _ _ _ _ _ _ _ _ _ _ _ _ (by assumption) R8 U8))
end
section -- XT
open PySem PySem.W PyProof.Rows PySem.Calls PySem.Spec
variable (w : World)
set_option maxRecDepth 100000
set_option maxHeartbeats 8000000
theorem FnX.use {w : World} {vs : List Value} {news : List (Addr × Obj)} (H : FnX w vs news) {mean : ExcName → Option Value} {mg mb : Str → Option Value} {cn : Str} {cs : Scope} {a : Addr} {ccd : Value} {base h₀ : Heap} {L : Addr} {m : Str → Option Value} {s : Shared} {Q E : Value → Shared → Prop} {e0 : Env}
    (B : Below (callerA.deeper e0) base [e0] h₀) (F : Fr h₀ L s.heap m) (X : (hd.heap_1 w.params).In h₀) (N : News h₀ L s.heap news) (T : Top hd.view_39 [Str.ofString "REACH"] mean mg mb h₀) (XB : (hd.heap_1 w.params).In base) (TB : Top hd.view_39 [Str.ofString "REACH"] mean mg mb base) (D : KtsDicts ([e0].filterMap (·.frame)) h₀) (k : cs.kind = .function)
    (r : RetX base h₀ L m [envOf cn cs L a ccd, e0] news s E) :
      wpAny (model PySem.Challenge.rw_nt0166_01.row.prog w) ((callerA.deeper e0).deeper (envOf cn cs L a ccd)) (call (.ref 268) vs) Q E s := H mean mg mb cn cs a ccd base h₀ L m s Q E e0 B F X N T XB TB D k r
theorem below_self {base h₀ : Heap} (B : Below callerA base [] h₀) : Below callerA h₀ [] h₀ := ⟨B.stack, fun _ _ e => e, trivial⟩
theorem get_irr2 {w : World} {A : Around} {e dd l L : Addr} {oe : Obj} {vs : Array Value} {x y z : Int} {a b c u v : Tok} {Q E : Value → Shared → Prop} {s : Shared} {h₀ : Heap} {news : List (Addr × Obj)} (N : News h₀ L s.heap news) (X : (hd.heap_1 w.params).In s.heap)
    (he : (e, oe) ∈ news) (hc : oe.cls = .ref 70) (hdi : oe.dict = some dd) (hv : oe.data = .fields vs) (hdd : (dd, excD l x y z a b c u v) ∈ news) (hq : Q (.ref l) { s with toks := s.toks + 1 }) :
    wpAny (model PySem.Challenge.rw_nt0166_01.row.prog w) A (getAttr (.ref e) (Str.ofString "irritants") true) Q E s := by
  obtain ⟨h, g, d, tk, os⟩ := s
  exact get_irr w h g d tk os A e dd l oe vs x y z a b c u v Q E (N _ he).1 hc hdi hv (N _ hdd).1 hq X
local macro_rules | `(tactic| o_head $H) => `(tactic| (refine' FnX.use $H ?k1 ?k2 ?k3 ?k4 ?k5 ?k6 ?k7 ?k8 ?k9 ?_; (case k1 | k2 | k3 | k4 | k5 => k_asm); (case k6 => assumption); (case k7 => assumption); (case k8 => assumption); (case k9 => exact rfl)))
local macro_rules | `(tactic| walk_at "noteFrame ref") => `(tactic| (k_here; (rename RX _ _ _ _ _ _ _ => rsX); k_dflt (refine' rx_caught ?R ?F ?K ?U ?XB ?TB ?D ?T0 ?ex ?q ?_; (case R => assumption); (case F => assumption); (case K => assumption); (case U => assumption); (case XB => assumption); (case TB => assumption); (case D => assumption); (case T0 => first | assumption | exact KtsTurn.refl); (case q => kts_isx); (case ex => k_is); k_whole); intro h' g' oe' vs' tk' T' F' oc' od' ov' N' K' X' P' D'; (try simp only [List.cons_append, List.nil_append] at N'); (try k_sweep)))
local macro_rules | `(tactic| walk_at "getAttr ref") => `(tactic| (k_here; (refine' get_irr2 ?N ?X ?he ?hc ?hdi ?hv ?hdd ?_; (case hc => assumption); (case hdi => assumption); (case hv => assumption); (case N => k_asm); (case X => first | assumption | exact Frag.In.keeps (by assumption) (Fr.keep (by assumption)) | k_asm); (case he => walk_at "mine.mem"); (case hdd => walk_at "mine.mem")); (try dsimp only)))
local macro_rules | `(tactic| walk_at "call ref") => `(tactic| (k_here; (with_reducible show wpAny _ _ (call (Value.ref 268) _ _) _ _ _); o_head (sq_dom_int _ _ _ _ _ _ (by assumption) _); intro G9 e9 d9 l9 x9 y9 z9 a9 b9 c9 u9 v9 h9 tk9 F9 R9 U9; (try dsimp only)))
theorem told_dom_int (p n : Int) (t1 t2 : Tok) (hn : -(2 ^ 20) < n ∧ n < 0) (news) : FnL w 331 [.int p t1, .int n t2] news RetDomL := by
  dsimp only [FnL, RetDomL]
  k_fill
  k_with_none
  intros
  rename_i hret
  refine wpAny_call ?_
  (refine' code_defS0 ?k1 ?k2 ?k3 ?k4 ?k5 ?kA ?k6 ?k7 ?k8 ?k9 ?kB ?_ ?cK ?c2 ?c3 ?c4 ?c5; (case kA => exact rfl); (case k2 => k_asm); (case k1 => exact below_self (by assumption)); (case k3 => k_asm); (case k4 => k_asm); (case k5 => k_asm); (case k6 => k_is); (case k7 => k_is); (case k8 => k_room); (case k9 => first | exact binds_K (by k_in) rfl (by k_is) rfl rfl rfl | exact BindsTo.of_eq rfl | fail "kts_go: no rule for these arguments"); (case kB => exact locs rfl); (case cK => assumption); (case c2 => exact rfl); (case c3 => exact rfl); (case c4 => exact rfl); (case c5 => decide); k_whole; intro g' L' h' FG' F' N' B' X' T' D'; (try dsimp only); (try k_fold))
  k_steps
  all_goals first
    | (exfalso; omega)
    | (refine' hret _ _ _ _ _ ?F (ns4 ?N); (case N => k_asm); (case F => k_asm))
local macro_rules | `(tactic| walk_at "call ref") => `(tactic| (k_here; (with_reducible show wpAny _ _ (call (Value.ref 268) _ _) _ _ _); o_head (sq_dom_ratio _ _ _ _ _ _ _ (by assumption) _ ?hx); walk_at "mine.hx"; intro G9 e9 d9 l9 x9 y9 z9 a9 b9 c9 u9 v9 h9 tk9 F9 R9 U9; (try dsimp only)))
theorem told_dom_ratio (p : Int) (x : Addr) (t b : Int) (t1 : Tok) (hn : -(2 ^ 20) < t ∧ t < 0) (news) (hx : IsRatio w news x t b) : FnL w 331 [.int p t1, .ref x] news RetDomL := by
  obtain ⟨xd, xa, xb, xu, xv, hx, hd⟩ := hx
  dsimp only [FnL, RetDomL]
  k_fill
  k_with_none
  intros
  rename_i hret
  refine wpAny_call ?_
  (refine' code_defS0 ?k1 ?k2 ?k3 ?k4 ?k5 ?kA ?k6 ?k7 ?k8 ?k9 ?kB ?_ ?cK ?c2 ?c3 ?c4 ?c5; (case kA => exact rfl); (case k2 => k_asm); (case k1 => exact below_self (by assumption)); (case k3 => k_asm); (case k4 => k_asm); (case k5 => k_asm); (case k6 => k_is); (case k7 => k_is); (case k8 => k_room); (case k9 => first | exact binds_K (by k_in) rfl (by k_is) rfl rfl rfl | exact BindsTo.of_eq rfl | fail "kts_go: no rule for these arguments"); (case kB => exact locs rfl); (case cK => assumption); (case c2 => exact rfl); (case c3 => exact rfl); (case c4 => exact rfl); (case c5 => decide); k_whole; intro g' L' h' FG' F' N' B' X' T' D'; (try dsimp only); (try k_fold))
  k_steps
  all_goals first
    | (exfalso; omega)
    | (refine' hret _ _ _ _ _ ?F (ns4 ?N); (case N => k_asm); (case F => k_asm))
local macro_rules | `(tactic| walk_at "call ref") => `(tactic| (k_here; (with_reducible show wpAny _ _ (call (Value.ref 268) _ _) _ _ _); o_head (sq_dom_real _ _ _ _ _ _ _ (by assumption) _ ?hx); walk_at "mine.hx"; intro G9 e9 d9 l9 x9 y9 z9 a9 b9 c9 u9 v9 h9 tk9 F9 R9 U9; (try dsimp only)))
theorem told_dom_real (p : Int) (x : Addr) (n e : Int) (t1 : Tok) (hn : -(2 ^ 20) < n ∧ n < 0) (news) (hx : IsReal w news x n e) : FnL w 331 [.int p t1, .ref x] news RetDomL := by
  obtain ⟨xd, xa, xb, xu, xv, hx, hd⟩ := hx
  dsimp only [FnL, RetDomL]
  k_fill
  k_with_none
  intros
  rename_i hret
  refine wpAny_call ?_
  (refine' code_defS0 ?k1 ?k2 ?k3 ?k4 ?k5 ?kA ?k6 ?k7 ?k8 ?k9 ?kB ?_ ?cK ?c2 ?c3 ?c4 ?c5; (case kA => exact rfl); (case k2 => k_asm); (case k1 => exact below_self (by assumption)); (case k3 => k_asm); (case k4 => k_asm); (case k5 => k_asm); (case k6 => k_is); (case k7 => k_is); (case k8 => k_room); (case k9 => first | exact binds_K (by k_in) rfl (by k_is) rfl rfl rfl | exact BindsTo.of_eq rfl | fail "kts_go: no rule for these arguments"); (case kB => exact locs rfl); (case cK => assumption); (case c2 => exact rfl); (case c3 => exact rfl); (case c4 => exact rfl); (case c5 => decide); k_whole; intro g' L' h' FG' F' N' B' X' T' D'; (try dsimp only); (try k_fold))
  k_steps
  all_goals first
    | (exfalso; omega)
    | (refine' hret _ _ _ _ _ ?F (ns4 ?N); (case N => k_asm); (case F => k_asm))
end
section -- XA
open PySem PySem.W PyProof.Rows PySem.Calls PySem.Spec
variable (w : World)
theorem told_all_int (p n : Int) (t1 t2 : Tok) (hp : 2 ≤ p ∧ p ≤ 9) (hn : -(2 ^ 20) < n ∧ n < 2 ^ 20) (news) : FnL w 331 [.int p t1, .int n t2] news (RetAns (isq n * isq n = n ∧ isq 1 * isq 1 = 1) p n 1) := by
  intro mean mg mb cn cs a ccd base h₀ L m s Q E B F X N T k r
  rcases Int.lt_or_le n 0 with h | h
  · exact told_dom_int w p n t1 t2 ⟨hn.1, h⟩ news mean mg mb cn cs a ccd base h₀ L m s Q E B F X N T k (r.1 h)
  · exact Fn.use1 (told_int_spec w p n t1 t2 hp ⟨h, hn.2⟩ news) B F X N T k (by decide) ⟨r.2.1 h, r.2.2.1 h, r.2.2.2 h⟩
theorem told_all_ratio (p : Int) (x : Addr) (t b : Int) (t1 : Tok) (hp : 2 ≤ p ∧ p ≤ 9) (ht : -1000 < t ∧ t < 1000 ∧ t ≠ 0) (hb : 2 ≤ b ∧ b < 1000) (news) (hx : IsRatio w news x t b) : FnL w 331 [.int p t1, .ref x] news (RetAns (isq t * isq t = t ∧ isq b * isq b = b) p t b) := by
  intro mean mg mb cn cs a ccd base h₀ L m s Q E B F X N T k r
  rcases Int.lt_or_le t 0 with h | h
  · exact told_dom_ratio w p x t b t1 ⟨by omega, h⟩ news hx mean mg mb cn cs a ccd base h₀ L m s Q E B F X N T k (r.1 h)
  · exact Fn.use1 (told_ratio_spec w p x t b t1 hp ⟨by omega, by omega⟩ ⟨by omega, by omega⟩ news hx) B F X N T k (by decide) ⟨r.2.1 h, r.2.2.1 h, r.2.2.2 h⟩
theorem told_all_real (p : Int) (x : Addr) (n e : Int) (t1 : Tok) (hp : 2 ≤ p ∧ p ≤ 9) (hn : -512 ≤ n ∧ n ≤ 512) (he : -20 ≤ e ∧ e ≤ 20) (hz : n = 0 → e = 0) (news) (hx : IsReal w news x n e) : FnL w 331 [.int p t1, .ref x] news (RetAns False p (frT n e) (frB e)) := by
  intro mean mg mb cn cs a ccd base h₀ L m s Q E B F X N T k r
  have hT := frT_in hn he
  rcases Int.lt_or_le n 0 with h | h
  · exact told_dom_real w p x n e t1 ⟨by omega, h⟩ news hx mean mg mb cn cs a ccd base h₀ L m s Q E B F X N T k (r.1 (hT.2.2.1.mpr h))
  · have h0 : 0 ≤ frT n e := by omega
    by_cases h1 : n = 0
    · obtain rfl := hz h1
      subst h1
      exact Fn.use1 (told_zero_spec w p x t1 news hx) B F X N T k (by decide) ⟨r.2.1 h0, r.2.2.1 h0, r.2.2.2 h0⟩
    · exact Fn.use1 (told_real_spec w p x n e t1 hp ⟨by omega, hn.2⟩ he news hx) B F X N T k (by decide) ⟨r.2.1 h0, r.2.2.1 h0, r.2.2.2 h0⟩
end
section -- L0
open PySem PySem.W PyProof.Rows PySem.Calls PySem.Spec
variable (w : World)
set_option maxRecDepth 100000
set_option maxHeartbeats 8000000
theorem ratio_tl {w : World} {news : List (Addr × Obj)} {q : Addr × Obj} {x : Addr} {t b : Int} (h : IsRatio w news x t b) : IsRatio w (q :: news) x t b := by
  obtain ⟨d, a, b', u, v, h1, h2⟩ := h
  exact ⟨d, a, b', u, v, List.mem_cons_of_mem _ h1, List.mem_cons_of_mem _ h2⟩
theorem real_tl {w : World} {news : List (Addr × Obj)} {q : Addr × Obj} {x : Addr} {n e : Int} (h : IsReal w news x n e) : IsReal w (q :: news) x n e := by
  obtain ⟨d, a, b', u, v, h1, h2⟩ := h
  exact ⟨d, a, b', u, v, List.mem_cons_of_mem _ h1, List.mem_cons_of_mem _ h2⟩
theorem ratio_0 {w : World} {news : List (Addr × Obj)} {x d : Addr} {t b : Int} {i j k l : Tok} : IsRatio w ((x, instObj 180 d) :: (d, ratioD w.params t b i j k l) :: news) x t b := ⟨d, i, j, k, l, List.mem_cons_self, List.mem_cons_of_mem _ List.mem_cons_self⟩
theorem real_0 {w : World} {news : List (Addr × Obj)} {x d : Addr} {n e : Int} {i j k l : Tok} : IsReal w ((x, instObj 89 d) :: (d, realD w.params n e i j k l) :: news) x n e := ⟨d, i, j, k, l, List.mem_cons_self, List.mem_cons_of_mem _ List.mem_cons_self⟩
theorem look_swap {K : Frag} {f : Addr} {o o' : Obj} {R : Prop} (h : K.lookup f = some o) (k : K.lookup f = some o') (r : o = o' → R) : R := r (Option.some.inj (h.symm.trans k))
/-- the law's def, its loop's five statements -/
def LawDef (K : Frag) (qual : Str) (sA sB sC sD sE : Stmt) (scope : Scope) : Prop := ∃ oc od osl name params st1 st2 st4 ti ii orelse tpos dV kV doc pm cdv ct an,
  K.lookup 336 = some ⟨oc, od, .func (fnOf name qual params [st1, st2, .For ti ii [sA, sB, sC, sD, sE] orelse tpos, st4] scope dV kV doc pm an cdv ct), osl⟩
noncomputable abbrev sNum : Str := Str.ofString "number"
noncomputable abbrev lawM (V : Value) (c p : Int) (ctk bt : Tok) (kU m : Str → Option Value) : Str → Option Value := fun y => if y = Str.ofString "number" then some V else if y = Str.ofString "code" then some (.int c ctk) else if [Str.ofString "number", Str.ofString "whole", Str.ofString "due"].contains y = true then kU y else if y = Str.ofString "bits" then some (.int p bt) else m y
end
section
local macro_rules | `(tactic| o_head $H) => `(tactic| first | (refine' Fn.use1 $H ?k1 ?k2 ?k3 ?k4 ?k5 ?k6 ?k7 ?_; (case k1 | k2 | k3 | k4 | k5 => k_asm); (case k6 => exact rfl); (case k7 => decide)) | (refine' FnL.use $H ?k1 ?k2 ?k3 ?k4 ?k5 ?k6 ?_; (case k1 | k2 | k3 | k4 | k5 => k_asm); (case k6 => first | exact rfl | assumption)))
local macro_rules | `(tactic| walk_at "mine.hx") => `(tactic| (case hx => first | assumption | exact ratio_tl (by assumption) | exact real_tl (by assumption)))
section -- LA
open PySem PySem.W PyProof.Rows PySem.Calls PySem.Spec
variable (w : World)
set_option maxRecDepth 100000
set_option maxHeartbeats 8000000
local macro_rules | `(tactic| walk_at "call ref") => `(tactic| (k_here; (with_reducible show wpAny _ _ (call (Value.ref 317) _ _) _ _ _); o_head (law_number_spec _ _ _ _ _ (by walk_at "mine.po") _); walk_at "mine.tnum"))
theorem segA (p c : Int) (news : List (Addr × Obj)) {qual : Str} {sA sB sC sD sE : Stmt} {scope : Scope} (hlk : LawDef (hd.heap_1 w.params) qual sA sB sC sD sE scope) (hp : 2 ≤ p ∧ p ≤ 9)
    {mean : ExcName → Option Value} {mg mb : Str → Option Value} {base h₀ : Heap} {L a : Addr} {ccd : Value} {s : Shared} {Q : Flow → Shared → Prop} {E : Value → Shared → Prop} {m kU : Str → Option Value} {bt ctk : Tok}
    (B : Below callerA base [] h₀) (F : Fr h₀ L s.heap (fun y => if y = Str.ofString "code" then some (.int c ctk) else if [Str.ofString "number", Str.ofString "whole", Str.ofString "due"].contains y = true then kU y else if y = Str.ofString "bits" then some (.int p bt) else m y)) (X : (hd.heap_1 w.params).In h₀) (N : News h₀ L s.heap news) (T : Top hd.view_39 [Str.ofString "REACH"] mean mg mb h₀)
    (hQ : (∀ (n : Int) (t2 : Tok) (h' : Heap) (tk' : Nat), (-(2 ^ 20) < n ∧ n < 2 ^ 20) → Fr h₀ L h' (lawM (.int n t2) c p ctk bt kU m) → News h₀ L h' news → Q .next { s with heap := h', toks := tk' }) ∧
     (∀ (t b : Int) (x : Addr) (new : List (Addr × Obj)) (h' : Heap) (tk' : Nat), (-1000 < t ∧ t < 1000 ∧ t ≠ 0) → (2 ≤ b ∧ b < 1000) → IsRatio w (new ++ news) x t b → Fr h₀ L h' (lawM (.ref x) c p ctk bt kU m) → News h₀ L h' (new ++ news) → Q .next { s with heap := h', toks := tk' }) ∧
     (∀ (n e : Int) (x : Addr) (new : List (Addr × Obj)) (h' : Heap) (tk' : Nat), (n = 0 → e = 0) → (-512 ≤ n ∧ n ≤ 512) → (-20 ≤ e ∧ e ≤ 20) → IsReal w (new ++ news) x n e → Fr h₀ L h' (lawM (.ref x) c p ctk bt kU m) → News h₀ L h' (new ++ news) → Q .next { s with heap := h', toks := tk' })) :
    wpAny (model PySem.Challenge.rw_nt0166_01.row.prog w) (callerA.deeper (envOf qual scope L a ccd)) (exec sA (envOf qual scope L a ccd)) Q E s := by
  obtain ⟨oc, od, osl, name, params, st1, st2, st4, ti, ii, orelse, tpos, dV, kV, doc, pm, cdv, ct, an, hlk⟩ := hlk
  revert hQ T N X F B
  k_fill
  k_with_none
  refine' look_swap hlk ?k ?_
  case k => k_is
  intro h2
  dsimp only [fnOf] at h2
  cases h2
  intro B F X N T hQ
  clear hlk
  obtain ⟨hq1, hq2, hq3⟩ := hQ
  k_steps
  all_goals first
    | (exfalso; omega)
    | (refine' hq1 _ _ _ _ ?c1 ?F ?N; (case N => k_asm); (case F => k_asm); (case c1 => assumption))
    | (refine' hq2 _ _ _ [_, _] _ _ ?c1 ?c2 ratio_0 ?F ?N; (case N => k_asm); (case F => k_asm); (case c1 => assumption); (case c2 => assumption))
    | (refine' hq3 _ _ _ [_, _] _ _ ?c1 ?c2 ?c3 real_0 ?F ?N; (case N => k_asm); (case F => k_asm); (case c1 => assumption); (case c2 => assumption); (case c3 => assumption))
end
section -- LBint
open PySem PySem.W PyProof.Rows PySem.Calls PySem.Spec
variable (w : World)
set_option maxRecDepth 100000
set_option maxHeartbeats 8000000
local macro_rules | `(tactic| walk_at "call ref") => `(tactic| (k_here; (with_reducible show wpAny _ _ (call (Value.ref 324) _ _) _ _ _); o_head (due_root_int_spec _ _ _ _ _ (by walk_at "mine.po") (by walk_at "mine.po") _); walk_at "mine.tans"))
local macro_rules | `(tactic| walk_at "call ref") => `(tactic| (k_here; (with_reducible show wpAny _ _ (call (Value.ref 331) _ _) _ _ _); o_head (told_all_int _ _ _ _ _ (by walk_at "mine.po") (by walk_at "mine.po") _); walk_at "mine.tans"))
theorem segB_int (p c n : Int) (t2 : Tok) (news : List (Addr × Obj)) {qual : Str} {sA sB sC sD sE : Stmt} {scope : Scope} (hlk : LawDef (hd.heap_1 w.params) qual sA sB sC sD sE scope) (hp : 2 ≤ p ∧ p ≤ 9) (hn : -(2 ^ 20) < n ∧ n < 2 ^ 20)
    {mean : ExcName → Option Value} {mg mb : Str → Option Value} {base h₀ : Heap} {L a : Addr} {ccd : Value} {s : Shared} {Q : Flow → Shared → Prop} {E : Value → Shared → Prop} {m kU : Str → Option Value} {bt ctk : Tok}
    (B : Below callerA base [] h₀) (F : Fr h₀ L s.heap (lawM (.int n t2) c p ctk bt kU m)) (X : (hd.heap_1 w.params).In h₀) (N : News h₀ L s.heap news) (T : Top hd.view_39 [Str.ofString "REACH"] mean mg mb h₀)
    (hQ : ∀ h' tk', Fr h₀ L h' (lawM (.int n t2) c p ctk bt kU m) → News h₀ L h' news → Q .next { s with heap := h', toks := tk' }) :
    wpAny (model PySem.Challenge.rw_nt0166_01.row.prog w) (callerA.deeper (envOf qual scope L a ccd)) (exec sB (envOf qual scope L a ccd)) Q E s := by
  obtain ⟨oc, od, osl, name, params, st1, st2, st4, ti, ii, orelse, tpos, dV, kV, doc, pm, cdv, ct, an, hlk⟩ := hlk
  revert hQ T N X F B
  k_fill
  k_with_none
  refine' look_swap hlk ?k ?_
  case k => k_is
  intro h2
  dsimp only [fnOf] at h2
  cases h2
  intro B F X N T hQ
  clear hlk
  k_steps
  all_goals first
    | (exfalso; omega)
    | (refine' hQ _ _ ?F (ntl (ntl ?N)); (case N => k_asm); (case F => k_asm))
local macro_rules | `(tactic| walk_at "call ref") => `(tactic| (k_here; (with_reducible show wpAny _ _ (call (Value.ref 289) _ _) _ _ _); o_head (law_fraction_int_spec _ _ _ _); walk_at "mine.i"))
theorem segC_int (p c n : Int) (t2 : Tok) (news : List (Addr × Obj)) {qual : Str} {sA sB sC sD sE : Stmt} {scope : Scope} (hlk : LawDef (hd.heap_1 w.params) qual sA sB sC sD sE scope) (hp : 2 ≤ p ∧ p ≤ 9) (hn : -(2 ^ 20) < n ∧ n < 2 ^ 20)
    {mean : ExcName → Option Value} {mg mb : Str → Option Value} {base h₀ : Heap} {L a : Addr} {ccd : Value} {s : Shared} {Q : Flow → Shared → Prop} {E : Value → Shared → Prop} {m kU : Str → Option Value} {bt ctk : Tok}
    (B : Below callerA base [] h₀) (F : Fr h₀ L s.heap (lawM (.int n t2) c p ctk bt kU m)) (X : (hd.heap_1 w.params).In h₀) (N : News h₀ L s.heap news) (T : Top hd.view_39 [Str.ofString "REACH"] mean mg mb h₀)
    (hQ : ∀ wt h' tk', Fr h₀ L h' (fun y => if y = Str.ofString "whole" then some (.int (n) wt) else lawM (.int n t2) c p ctk bt kU m y) → News h₀ L h' news → Q .next { s with heap := h', toks := tk' }) :
    wpAny (model PySem.Challenge.rw_nt0166_01.row.prog w) (callerA.deeper (envOf qual scope L a ccd)) (exec sC (envOf qual scope L a ccd)) Q E s := by
  obtain ⟨oc, od, osl, name, params, st1, st2, st4, ti, ii, orelse, tpos, dV, kV, doc, pm, cdv, ct, an, hlk⟩ := hlk
  revert hQ T N X F B
  k_fill
  k_with_none
  refine' look_swap hlk ?k ?_
  case k => k_is
  intro h2
  dsimp only [fnOf] at h2
  cases h2
  intro B F X N T hQ
  clear hlk
  k_steps
  all_goals first
    | (exfalso; omega)
    | (refine' hQ _ _ _ ?F (ntl ?N); (case N => k_asm); (case F => k_asm))
end
section -- LBratio
open PySem PySem.W PyProof.Rows PySem.Calls PySem.Spec
variable (w : World)
set_option maxRecDepth 100000
set_option maxHeartbeats 8000000
local macro_rules | `(tactic| walk_at "call ref") => `(tactic| (k_here; (with_reducible show wpAny _ _ (call (Value.ref 324) _ _) _ _ _); o_head (due_root_ratio_spec _ _ _ _ _ _ ?r1 ?r2 ?r3 _ ?hx); walk_at "mine.hx"; walk_at "mine.r3pos"; walk_at "mine.tans"))
local macro_rules | `(tactic| walk_at "call ref") => `(tactic| (k_here; (with_reducible show wpAny _ _ (call (Value.ref 331) _ _) _ _ _); o_head (told_all_ratio _ _ _ _ _ _ ?r1 ?r2 ?r3 _ ?hx); walk_at "mine.hx"; walk_at "mine.r3pos"; walk_at "mine.tans"))
theorem segB_ratio (p c t b : Int) (x : Addr) (news : List (Addr × Obj)) {qual : Str} {sA sB sC sD sE : Stmt} {scope : Scope} (hlk : LawDef (hd.heap_1 w.params) qual sA sB sC sD sE scope) (hp : 2 ≤ p ∧ p ≤ 9) (ht : -1000 < t ∧ t < 1000 ∧ t ≠ 0) (hb : 2 ≤ b ∧ b < 1000) (hx : IsRatio w news x t b)
    {mean : ExcName → Option Value} {mg mb : Str → Option Value} {base h₀ : Heap} {L a : Addr} {ccd : Value} {s : Shared} {Q : Flow → Shared → Prop} {E : Value → Shared → Prop} {m kU : Str → Option Value} {bt ctk : Tok}
    (B : Below callerA base [] h₀) (F : Fr h₀ L s.heap (lawM (.ref x) c p ctk bt kU m)) (X : (hd.heap_1 w.params).In h₀) (N : News h₀ L s.heap news) (T : Top hd.view_39 [Str.ofString "REACH"] mean mg mb h₀)
    (hQ : ∀ h' tk', Fr h₀ L h' (lawM (.ref x) c p ctk bt kU m) → News h₀ L h' news → Q .next { s with heap := h', toks := tk' }) :
    wpAny (model PySem.Challenge.rw_nt0166_01.row.prog w) (callerA.deeper (envOf qual scope L a ccd)) (exec sB (envOf qual scope L a ccd)) Q E s := by
  obtain ⟨oc, od, osl, name, params, st1, st2, st4, ti, ii, orelse, tpos, dV, kV, doc, pm, cdv, ct, an, hlk⟩ := hlk
  revert hQ T N X F B
  k_fill
  k_with_none
  refine' look_swap hlk ?k ?_
  case k => k_is
  intro h2
  dsimp only [fnOf] at h2
  cases h2
  intro B F X N T hQ
  clear hlk
  k_steps
  all_goals first
    | (exfalso; omega)
    | (refine' hQ _ _ ?F (ntl (ntl ?N)); (case N => k_asm); (case F => k_asm))
local macro_rules | `(tactic| walk_at "call ref") => `(tactic| (k_here; (with_reducible show wpAny _ _ (call (Value.ref 289) _ _) _ _ _); o_head (law_fraction_ratio_spec _ _ _ _ _ ?hx); walk_at "mine.hx"; walk_at "mine.i"))
theorem segC_ratio (p c t b : Int) (x : Addr) (news : List (Addr × Obj)) {qual : Str} {sA sB sC sD sE : Stmt} {scope : Scope} (hlk : LawDef (hd.heap_1 w.params) qual sA sB sC sD sE scope) (hp : 2 ≤ p ∧ p ≤ 9) (ht : -1000 < t ∧ t < 1000 ∧ t ≠ 0) (hb : 2 ≤ b ∧ b < 1000) (hx : IsRatio w news x t b)
    {mean : ExcName → Option Value} {mg mb : Str → Option Value} {base h₀ : Heap} {L a : Addr} {ccd : Value} {s : Shared} {Q : Flow → Shared → Prop} {E : Value → Shared → Prop} {m kU : Str → Option Value} {bt ctk : Tok}
    (B : Below callerA base [] h₀) (F : Fr h₀ L s.heap (lawM (.ref x) c p ctk bt kU m)) (X : (hd.heap_1 w.params).In h₀) (N : News h₀ L s.heap news) (T : Top hd.view_39 [Str.ofString "REACH"] mean mg mb h₀)
    (hQ : ∀ wt h' tk', Fr h₀ L h' (fun y => if y = Str.ofString "whole" then some (.int (t) wt) else lawM (.ref x) c p ctk bt kU m y) → News h₀ L h' news → Q .next { s with heap := h', toks := tk' }) :
    wpAny (model PySem.Challenge.rw_nt0166_01.row.prog w) (callerA.deeper (envOf qual scope L a ccd)) (exec sC (envOf qual scope L a ccd)) Q E s := by
  obtain ⟨oc, od, osl, name, params, st1, st2, st4, ti, ii, orelse, tpos, dV, kV, doc, pm, cdv, ct, an, hlk⟩ := hlk
  revert hQ T N X F B
  k_fill
  k_with_none
  refine' look_swap hlk ?k ?_
  case k => k_is
  intro h2
  dsimp only [fnOf] at h2
  cases h2
  intro B F X N T hQ
  clear hlk
  k_steps
  all_goals first
    | (exfalso; omega)
    | (refine' hQ _ _ _ ?F (ntl ?N); (case N => k_asm); (case F => k_asm))
end
section -- LBreal
open PySem PySem.W PyProof.Rows PySem.Calls PySem.Spec
variable (w : World)
set_option maxRecDepth 100000
set_option maxHeartbeats 8000000
local macro_rules | `(tactic| walk_at "call ref") => `(tactic| (k_here; (with_reducible show wpAny _ _ (call (Value.ref 324) _ _) _ _ _); o_head (due_root_real_spec _ _ _ _ _ _ ?r1 ?r2 ?r3 _ ?hx); walk_at "mine.hx"; walk_at "mine.r3pos"; walk_at "mine.tans"))
local macro_rules | `(tactic| walk_at "call ref") => `(tactic| (k_here; (with_reducible show wpAny _ _ (call (Value.ref 331) _ _) _ _ _); o_head (told_all_real _ _ _ _ _ _ ?r1 ?r2 ?r3 ?r4 _ ?hx); walk_at "mine.hx"; walk_at "mine.r4pos"; walk_at "mine.tans"))
theorem segB_real (p c n e : Int) (x : Addr) (news : List (Addr × Obj)) {qual : Str} {sA sB sC sD sE : Stmt} {scope : Scope} (hlk : LawDef (hd.heap_1 w.params) qual sA sB sC sD sE scope) (hp : 2 ≤ p ∧ p ≤ 9) (hz : n = 0 → e = 0) (hn : -512 ≤ n ∧ n ≤ 512) (he : -20 ≤ e ∧ e ≤ 20) (hx : IsReal w news x n e)
    {mean : ExcName → Option Value} {mg mb : Str → Option Value} {base h₀ : Heap} {L a : Addr} {ccd : Value} {s : Shared} {Q : Flow → Shared → Prop} {E : Value → Shared → Prop} {m kU : Str → Option Value} {bt ctk : Tok}
    (B : Below callerA base [] h₀) (F : Fr h₀ L s.heap (lawM (.ref x) c p ctk bt kU m)) (X : (hd.heap_1 w.params).In h₀) (N : News h₀ L s.heap news) (T : Top hd.view_39 [Str.ofString "REACH"] mean mg mb h₀)
    (hQ : ∀ h' tk', Fr h₀ L h' (lawM (.ref x) c p ctk bt kU m) → News h₀ L h' news → Q .next { s with heap := h', toks := tk' }) :
    wpAny (model PySem.Challenge.rw_nt0166_01.row.prog w) (callerA.deeper (envOf qual scope L a ccd)) (exec sB (envOf qual scope L a ccd)) Q E s := by
  obtain ⟨oc, od, osl, name, params, st1, st2, st4, ti, ii, orelse, tpos, dV, kV, doc, pm, cdv, ct, an, hlk⟩ := hlk
  revert hQ T N X F B
  k_fill
  k_with_none
  refine' look_swap hlk ?k ?_
  case k => k_is
  intro h2
  dsimp only [fnOf] at h2
  cases h2
  intro B F X N T hQ
  clear hlk
  k_steps
  all_goals first
    | (exfalso; omega)
    | (refine' hQ _ _ ?F (ntl (ntl ?N)); (case N => k_asm); (case F => k_asm))
local macro_rules | `(tactic| walk_at "call ref") => `(tactic| (k_here; (with_reducible show wpAny _ _ (call (Value.ref 289) _ _) _ _ _); o_head (law_fraction_real_spec _ _ _ _ ?r1 ?r2 _ ?hx); walk_at "mine.hx"; walk_at "mine.r2frac"; walk_at "mine.i"))
theorem segC_real (p c n e : Int) (x : Addr) (news : List (Addr × Obj)) {qual : Str} {sA sB sC sD sE : Stmt} {scope : Scope} (hlk : LawDef (hd.heap_1 w.params) qual sA sB sC sD sE scope) (hp : 2 ≤ p ∧ p ≤ 9) (hz : n = 0 → e = 0) (hn : -512 ≤ n ∧ n ≤ 512) (he : -20 ≤ e ∧ e ≤ 20) (hx : IsReal w news x n e)
    {mean : ExcName → Option Value} {mg mb : Str → Option Value} {base h₀ : Heap} {L a : Addr} {ccd : Value} {s : Shared} {Q : Flow → Shared → Prop} {E : Value → Shared → Prop} {m kU : Str → Option Value} {bt ctk : Tok}
    (B : Below callerA base [] h₀) (F : Fr h₀ L s.heap (lawM (.ref x) c p ctk bt kU m)) (X : (hd.heap_1 w.params).In h₀) (N : News h₀ L s.heap news) (T : Top hd.view_39 [Str.ofString "REACH"] mean mg mb h₀)
    (hQ : ∀ wt h' tk', Fr h₀ L h' (fun y => if y = Str.ofString "whole" then some (.int (frT n e) wt) else lawM (.ref x) c p ctk bt kU m y) → News h₀ L h' news → Q .next { s with heap := h', toks := tk' }) :
    wpAny (model PySem.Challenge.rw_nt0166_01.row.prog w) (callerA.deeper (envOf qual scope L a ccd)) (exec sC (envOf qual scope L a ccd)) Q E s := by
  obtain ⟨oc, od, osl, name, params, st1, st2, st4, ti, ii, orelse, tpos, dV, kV, doc, pm, cdv, ct, an, hlk⟩ := hlk
  revert hQ T N X F B
  k_fill
  k_with_none
  refine' look_swap hlk ?k ?_
  case k => k_is
  intro h2
  dsimp only [fnOf] at h2
  cases h2
  intro B F X N T hQ
  clear hlk
  k_steps
  all_goals first
    | (exfalso; omega)
    | (refine' hQ _ _ _ ?F (ntl ?N); (case N => k_asm); (case F => k_asm))
end
section -- LD
open PySem PySem.W PyProof.Rows PySem.Calls PySem.Spec
variable (w : World)
set_option maxRecDepth 100000
set_option maxHeartbeats 8000000
local macro_rules | `(tactic| walk_at "call ref") => `(tactic| (k_here; (with_reducible show wpAny _ _ (call (Value.ref 303) _ _) _ _ _); o_head (whole_root_spec _ _ _ (by walk_at "mine.ro") (by walk_at "mine.ro") _); walk_at "mine.i"))
local macro_rules | `(tactic| walk_at "call ref") => `(tactic| (k_here; (with_reducible show wpAny _ _ (call (Value.ref 226) _ _) _ _ _); o_head (root_exact_spec _ _ _ (by walk_at "mine.ro") (by walk_at "mine.ro") _); walk_at "mine.i"))
theorem segD (W : Int) (wt : Tok) (news : List (Addr × Obj)) {qual : Str} {sA sB sC sD sE : Stmt} {scope : Scope} (hlk : LawDef (hd.heap_1 w.params) qual sA sB sC sD sE scope) (hW : -(2 ^ 30) < W ∧ W < 2 ^ 30)
    {mean : ExcName → Option Value} {mg mb : Str → Option Value} {base h₀ : Heap} {L a : Addr} {ccd : Value} {s : Shared} {Q : Flow → Shared → Prop} {E : Value → Shared → Prop} {m kU : Str → Option Value} {bt ctk : Tok}
    (B : Below callerA base [] h₀) (F : Fr h₀ L s.heap (fun y => if y = Str.ofString "whole" then some (.int W wt) else m y)) (X : (hd.heap_1 w.params).In h₀) (N : News h₀ L s.heap news) (T : Top hd.view_39 [Str.ofString "REACH"] mean mg mb h₀)
    (hQ : ∀ dt h' tk', Fr h₀ L h' (fun y => if y = Str.ofString "due" then some (.int (isq (if W < 0 then -W else W)) dt) else if y = Str.ofString "whole" then some (.int W wt) else m y) → News h₀ L h' news → Q .next { s with heap := h', toks := tk' }) :
    wpAny (model PySem.Challenge.rw_nt0166_01.row.prog w) (callerA.deeper (envOf qual scope L a ccd)) (execs [sD, sE] (envOf qual scope L a ccd)) Q E s := by
  obtain ⟨oc, od, osl, name, params, st1, st2, st4, ti, ii, orelse, tpos, dV, kV, doc, pm, cdv, ct, an, hlk⟩ := hlk
  revert hQ T N X F B
  k_fill
  k_with_none
  refine' look_swap hlk ?k ?_
  case k => k_is
  intro h2
  dsimp only [fnOf] at h2
  cases h2
  intro B F X N T hQ
  clear hlk
  k_with "mul" => first | exact mulq (by omega) (by omega)
  k_steps
  all_goals first
    | (exfalso; omega)
    | (refine' hQ _ _ _ ?F (ntl (ntl (ntl ?N))); (case N => k_asm); (case F => k_asm))
end
end
section -- LE
open PySem PySem.W PyProof.Rows PySem.Calls PySem.Spec
variable (w : World)
set_option maxRecDepth 100000
set_option maxHeartbeats 8000000
abbrev noName (y : Str) : Prop := y ≠ Str.ofString "code" ∧ [Str.ofString "number", Str.ofString "whole", Str.ofString "due"].contains y = false
theorem nn {y : Str} (h : noName y) : y ≠ Str.ofString "number" ∧ y ≠ Str.ofString "whole" ∧ y ≠ Str.ofString "due" := by
  refine ⟨?_, ?_, ?_⟩ <;> (intro e; subst e; exact absurd h.2 (by decide))
theorem lawM_out {V : Value} {c p : Int} {ctk bt : Tok} {kU m : Str → Option Value} {y : Str} (h : noName y) : lawM V c p ctk bt kU m y = (if y = Str.ofString "bits" then some (.int p bt) else m y) := by
  have := nn h
  unfold lawM
  rw [if_neg this.1, if_neg h.1, if_neg (by rw [h.2]; decide)]
theorem drop_new {h₀ h : Heap} {L : Addr} {a b : List (Addr × Obj)} (N : News h₀ L h (a ++ b)) : News h₀ L h b := fun p hp => N p (List.mem_append.mpr (.inr hp))
theorem turn_spec (p c : Int) (news : List (Addr × Obj)) {qual : Str} {sA sB sC sD sE : Stmt} {scope : Scope} (hlk : LawDef (hd.heap_1 w.params) qual sA sB sC sD sE scope) (hp : 2 ≤ p ∧ p ≤ 9)
    {mean : ExcName → Option Value} {mg mb : Str → Option Value} {base h₀ : Heap} {L a : Addr} {ccd : Value} {s : Shared} {Q : Flow → Shared → Prop} {E : Value → Shared → Prop} {m kU : Str → Option Value} {bt ctk : Tok}
    (B : Below callerA base [] h₀) (F : Fr h₀ L s.heap (fun y => if y = Str.ofString "code" then some (.int c ctk) else if [Str.ofString "number", Str.ofString "whole", Str.ofString "due"].contains y = true then kU y else if y = Str.ofString "bits" then some (.int p bt) else m y)) (X : (hd.heap_1 w.params).In h₀) (N : News h₀ L s.heap news) (T : Top hd.view_39 [Str.ofString "REACH"] mean mg mb h₀)
    (hQ :  ∀ h' tk' m', Fr h₀ L h' m' → News h₀ L h' news → (∀ y, noName y → m' y = (if y = Str.ofString "bits" then some (.int p bt) else m y)) → Q .next { s with heap := h', toks := tk' }) :
    wpAny (model PySem.Challenge.rw_nt0166_01.row.prog w) (callerA.deeper (envOf qual scope L a ccd)) (execs [sA, sB, sC, sD, sE] (envOf qual scope L a ccd)) Q E s := by
  have fin : ∀ (V : Value) (W : Int) (wt : Tok) (dt : Tok) (new : List (Addr × Obj)) (h' : Heap) (tk' : Nat), Fr h₀ L h' (fun y => if y = Str.ofString "due" then some (.int (isq (if W < 0 then -W else W)) dt) else if y = Str.ofString "whole" then some (.int W wt) else lawM V c p ctk bt kU m y) → News h₀ L h' (new ++ news) → Q .next { s with heap := h', toks := tk' } := by
    intro V W wt dt new h' tk' F N
    refine hQ h' tk' _ F (drop_new N) fun y hy => ?_
    have := nn hy
    rw [if_neg this.2.2, if_neg this.2.1]
    exact lawM_out hy
  refine wpAny_execs_cons (segA w p c news hlk hp B F X N T ⟨fun n t2 h' tk' hn F N => ?_, fun t b x new h' tk' ht hb hx F N => ?_, fun n e x new h' tk' hz hn he hx F N => ?_⟩)
  · refine wpAny_execs_cons (segB_int w p c n t2 news hlk hp hn B F X N T fun h' tk' F N => ?_)
    refine wpAny_execs_cons (segC_int w p c n t2 news hlk hp hn B F X N T fun wt h' tk' F N => ?_)
    exact segD (kU := kU) (bt := bt) (ctk := ctk) w n wt news hlk (by omega) B F X N T fun dt h' tk' F N => fin _ _ _ _ [] _ _ F N
  · refine wpAny_execs_cons (segB_ratio w p c t b x (new ++ news) hlk hp ht hb hx B F X N T fun h' tk' F N => ?_)
    refine wpAny_execs_cons (segC_ratio w p c t b x (new ++ news) hlk hp ht hb hx B F X N T fun wt h' tk' F N => ?_)
    exact segD (kU := kU) (bt := bt) (ctk := ctk) w t wt (new ++ news) hlk (by omega) B F X N T fun dt h' tk' F N => fin _ _ _ _ new _ _ F N
  · refine wpAny_execs_cons (segB_real w p c n e x (new ++ news) hlk hp hz hn he hx B F X N T fun h' tk' F N => ?_)
    refine wpAny_execs_cons (segC_real w p c n e x (new ++ news) hlk hp hz hn he hx B F X N T fun wt h' tk' F N => ?_)
    exact segD (kU := kU) (bt := bt) (ctk := ctk) w (frT n e) wt (new ++ news) hlk (by have := frT_in hn he; omega) B F X N T fun dt h' tk' F N => fin _ _ _ _ new _ _ F N
end
section -- SE
open PySem PySem.W PyProof.Rows PySem.Calls PySem.Spec
set_option maxRecDepth 100000
set_option maxHeartbeats 8000000
theorem bits_in (x : Int) : 2 ≤ 2 + x.fmod 8 ∧ 2 + x.fmod 8 ≤ 9 := by
  have := fm x (k := 8) (by decide)
  omega
theorem lawDef_of {K : Frag} {o : Obj} {qual : Str} {sA sB sC sD sE : Stmt} {scope : Scope} {oc : Value} {od : Option Addr} {osl : Array (Option Value)} {name : Str} {params : Arguments} {st1 st2 st4 : Stmt} {ti ii : Expr} {orelse : List Stmt} {tpos : Pos} {dV kV doc pm cdv ct : Value} {an : Option Addr}
    (k : K.lookup 336 = some o) (e : o = ⟨oc, od, .func (fnOf name qual params [st1, st2, .For ti ii [sA, sB, sC, sD, sE] orelse tpos, st4] scope dV kV doc pm an cdv ct), osl⟩) : LawDef K qual sA sB sC sD sE scope :=
  ⟨oc, od, osl, name, params, st1, st2, st4, ti, ii, orelse, tpos, dV, kV, doc, pm, cdv, ct, an, k.trans (congrArg some e)⟩
/- the kit's quick looks would lay a twin of the whole program where the head stands in the same file -/
local macro_rules | `(tactic| k_qdec) => `(tactic| decide +kernel)
theorem law_holds : PySem.Challenge.rw_nt0166_01.Holds := hd (by
  k_go0
  (all_goals try k_fold)
  k_steps
  k_search (fun _ => True)
  · refine' turn_spec _ _ _ _ ?hlk ?hp ?B ?F ?X ?N ?T ?hQ
    case hlk => (refine' lawDef_of ?klaw1 ?klaw2; (case klaw1 => k_is); (case klaw2 => exact rfl))
    case F => exact kFr
    case N => exact kNews
    case hp => exact bits_in _
    case X => assumption
    case B => exact below_self (by assumption)
    case T => first | assumption | k_asm
    case hQ =>
      intro h' tk' m' F' N' hm
      refine kst_end () F' N' (fun p hp => List.mem_append_left kOwn hp) (fun p hp => List.mem_append_right [_, _, _, _] hp) rfl True.intro (List.forall_mem_nil _) (fun z h1 h2 h3 => hm z ⟨h1, h3⟩) True.intro
  · k_steps)
end
end
end Mine
theorem PySem.Challenge.cw_nt0166_01_holds : PySem.Challenge.rw_nt0166_01.Holds :=
  Mine.law_holds
