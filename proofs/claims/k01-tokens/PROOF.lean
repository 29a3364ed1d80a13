import PyProof.Rows.All
import Wide.All
import OpenK.AllK
import Wide.FinOn
import PySem.Challenge.RW_stagesworn_k01_tokens
import HandS.ForExc
import HandS.Comp
import HandS.Text
import HandS.Wide
import HandS.ExcSuper
import KE.KSuper
import HandS.Codes
import KE.KIntText
import KE.KExcIs
import HandS.ExcIs
import KE.RegKSuper
set_option Elab.async false
set_option linter.all false
set_option maxRecDepth 100000
set_option maxHeartbeats 4000000
namespace K1
open PySem PySem.Spec PyProof.Rows L2
def topS (i : Nat) : Stmt := PySem.Challenge.pw_stagesworn_k01_tokens.main.body.getD i (.Pass ⟨0, 0, 0, 0⟩)
abbrev sRun : Stmt := topS 9
abbrev sTok : Stmt := topS 10
abbrev sState : Stmt := topS 12
abbrev sDraw : Stmt := topS 13
abbrev sSome : Stmt := topS 14
abbrev sLaw : Stmt := topS 15
theorem scRun : FnScope ["text", "at", "allowed", "end"] ["text", "at", "allowed"] (defScope sRun) := ⟨rfl, rfl, rfl, by decide +kernel, rfl, by decide +kernel, by decide +kernel⟩
theorem scTok : FnScope ["text", "told", "at", "sign", "found", "sort"] ["text"] (defScope sTok) := ⟨rfl, rfl, rfl, by decide +kernel, rfl, by decide +kernel, by decide +kernel⟩
theorem scState : FnScope ["script", "seed", "cell"] ["script"] (defScope sState) := ⟨rfl, rfl, rfl, by decide +kernel, rfl, by decide +kernel, by decide +kernel⟩
theorem scDraw : FnScope ["state", "many", "cells", "value", "mixed"] ["state", "many"] (defScope sDraw) := ⟨rfl, rfl, rfl, by decide +kernel, rfl, by decide +kernel, by decide +kernel⟩
theorem scSome : FnScope ["state", "kind", "words", "signs", "name"] ["state"] (defScope sSome) := ⟨rfl, rfl, rfl, by decide +kernel, rfl, by decide +kernel, by decide +kernel⟩
theorem scLaw : FnScope ["script", "state", "text", "due", "last", "k", "sort", "found", "gap", "at", "wrong", "error", "long"] ["script"] (defScope sLaw) := ⟨rfl, rfl, rfl, by decide +kernel, rfl, by decide +kernel, by decide +kernel⟩

/-- the drawing state at st, its cells at c -/
def StOk (st c : Addr) (H : Hp) : Prop := ∃ (cells : List Int) (m : Int), H st = some (.lst [.ref c, .int m]) ∧ H c = some (.lst (cells.map V.int)) ∧ cells.length ≤ 63 ∧ 0 ≤ m ∧ m < 2147483648
theorem StOk.ne {st c : Addr} {H : Hp} (h : StOk st c H) : st ≠ c := by
  obtain ⟨cells, m, h1, h2, _⟩ := h
  intro e
  subst e
  rw [h1] at h2
  have e := Option.some.inj h2
  injection e with e
  cases cells with
  | nil => cases e
  | cons x r =>
    rw [List.map_cons] at e
    injection e with e1 _
    cases e1
/-- all but the drawing state is as it was -/
def Apart (st c : Addr) (H H' : Hp) : Prop := ∀ b, b ≠ st → b ≠ c → H' b = H b
theorem ixN0 {n j : Nat} (hj : j < n) : ixN n (j : Int) = some j := by
  unfold ixN
  rw [if_pos (by omega), if_pos (by omega)]
  rfl
theorem seqIx {n j : Nat} (hj : j < n) : seqIndex? (j : Int) n = some j := (ixN_seq (ixN0 hj)).1
theorem Apart.refl (st c : Addr) (H : Hp) : Apart st c H H := fun _ _ _ => rfl
theorem Apart.trans {st c : Addr} {H H1 H2 : Hp} (a : Apart st c H H1) (b : Apart st c H1 H2) : Apart st c H H2 := fun x h1 h2 => (b x h1 h2).trans (a x h1 h2)

section
variable {P : Program} {w : World} {K : PySem.W.Frag} {mg : Str → Option Value} {base : Heap}
def spDraw : Sp := fun vs H Q _ => ∃ (st c : Addr) (many : Int), vs = [.ref st, .int many] ∧ StOk st c H ∧ 0 < many ∧ many.natAbs < 2 ^ 60 ∧
  ∀ r H', 0 ≤ r → r < many → StOk st c H' → Apart st c H H' → Q (.int r) H'
theorem ok_draw {f : Addr} {fd : FuncData} (F : Fun K "_law_draw" "_law_draw" sDraw f fd) (ml : mg "len" = none) (mi : mg "int" = none) : FnOk P w K mg base CX0 1 f fd ["state", "many"] spDraw := by
  refine F.ok scDraw (fun vs H Q E h => ?_) (fun cdv A outer s H vs Q E hr h => ?_)
  · obtain ⟨st, c, many, rfl, _⟩ := h
    rfl
  · obtain ⟨st, c, many, rfl, hS, hm, hb, q⟩ := h
    have hne := hS.ne
    refine ⟨_, pss_cons (ps_set (i := 2) scDraw.nd rfl (.inl rfl) (pe_ix ix_list (pv 0) pe_int (fun _ _ => rfl)))
      (pss_cons (ps_while PassesOwn.never (PW.pt (pw_and (pt_cmpR op_gt (pe_callB call_len_seq (by rfl) ml PySem.boot_len (pa_cons (pv 2) pa_nil)) pe_int (nomark _)) (pw_and1 (pt_cmpR op_eq (pe_ix ix_list (pv 2) pe_int (fun _ _ => rfl)) pe_int (nomark _)))))
          (pss_one (ps_expr (pe_bm PySem.F.plainAttrs_list PySem.F.slot_list_pop PySem.F.type_list_pop mt_popAt (pv 2) (pa_cons pe_int pa_nil)))))
      (pss_cons (ps_if (pt_cmpR op_gt (pe_callB call_len_seq (by rfl) ml PySem.boot_len (pa_cons (pv 2) pa_nil)) pe_int (nomark _))
          (pss_cons (ps_set (i := 3) scDraw.nd rfl (.inl rfl) (pe_ix ix_list (pv 2) pe_int (fun _ _ => rfl)))
          (pss_cons (ps_asg (pe_op op_fdivW (pv 3) (pv 1)) (pg_sub (pv 2) pe_int set_list))
          (pss_one (ps_ret (pe_op op_mod (pe_callTy call_int1 (by rfl) mi boot_int (pa_cons (pv 3) pa_nil)) (pv 1))))))
          pss_nil)
      (pss_cons (ps_set (i := 4) scDraw.nd rfl (.inl rfl) (pe_op op_mod (pe_callTy call_int1 (by rfl) mi boot_int (pa_cons (pe_op op_add (pe_op op_mul (pe_ix ix_list (pv 0) pe_int (fun _ _ => rfl)) pe_int) pe_int) pa_nil)) pe_int))
      (pss_cons (ps_asg (pv 4) (pg_sub (pv 0) pe_int set_list))
      (pss_one (ps_ret (pe_op op_mod (pe_callTy call_int1 (by rfl) mi boot_int (pa_cons (pe_op op_fdiv (pv 4) pe_int) pa_nil)) (pv 1)))))))), ?_⟩
    obtain ⟨cells, m, h1, h2, hl, hm0, hm1⟩ := hS
    -- cells = state[0]
    refine ⟨.ref st, rfl, st, _, 0, .ref c, rfl, rfl, SqL.of h1, atI_nat (j := 0) rfl, ?_⟩
    refine ⟨fun n σ H' => ∃ cells' : List Int, cells'.length = n ∧ σ = [some (.ref st), some (.int many), some (.ref c), none, none] ∧ H' c = some (.lst (cells'.map V.int)) ∧ cells'.length ≤ 63 ∧ Apart st c H H' ∧ H' st = some (.lst [.ref c, .int m]),
      ⟨cells.length, cells, rfl, rfl, h2, hl, Apart.refl _ _ _, h1⟩, fun n σ H' hP => ?_⟩
    · obtain ⟨cs, rfl, rfl, e2, l2, ap, e1⟩ := hP
      refine ⟨.ref c, rfl, c, _, rfl, .inl (SqL.of e2), ?_⟩
      cases cs with
      | nil =>
        refine ⟨_, _, rfl, rfl, false, rfl, iteF (iteF ?_)⟩
        -- behind the loop: no cells
        refine ⟨.ref c, rfl, c, _, rfl, .inl (SqL.of e2), _, _, rfl, rfl, false, rfl, iteF ?_⟩
        refine ⟨.ref st, rfl, st, _, 1, .int m, rfl, rfl, SqL.of e1, atI_nat (j := 1) rfl, ?_⟩
        refine ⟨m, 48271, rfl, rfl, .inl ⟨by omega, by omega⟩, _, _, rfl, rfl, .inl ⟨_, rfl, _, _, rfl, rfl, (show (0 : Int) < 2147483647 by decide), ?_⟩⟩
        have b1 : 0 ≤ (m * 48271 + 12345) % 2147483647 := Int.emod_nonneg _ (by decide)
        have b2 : (m * 48271 + 12345) % 2147483647 < 2147483647 := Int.emod_lt_of_pos _ (by decide)
        refine ⟨_, rfl, .ref st, rfl, st, _, 1, 1, rfl, rfl, e1, rfl, ?_⟩
        refine ⟨_, rfl, _, _, rfl, rfl, ⟨by decide, by decide⟩, .inl ⟨_, rfl, .int many, rfl, _, _, rfl, rfl, hm, ?_⟩⟩
        refine q _ _ (Int.emod_nonneg _ (by omega)) (Int.emod_lt_of_pos _ hm) ⟨[], _, upd_same, ?_, by decide, b1, by omega⟩ ?_
        · rw [upd_ne hne.symm]
          exact e2
        · intro b hb1 hb2
          rw [upd_ne hb1]
          exact ap b hb1 hb2
      | cons x r =>
        have lr : (((x :: r).map V.int).length : Int) > 0 := by
          rw [List.length_map, List.length_cons]
          omega
        refine ⟨_, _, rfl, rfl, true, congrArg V.bl (decide_eq_true lr), iteT ?_⟩
        refine ⟨.ref c, rfl, c, _, 0, .int x, rfl, rfl, SqL.of e2, atI_nat (j := 0) rfl, rfl, _, rfl, ite2 (fun e => ⟨fun σ' H'' => ∃ m', m' < (x :: r).length ∧ ∃ cells' : List Int, cells'.length = m' ∧ σ' = [some (.ref st), some (.int many), some (.ref c), none, none] ∧ H'' c = some (.lst (cells'.map V.int)) ∧ cells'.length ≤ 63 ∧ Apart st c H H'' ∧ H'' st = some (.lst [.ref c, .int m]), fun _ _ z => z, ?_⟩) (fun e => ?_)⟩
        · -- cells.pop(0)
          refine ⟨.ref c, rfl, .inl ⟨rfl, _, SqL.of e2⟩, c, _, 0, 0, .int x, rfl, rfl, e2, (show -(2 ^ 63) ≤ (0 : Int) by decide), (show (0 : Int) < 2 ^ 63 by decide), seqIx (j := 0) (by simp), rfl, ?_⟩
          refine ⟨r.length, by simp, r, rfl, rfl, upd_same, ?_, ?_, ?_⟩
          · rw [List.length_cons] at l2
            omega
          · intro b hb1 hb2
            rw [upd_ne hb2]
            exact ap b hb1 hb2
          · rw [upd_ne hne]
            exact e1
        · -- behind the loop: a cell
          refine ⟨.ref c, rfl, c, _, rfl, .inl (SqL.of e2), _, _, rfl, rfl, true, congrArg V.bl (decide_eq_true lr), iteT ?_⟩
          refine ⟨.ref c, rfl, c, _, 0, .int x, rfl, rfl, SqL.of e2, atI_nat (j := 0) rfl, ?_⟩
          refine ⟨.int x, rfl, .int many, rfl, x, many, rfl, rfl, wide_div hm hb (by decide) (by decide), .ref c, rfl, c, _, 0, 0, rfl, rfl, e2, ixN0 (j := 0) (by simp), ?_⟩
          refine ⟨.int x, rfl, .inl ⟨x, rfl, .int many, rfl, x, many, rfl, rfl, hm, ?_⟩⟩
          refine q _ _ (Int.emod_nonneg _ (by omega)) (Int.emod_lt_of_pos _ hm) ⟨x / many :: r, m, ?_, upd_same, by simpa using l2, hm0, hm1⟩ ?_
          · rw [upd_ne hne]
            exact e1
          · intro b hb1 hb2
            rw [upd_ne hb2]
            exact ap b hb1 hb2
end
end K1
set_option Elab.async false
set_option linter.all false
set_option maxRecDepth 100000
set_option maxHeartbeats 4000000
namespace K1
open PySem PySem.Spec PyProof.Rows L2
/-- the text of a list of signs -/
def S (l : List Nat) : Str := ⟨l.toArray⟩
theorem S_len (l : List Nat) : (S l).length = l.length := by
  show l.toArray.size = l.length
  simp
theorem S_cps (l : List Nat) : (S l).cps.toList = l := by simp [S]
theorem S_app (a b : List Nat) : S a ++ S b = S (a ++ b) := by
  show (⟨a.toArray ++ b.toArray⟩ : Str) = ⟨(a ++ b).toArray⟩
  simp
theorem S_inj {a b : List Nat} (h : S a = S b) : a = b := by
  have := congrArg (fun z : Str => z.cps.toList) h
  simpa [S_cps] using this
theorem S_one (c : Nat) : S [c] = ⟨#[c]⟩ := rfl
theorem S_self (z : Str) : S z.cps.toList = z := by
  cases z
  simp [S]
theorem cutS_S (l : List Nat) (i j : Nat) : cutS (S l) (some (i : Int)) (some (j : Int)) = S ((l.drop i).take (j - i)) := by
  unfold cutS
  rw [S_cps, S_len, HT.sIx_nat, HT.sIx_nat]
  show S _ = S _
  congr 1
  by_cases h : i ≤ l.length
  · rw [Nat.min_eq_left h]
    by_cases h2 : j ≤ l.length
    · rw [Nat.min_eq_left h2]
    · rw [Nat.min_eq_right (by omega), List.take_of_length_le (by simp), List.take_of_length_le (by simp; omega)]
  · have e1 : l.drop (min i l.length) = [] := List.drop_eq_nil_of_le (by omega)
    have e2 : l.drop i = [] := List.drop_eq_nil_of_le (by omega)
    rw [e1, e2]
    simp
theorem cutS_to (l : List Nat) (j : Nat) : cutS (S l) none (some (j : Int)) = S (l.take j) := by
  unfold cutS
  rw [S_cps, S_len, HT.sIx_nat, HT.sIx_none]
  show S _ = S _
  congr 1
  rw [List.drop_zero, Nat.sub_zero]
  by_cases h2 : j ≤ l.length
  · rw [Nat.min_eq_left h2]
  · rw [Nat.min_eq_right (by omega), List.take_of_length_le (by simp), List.take_of_length_le (by omega)]
theorem cutS_from (l : List Nat) (i : Nat) : cutS (S l) (some (i : Int)) none = S (l.drop i) := by
  unfold cutS
  rw [S_cps, S_len, HT.sIx_nat, HT.sIx_none]
  show S _ = S _
  congr 1
  by_cases h : i ≤ l.length
  · rw [Nat.min_eq_left h, List.take_of_length_le (by simp)]
  · rw [List.drop_eq_nil_of_le (by omega), List.drop_eq_nil_of_le (by omega)]
    simp
theorem takeWhile_to {p : Nat → Bool} : ∀ {l : List Nat} {k : Nat}, (∀ c ∈ l.take k, p c = true) → (l.length ≤ k ∨ ∃ c, l[k]? = some c ∧ p c = false) → l.takeWhile p = l.take k
  | [], k, _, _ => by simp
  | x :: r, 0, _, h => by
    rcases h with h | ⟨c, e, h⟩
    · simp at h
    · have e : x = c := by simpa using e
      subst e
      simp [h]
  | x :: r, k + 1, h1, h2 => by
    have hx : p x = true := h1 x (by simp)
    have ih := takeWhile_to (p := p) (l := r) (k := k) (fun c hc => h1 c (by rw [List.take_succ_cons]; exact List.mem_cons_of_mem _ hc)) (by
      rcases h2 with h | ⟨c, e, h⟩
      · left
        simpa using h
      · right
        exact ⟨c, by simpa using e, h⟩)
    rw [List.takeWhile_cons, if_pos hx, List.take_succ_cons, ih]
theorem line6 {n : Nat} (h : n ≤ 1000000) : n ≤ sizeLine := by
  rw [sizeLine_eq]
  omega
section
variable {P : Program} {w : World} {K : PySem.W.Frag} {mg : Str → Option Value} {base : Heap}
def spRun : Sp := fun vs H Q _ => ∃ (l al : List Nat) (i : Nat), vs = [.str (S l), .int i, .str (S al)] ∧ i ≤ l.length ∧ l.length ≤ 1000000 ∧ Q (.str (S ((l.drop i).takeWhile (fun c => decide (c ∈ al))))) H
theorem ok_run {f : Addr} {fd : FuncData} (F : Fun K "run_of" "run_of" sRun f fd) (ml : mg "len" = none) : FnOk P w K mg base CX0 1 f fd ["text", "at", "allowed"] spRun := by
  refine F.ok scRun (fun vs H Q E h => ?_) (fun cdv A outer s H vs Q E hr h => ?_)
  · obtain ⟨l, al, i, rfl, _⟩ := h
    rfl
  · obtain ⟨l, al, i, rfl, hi, hl, q⟩ := h
    refine ⟨_, pss_cons (ps_set (i := 3) scRun.nd rfl (.inl rfl) (pv 1))
      (pss_cons (ps_while PassesOwn.never (PW.pt (pw_and (pt_cmpR op_lt (pv 3) (pe_callB call_len_str (by rfl) ml PySem.boot_len (pa_cons (pv 0) pa_nil)) (nomark _)) (pw_and1 (pt_cmpR op_in_sign (pe_item_str (pv 0) (pv 3) (fun _ _ => rfl)) (pv 2) rfl))))
          (pss_one (ps_set (i := 3) scRun.nd rfl (.inl rfl) (pe_op op_add (pv 3) pe_int))))
      (pss_one (ps_ret (pe_slice sl_str (pv 0) (po_some (pv 1)) (po_some (pv 3)))))), ?_⟩
    refine ⟨_, rfl, ?_⟩
    refine ⟨fun n σ H' => ∃ e : Nat, n = l.length - e ∧ H' = H ∧ σ = [some (.str (S l)), some (.int i), some (.str (S al)), some (.int e)] ∧ i ≤ e ∧ e ≤ l.length ∧ ∀ c ∈ (l.drop i).take (e - i), decide (c ∈ al) = true,
      ⟨_, i, rfl, rfl, rfl, Nat.le_refl _, hi, by simp⟩, fun n σ H' hP => ?_⟩
    obtain ⟨e, rfl, rfl, rfl, h1, h2, h3⟩ := hP
    have done : ((l.drop i).length ≤ e - i ∨ ∃ c, (l.drop i)[e - i]? = some c ∧ decide (c ∈ al) = false) → Q (.str (cutS (S l) (some (i : Int)) (some (e : Int)))) H' := fun hh => by
      rw [cutS_S, ← takeWhile_to h3 hh]
      exact q
    refine ⟨_, rfl, .str (S l), rfl, S l, rfl, line6 (by rw [S_len]; exact hl), _, _, rfl, rfl, _, rfl, ?_⟩
    rw [S_len]
    by_cases hlt : e < l.length
    · have hI : (e : Int) < (l.length : Int) := by omega
      rw [decide_eq_true hI]
      refine iteT ?_
      have hc : l[e]? = some l[e] := List.getElem?_eq_getElem hlt
      refine ⟨_, rfl, _, rfl, S l, (e : Int), l[e], rfl, rfl, by omega, by omega, by rw [S_len]; omega, ?_, _, rfl, _, S al, rfl, rfl, _, rfl, ?_⟩
      · show (S l).cps[e]? = some l[e]
        rw [← Array.getElem?_toList, S_cps]
        exact hc
      rw [S_cps]
      by_cases hin : l[e] ∈ al
      · rw [decide_eq_true hin]
        refine iteT ⟨fun σ' H'' => ∃ m', m' < l.length - e ∧ ∃ e' : Nat, m' = l.length - e' ∧ H'' = H' ∧ σ' = [some (.str (S l)), some (.int i), some (.str (S al)), some (.int e')] ∧ i ≤ e' ∧ e' ≤ l.length ∧ ∀ c ∈ (l.drop i).take (e' - i), decide (c ∈ al) = true, fun _ _ z => z, ?_⟩
        refine ⟨_, rfl, _, _, rfl, rfl, l.length - (e + 1), by omega, e + 1, rfl, rfl, rfl, by omega, by omega, ?_⟩
        intro c hc'
        rw [show e + 1 - i = (e - i) + 1 by omega, List.take_add_one] at hc'
        rcases List.mem_append.mp hc' with hc' | hc'
        · exact h3 c hc'
        · rw [List.getElem?_drop, show i + (e - i) = e by omega, hc] at hc'
          have e2 : c = l[e] := by simpa using hc'
          rw [e2]
          exact decide_eq_true hin
      · rw [decide_eq_false hin]
        refine iteF ?_
        refine ⟨_, rfl, _, rfl, _, rfl, _, rfl, _, rfl, S l, rfl, line6 (by rw [S_len]; exact hl), done (.inr ⟨l[e], ?_, decide_eq_false hin⟩)⟩
        rw [List.getElem?_drop, show i + (e - i) = e by omega, hc]
    · have hI : ¬ (e : Int) < (l.length : Int) := by omega
      rw [decide_eq_false hI]
      refine iteF ⟨_, rfl, _, rfl, _, rfl, _, rfl, _, rfl, S l, rfl, line6 (by rw [S_len]; exact hl), done (.inl ?_)⟩
      rw [List.length_drop]
      omega
end
end K1
set_option Elab.async false
set_option linter.all false
set_option maxRecDepth 100000
set_option maxHeartbeats 4000000
/-! TextError(place): made, its __init__ walked (super().__init__ of one text, then self.place = place) -/
namespace TX
open PySem PySem.W PySem.Calls PyProof.Rows PySem.HandSPX PySem.ESX
abbrev sInit : Stmt := L2.inClass (K1.topS 2) 0
/-- what the top has written of the class at C (over the class at D, that is over Exception), of its __init__ at fI, the cell cc, the code object cda -/
structure TxtErr (P : Program) (K : Frag) (mg : Str → Option Value) (C D fI cc cda : Addr) : Prop where
  gC : mg "TextError" = some (.ref C)
  cls : ∃ nm q N bs sn sub ab col dd k0 k1 k2 k3 k5, K.lookup C = some (excClassObj nm q C N bs (.ref D :: exTail) true sn sub ab col dd k0 k1 k2 k3 k5 "Exception.__new__")
  sa : findIn K (.ref C) "__setattr__" = some (some (.builtin "object.__setattr__"))
  ga : findIn K (.ref C) "__getattribute__" = some (some (.builtin "BaseException.__getattribute__"))
  gg : findIn K (.ref C) "__getattr__" = some none
  noN : findIn K (.ref C) "place" = some none
  iC : findIn K (.ref C) "__init__" = some (some (.ref fI))
  tC : typeIn K (.ref fI) = some (.type "function")
  kC : keepIn K (.ref C) = true
  exC : subIn K (.ref C) (.type "BaseException") = some true
  exE : subIn K (.ref C) (.type "Exception") = some true
  tyC : typeIn K (.ref C) = some (.type "type")
  hdC : hasDictIn K C = true
  al : alongIn K "__init__" (.ref D :: exTail) = some (some (.builtin "Exception.__init__"))
  noAny : nsIn K cStatics "thirdparty.any" = some none
  te : exmOne K (.ref C) (.ref C) = some true
  noSuper : mg "super" = none
  noStr : mg "str" = none
  cell : ∃ cl cld csl, K.lookup cc = some ⟨cl, cld, .cell (some (.ref C)), csl⟩
  code : ∃ ccl cdd vs ccs tf, K.lookup cda = some ⟨ccl, cdd, .fields vs, ccs⟩ ∧ vs[2]? = some (.str P.main.file tf)
  top : (P.main.scope.names.lookup ("super" : Str)).isSome = false
  fn : ∃ (oc : Value) (od : Option Addr) (doc pm : Value) (an : Option Addr) (ct : Value) (osl : Array (Option Value)),
    K.lookup fI = some ⟨oc, od, .func (fnX "__init__" "TextError.__init__" (L2.defArgs sInit) (L2.defBody sInit) (L2.defScope sInit) [("__class__", cc)] .none .none doc pm an (.ref cda) ct), osl⟩ ∧ codeIn K (.ref cda) "TextError.__init__" = true

section
open Builtin Builtin.ObjectAttr
variable {prog : Program} {w : World} {A : Around} {E : Value → Shared → Prop} {R : Result → Shared → Prop} {hp : Heap} {g : Array GenState} {d : Drawn} {t : Nat} {os : OsState}
/-- self.name = v on an exception of a class over an own class over Exception: no dict yet -/
theorem store_first {K : Frag} {name : Str} {tk : Tok} {v : Value} {x C D : Addr} {fv : Array Value} {cd : ClassData}
    (X : K.In hp) (hx : hp.get? x = some { cls := .ref C, data := .fields fv }) (hcd : clsIn K C = some cd)
    (hm : cd.mro = .ref C :: .ref D :: exTail) (hh : cd.hasDict = true) (ha : findIn K (.ref C) name = some none)
    (hq : ∀ h' tk' dx, (∀ b o, b ≠ x → hp.get? b = some o → h'.get? b = some o) → hp.objs.size ≤ dx → dx ≠ x →
      h'.get? x = some { cls := .ref C, dict := some dx, data := .fields fv } → h'.Ns1 dx (fun y => if y = name then some v else none) →
      R (.ok (.ret .none)) ⟨h', g, d, tk', os⟩) :
    codeAny (model prog w) A (.call (.builtin "object.__setattr__") ⟨[.ref x, .str name tk, v], []⟩) R ⟨hp, g, d, t, os⟩ := by
  have I : InstAt hp x { cls := .ref C, data := .fields fv } C none := ⟨hx, rfl, rfl, trivial⟩
  have SF := F.store_object
  have fresh : x ≠ hp.objs.size := Nat.ne_of_lt (Heap.lt_size hx)
  have hob : mroIn K C (.type "object") = some true := by
    unfold mroIn
    rw [hcd, Option.bind_some, hm]
    have e : (Value.ref C :: Value.ref D :: exTail).contains (.type "object") = true := by
      rw [List.contains_cons, List.contains_cons]
      have : exTail.contains (.type "object") = true := by decide +kernel
      rw [this, Bool.or_true, Bool.or_true]
    rw [e]
    rfl
  refine codeAny_call_builtin SF.slot.plain SF.entry (@check_slot (model prog w) _ _ ⟨hp, g, d, t, os⟩ "object.__setattr__" "object" "__setattr__" (.ref x)
    [.str name tk, v] [] _ SF.kind SF.split (I.type.andThen (looks_mroIn X hob)) (SF.args (.ref x) (.str name tk) v) ?_)
  have hmr : Looks (model prog w) hp (mroOf (.ref C)) cd.mro := (looks_clsIn X hcd).andThen .now
  have L3 : Looks (model prog w) hp (storeTaker? none) none := .now
  have hpass : refuseLoop (.ref x) "__setattr__" cd.mro = pure () := by
    rw [hm, refuseLoop_ref, refuseLoop_ref]
    exact F.store_Exception.passes _
  rw [osa_eq, refuse_eq]
  refine wpAny_bind (wpAny_bind (I.type.at (wpAny_bind (hmr.at ?_))))
  rw [hpass]
  refine wpAny_pure (wpAny_bind (I.type.at (wpAny_bind ((looks_findIn X ha).at (wpAny_bind (L3.at ?_))))))
  have hcls : Looks (model prog w) hp (classData C) cd := looks_clsIn X hcd
  obtain ⟨nm, bs, mro, ns, qn, hd, sn, sb, ab, col, del⟩ := cd
  dsimp only at hh
  subst hh
  unfold storeInOwnDict ownDictForStores
  repeat (first | with_reducible refine HandSPX.store_in_new ?_ ?_ | with_reducible refine wpAny_loadPart_at hx ?_ | with_reducible refine hcls.at ?_ | wp_step)
  · exact ⟨_, #[], _, (Heap.get?_update_ne _ _ _ _ fresh.symm).trans (Heap.get?_push_at rfl rfl), rfl, fun e he => absurd he (by simp), fun _ => rfl⟩
  · intro h' tk' hn' hs
    have hx1 : (hp.push { cls := .type "dict", data := .dict #[] }).get? x = some { cls := .ref C, data := .fields fv } := Heap.get?_push_of_some _ hx
    refine hq h' tk' hp.objs.size (fun b o hb ho => ?_) (Nat.le_refl _) fresh.symm ?_ hn'
    · refine (hs.2 b (Nat.ne_of_lt (Heap.lt_size ho))).trans ?_
      refine (Heap.get?_update_ne _ _ _ _ hb).trans ?_
      exact Heap.get?_push_of_some _ ho
    · exact (hs.2 x fresh).trans (Heap.get?_update_self _ hx1 rfl)
end

section
variable {prog : Program} {w : World} {A : Around} {E : Value → Shared → Prop} {R : Result → Shared → Prop} {s : Shared} {K : Frag} {mg : Str → Option Value} {C D fI cc cda : Addr}
/-- what __init__ leaves of a fresh error at x -/
structure Inited (h h' : Heap) (x C dx t1 : Addr) (v : Value) : Prop where
  keep : ∀ b o, b ≠ x → h.get? b = some o → h'.get? b = some o
  obj : h'.get? x = some { cls := .ref C, dict := some dx, data := .fields #[.ref t1, .none, .none, .none, .bool false, .none] }
  dbig : h.objs.size ≤ dx
  dne : dx ≠ x
  ns : h'.Ns1 dx (fun y => if y = "place" then some v else none)
theorem spl1 {M : Model} {A : Around} {E : Value → Shared → Prop} {pos : Pos} {env : Env} {e : Expr} {Q : List Value → Shared → Prop} {s : Shared}
    (h : wpAny M A (eval e env) (fun v => Q [v]) E s) (hs : starEach (e :: []) env = (false, eval e env) :: starEach [] env := by rfl) :
    wpAny M A (spliced (backTo pos (starEach [e] env))) Q E s := by
  rw [hs]
  show wpAny _ _ (spliced ((false, eval e env) :: backTo pos (starEach [] env))) _ _ s
  refine Calls.spliced_cons (wpAny_mono h (fun u s1 q => ?_) fun _ _ z => z)
  exact Calls.spliced_nil q
theorem txt_init {mb : Str → Option Value} {x t0 : Addr} {n : Int} {tk : Tok} (T : TxtErr prog K mg C D fI cc cda) (X : K.In s.heap) (hg : s.heap.Ns mainGlobals mg)
    (hb : s.heap.Ns builtinsNs mb) (hbb : ∀ y : Str, y ≠ "__name__" → mb y = bootBuiltins y) (hlim : s.heap.NoLimit)
    (hx : s.heap.get? x = some (excO C t0)) (hnx : K.lookup x = none) (hroom : A.depth < recursionLimit) (hn : n.natAbs.log2 < 1920)
    (hq : ∀ h' tk' dx t1 u, Inited s.heap h' x C dx t1 (.int n u) → R (.ok (.ret .none)) { s with heap := h', toks := tk' }) :
    codeAny (model prog w) A (.call (.ref fI) ⟨[.ref x, .int n tk], []⟩) R s := by
  obtain ⟨oc, od, doc, pm, an, ct, osl, ho, hcd⟩ := T.fn
  obtain ⟨nm, q, N, bs, sn, sub, ab, col, dd, k0, k1, k2, k3, k5, hC⟩ := T.cls
  obtain ⟨cl, cld, csl, hcell⟩ := T.cell
  obtain ⟨ccl, cdd, vs, ccs, tf, hcode, hvs⟩ := T.code
  have hcl : clsIn K C = some { name := nm, bases := bs, mro := .ref C :: .ref D :: exTail, ns := N, qualname := q, hasDict := true, slotNames := sn, subclasses := sub, abstract := ab, collection := col, hasDel := false } := by
    unfold clsIn
    rw [hC] <;> rfl
  refine ks_codeAny_call_defAt (binds := [("self", .ref x), ("place", .int n tk)]) hroom (X _ _ ho) rfl hlim (codeRec_of X hcd) rfl (BindsTo.of_eq (by first | rfl | with_unfolding_all rfl))
    (show ∀ y ∈ (L2.defScope sInit).names, y.2 ≠ .cell by decide +kernel) (locs rfl) (fun h₁ hns hk₁ => ?_) rfl rfl rfl
  have X₁ : K.In h₁ := X.keeps hk₁
  have hx₁ := hk₁ _ _ hx
  have hlt : s.heap.objs.size < h₁.objs.size := hns.lt
  have hsx : s.heap.objs.size ≠ x := Nat.ne_of_gt (Heap.lt_size hx)
  have hcx : C ≠ x := fun e => by
    rw [← e, hC] at hnx
    cases hnx
  have hD2 : h₁.get? C = some _ := X₁ _ _ hC
  -- super().__init__('place ' + str(place))
  refine ks_wpAt_execs_cons (ks_wpAt_Expr_any (ks_wpAt_MethodCall (ks_wpAt_super_base (f := fI) (cc := cda) rfl rfl rfl rfl (X₁ _ _ ho) rfl rfl rfl (X₁ _ _ hcode) rfl hvs (by rw [beq_self_eq_true]) T.top ?_)))
  refine ks_loadName_global rfl rfl (loadGlobal_builtin (hg.keeps hk₁) T.noSuper (hb.keeps hk₁) ((hbb _ (by decide +kernel)).trans (by decide +kernel)) ⟨rfl, ?_⟩)
  refine wpAny_loadName_free rfl rfl rfl ⟨_, X₁ _ _ hcell, rfl⟩ ?_
  refine wpAny_loadName_local (v := .ref x) rfl rfl hns (by first | rfl | with_unfolding_all rfl) ?_
  refine ks_wpAny_isType_cls hD2 rfl ⟨rfl, ?_⟩
  have hmro : mroIn K C (.ref C) = some true := by
    unfold mroIn
    rw [hcl, Option.bind_some]
    have e : (Value.ref C :: Value.ref D :: exTail).contains (.ref C) = true := by rw [List.contains_cons, beq_self_eq_true, Bool.true_or]
    rw [e]
    rfl
  obtain ⟨hp, g, d, t, os⟩ := s
  refine ks_wpAny_call_super hD2 rfl hx₁ rfl (fun c z => by cases z) (looks_mroIn X₁ hmro) (fun h₂ hso k₂ => ?_)
  have X₂ : K.In h₂ := X₁.keeps k₂
  have hx₂ := k₂ _ _ hx₁
  have I₂ : InstAt h₂ x (excO C t0) C none := ⟨hx₂, rfl, rfl, trivial⟩
  have hm₂ : Looks (model prog w) h₂ (mroOf (.ref C)) (.ref C :: .ref D :: exTail) := (looks_clsIn X₂ hcl).andThen .now
  refine getMethod_super hso (looks_opaque X₂ T.noAny) hm₂ (drop_own C _) X₂ T.al hcx.symm (by decide) (I₂.type.andThen (looks_subIn X₂ T.exE)) ?_
  refine callWith_bound (x := x) (first := []) (spl1 ?_)
  have k₃ : ∀ b o, h₂.get? b = some o → (h₂.push (bw x)).get? b = some o := fun b o e => Heap.get?_push_of_some _ e
  -- 'place ' + str(place)
  refine wpAny_BinOp (Calls.Constant_str ?_)
  refine wpAny_Call_Name_kw (Calls.Name_function_global rfl rfl (Calls.loadGlobal_builtin (((hg.keeps hk₁).keeps k₂).keeps k₃) T.noStr (((hb.keeps hk₁).keeps k₂).keeps k₃) ((hbb _ (by decide +kernel)).trans boot_str) ?_))
  refine PyProof.Rows.callWith_type1 (spl1 ?_) rfl rfl
  refine ldL (v := .int n tk) ((hns.keeps k₂).keeps k₃) (by first | rfl | with_unfolding_all rfl) ?_
  have hfit : ((Str.ofString "place ")).length + (Str.ofString (toString n)).length ≤ sizeLine := by
    have h1 := int_text_len_1921 hn
    have h2 : (Str.ofString "place ").length = 6 := by decide +kernel
    rw [h2, sizeLine_eq]
    omega
  refine PySem.P.str_of_int hn (add_str (fun tk2 tk3 => ⟨Heap.get?_push_at rfl rfl, ?_⟩) hfit)
  have hx₃ := k₃ _ _ hx₂
  refine call_bw (bs := bs) (X₂.keeps k₃ _ _ hC) hx₃ (Heap.get?_push_at rfl rfl) ?_ (fun h₄ t1 k₄ hx₄ => ?_)
  · rw [sizeLine_eq]
    exact (by decide : 1 ≤ 16777216)
  -- self.place = place
  have L3 : ∀ b o, hp.get? b = some o → (h₂.push (bw x)).get? b = some o := fun b o e => k₃ _ _ (k₂ _ _ (hk₁ _ _ e))
  have X₄ : K.In h₄ := fun a o e => k₄ a o (fun z => by rw [z, hnx] at e; cases e) (k₃ _ _ (X₂ a o e))
  have hL : ∀ m, h₁.Ns hp.objs.size m → h₄.Ns hp.objs.size m := fun m ⟨oL, es, ep, e, r⟩ => ⟨oL, es, ep, k₄ _ _ hsx (k₃ _ _ (k₂ _ _ e)), r⟩
  refine ks_wpAt_execs_cons (ks_wpAt_Assign_Attr (wpAt_of_wpAny ?_))
  refine ldL (v := .int n tk) (hL _ hns) (by first | rfl | with_unfolding_all rfl) (ldL (v := .ref x) (hL _ hns) (by first | rfl | with_unfolding_all rfl) ?_)
  refine set_plain X₄ (ox := excO C t1) (od := none) ⟨hx₄, rfl, rfl, trivial⟩ T.sa ?_
  refine store_first X₄ hx₄ hcl rfl rfl T.noN (fun h₅ tk₅ dx k₅ dn dne hx₅ hn₅ => ?_)
  have big : hp.objs.size ≤ dx := Nat.le_trans (Nat.le_of_lt (hL _ hns).lt) dn
  exact wpAt_of_wpAny (wpAny_execs_nil (hq h₅ tk₅ dx t1 tk ⟨fun b o hb e => k₅ b o hb (k₄ b o hb (L3 b o e)), hx₅, big, dne, hn₅⟩))
/-- a made TextError at e, its own dict at d -/
structure Made1 (h h' : Heap) (e C d : Addr) (v : Value) : Prop where
  keep : ∀ b o, h.get? b = some o → h'.get? b = some o
  new : h.objs.size ≤ e
  obj : ∃ oe vs, h'.get? e = some oe ∧ oe.cls = .ref C ∧ oe.dict = some d ∧ oe.data = .fields vs ∧ vs[1]? = some .none
  dbig : h.objs.size ≤ d
  dne : d ≠ e
  ns : h'.Ns1 d (fun y => if y = "place" then some v else none)
theorem tail_types (D : Addr) (Y : String) : (Value.ref D :: exTail).contains (.type Y) = exTail.contains (.type Y) := by
  rw [List.contains_cons]
  rfl
theorem txt_made {mb : Str → Option Value} {n : Int} {tk : Tok} (T : TxtErr prog K mg C D fI cc cda) (X : K.In s.heap) (hg : s.heap.Ns mainGlobals mg)
    (hb : s.heap.Ns builtinsNs mb) (hbb : ∀ y : Str, y ≠ "__name__" → mb y = bootBuiltins y) (hlim : s.heap.NoLimit) (hroom : A.depth + 1 < recursionLimit) (hn : n.natAbs.log2 < 1920)
    (hq : ∀ h' tk' e d u, Made1 s.heap h' e C d (.int n u) → R (.ok (.ret (.ref e))) { s with heap := h', toks := tk' }) :
    codeAny (model prog w) A (.call (.ref C) ⟨[.int n tk], []⟩) R s := by
  obtain ⟨nm, q, N, bs, sn, sub, ab, col, dd, k0, k1, k2, k3, k5, hC⟩ := T.cls
  obtain ⟨hp, g, d, t, os⟩ := s
  have k : ∀ b o, hp.get? b = some o → ((hp.push (kdv_tup [.int n tk])).push (excO C hp.objs.size)).get? b = some o :=
    fun b o e => Heap.get?_push_of_some _ (Heap.get?_push_of_some _ e)
  have hget : ((hp.push (kdv_tup [.int n tk])).push (excO C hp.objs.size)).get? (hp.objs.size + 1) = some (excO C hp.objs.size) := by heap_get
  have hnx : K.lookup (hp.objs.size + 1) = none := by
    cases e : K.lookup (hp.objs.size + 1) with
    | none => rfl
    | some o =>
      have z : hp.get? (hp.objs.size + 1) = some o := X _ _ e
      exact absurd (Nat.lt_of_succ_lt (Heap.lt_size z)) (Nat.lt_irrefl _)
  have one : [Value.int n tk].length ≤ sizeLine := by
    rw [sizeLine_eq]
    exact (by decide : 1 ≤ 16777216)
  refine call_own F.excBase_Exception (tail_types D) (X _ _ hC) (looks_findIn X T.iC) (fun self => bind_fn X self T.tC) one ?_
  refine txt_init (s := ⟨(hp.push (kdv_tup [.int n tk])).push (excO C hp.objs.size), g, d, t, os⟩) T (X.keeps k) (hg.keeps k) (hb.keeps k) hbb (hlim.keeps k) hget hnx ?_ hn
    fun h' tk' dx t1 u ⟨k', hx, dn, dne, hns⟩ => ?_
  · show A.depth + 1 < recursionLimit
    exact hroom
  · have old : ∀ b o, hp.get? b = some o → h'.get? b = some o := fun b o e => k' b o (Nat.ne_of_lt (Nat.lt_succ_of_lt (Heap.lt_size e))) (k b o e)
    have z : hp.objs.size + 1 + 1 ≤ dx := by
      have q := dn
      first
        | exact q
        | (rw [Heap.size_push, Heap.size_push] at q; exact q)
    have z1 : hp.objs.size ≤ dx := Nat.le_trans (Nat.le_trans (Nat.le_succ _) (Nat.le_succ _)) z
    exact ⟨rfl, hq h' tk' (hp.objs.size + 1) dx u ⟨old, Nat.le_succ _, ⟨_, _, hx, rfl, rfl, rfl, rfl⟩, z1, dne, hns⟩⟩
end
end TX
namespace K1
open PySem PySem.Spec PyProof.Rows L2
theorem relO_place {v : V} {v' : Value} (r : RelV v v') (f : Str) : RelO (List.lookup f [(("place" : Str), v)]) (if f = "place" then some v' else none) := by
  by_cases hw : f = "place"
  · rw [if_pos hw, hw]
    have q : List.lookup ("place" : Str) [(("place" : Str), v)] = some v := by simp [List.lookup]
    rw [q]
    exact r
  · have qw : (f == ("place" : Str)) = false := by simpa using hw
    have q2 : List.lookup f [(("place" : Str), v)] = none := by simp [List.lookup, qw]
    rw [if_neg hw, q2]
    trivial
section
variable {X : Cx} {C D fI cc cda : Addr}
/-- TextError(e) -/
def tMkText (C : Addr) (ta : TA) : L2.St → Hp → XK → Prop := fun σ H Q => ta σ H fun vs H1 => ∃ n : Int, vs = [.int n] ∧ n.natAbs.log2 < 1920 ∧
  ∀ d, H1 d = none → Q (.ref C) (some d) (upd H1 d (.xd [(("place" : Str), .int n)]))
theorem pmk_text {a : Expr} {ta : TA} {p pos : Pos} {k : Nat} (T : TX.TxtErr X.prog X.K X.mg C D fI cc cda) (hr : Room k X.A) (ha : PA X [a] ta) (hg : Gl X "TextError" := by rfl)
    (he : starEach (a :: []) X.env = (false, eval a X.env) :: starEach [] X.env := by rfl) (hpl : (backTo pos (starEach [] X.env)).any (·.1) = false := by rfl) :
    PMk X (.Call (.Name "TextError" p) [a] [] pos) (tMkText C ta) := by
  intro pins s σ H Q I h
  refine wpAny_Call_Name_kw (ld_glob I hg T.gC ?_)
  refine PySem.W.callWith_K (h₀ := X.base) I.ok.mod.kin T.kC (thn (ha.run pos pins s σ H _ I h) fun us s1 hh => ?_) he hpl
  obtain ⟨vs, H1, I1, r1, n, ev, hn, q1⟩ := hh
  subst ev
  refine ⟨I1.kIn, ?_⟩
  obtain ⟨v', rfl, rv⟩ := vals1 r1
  obtain ⟨tk, rfl⟩ := rv
  show wpAny _ _ (call (.ref C) [.int n tk]) _ _ _
  have hlim := I1.nolimit
  obtain ⟨mb, hmb, hbb⟩ := I1.mod.blt
  have hmb1 := hmb.keeps I1.bk
  have hg1 := I1.mod.glob.keeps I1.bk
  obtain ⟨hp, g, dr, tk0, os⟩ := s1
  refine wpAny_call (TX.txt_made T I1.kIn hg1 hmb1 hbb hlim (by have := hr.dp; omega) hn fun h' tk' e d u M => ?_)
  show MkP X pins σ Q (.ref e) ⟨h', g, dr, tk', os⟩
  obtain ⟨oe, fv, hoe, hc, hd, hdat, h1⟩ := M.obj
  have hns := M.ns
  obtain ⟨G', g1, g2⟩ := restrict h' fun b => decide (b ≠ e)
  have gk : ∀ b, b ≠ e → G'.get? b = h'.get? b := fun b hb => g1 b (decide_eq_true hb)
  have ge : G'.get? e = none := g2 e (by simp)
  have old : ∀ b o, hp.get? b = some o → G'.get? b = some o := fun b o q => (gk b (Nat.ne_of_lt (Nat.lt_of_lt_of_le (Heap.lt_size q) M.new))).trans (M.keep b o q)
  have ob : ObjOk X.prog X.w (upd H1 d (.xd [(("place" : Str), .int n)])) G' d (.xd [(("place" : Str), .int n)]) :=
    ⟨_, hns.at (fun o q => (gk d M.dne).trans q), fun f => relO_place (v := .int n) ⟨u, rfl⟩ f⟩
  have J : Inv X pins σ (upd H1 d (.xd [(("place" : Str), .int n)])) ⟨G', g, dr, tk', os⟩ := I1.laid (t' := tk') old M.dbig ob
  refine ⟨e, oe, fv, ⟨G', g, dr, tk', os⟩, _, .ref C, some d, rfl, J, fun b o q => ?_, ge, hoe, ⟨hc, hd⟩, hdat, h1, ?_, rfl, I1.bare, raises_own T.exC T.tyC, q1 d (I1.hok.fresh M.dbig)⟩
  · by_cases hb : b = e
    · have q' : G'.get? b = some o := q
      rw [hb, ge] at q'
      cases q'
    · exact (gk b hb).symm.trans q
  · rw [upd_ne (Ne.symm M.dne)]
    exact I1.hok.fresh M.new
/-- raise TextError(e) -/
def tRaiseText (C : Addr) (W : WX) (ta : TA) : TS := fun _ σ H => tMkText C ta σ H fun cls d H' => W cls d σ H'
theorem ps_raiseText {a : Expr} {ta : TA} {W : WX} {p pos pos2 : Pos} {k : Nat} (hc : X.calm = true) (T : TX.TxtErr X.prog X.K X.mg C D fI cc cda) (hr : Room k X.A) (tk : Takes X W) (ha : PA X [a] ta) (hg : Gl X "TextError" := by rfl)
    (he : starEach (a :: []) X.env = (false, eval a X.env) :: starEach [] X.env := by rfl) (hpl : (backTo pos (starEach [] X.env)).any (·.1) = false := by rfl) :
    PS X (.Raise (some (.Call (.Name "TextError" p) [a] [] pos)) none pos2) (tRaiseText C W ta) := ps_raise hc tk (pmk_text T hr ha hg he hpl)
/-- error.place, error the exception that the suite holds (at a; its class cls, its dict d) -/
def tPlace (C : Addr) (a : Addr) (cls : Value) (d : Option Addr) (te : TE) : TE := fun σ H Q => te σ H fun x H1 => x = .ref a ∧ cls = .ref C ∧
  ∃ (dd : Addr) (v : V), d = some dd ∧ H1 dd = some (.xd [(("place" : Str), v)]) ∧ Q v H1
theorem pe_place {a : Addr} {oe : Obj} {cls : Value} {d : Option Addr} {pn : List (Addr × Obj)} {e : Expr} {te : TE} {pos : Pos} (T : TX.TxtErr X.prog X.K X.mg C D fI cc cda) (hz : Zc cls d oe) (hf : ∃ vs, oe.data = .fields vs) (he : PE (X.suite a ((a, oe) :: pn)) e te)
    (hb : attributeBase e "place" X.env (eval e X.env) = eval e X.env := by rfl) :
    PE (X.suite a ((a, oe) :: pn)) (.Attribute e "place" pos) (tPlace C a cls d te) := by
  refine ⟨fun pins s σ H Q I h => ?_⟩
  refine attr_of hb (thn (he.run pins s σ H _ I h) fun u s1 hh => ?_)
  obtain ⟨x, H1, I1, rx, ex, ec, dd, v, ed, ea, q⟩ := hh
  subst ex
  obtain rfl : u = Value.ref a := rx
  subst ec
  subst ed
  obtain ⟨ha, _⟩ := I1.pin (a, oe) (List.mem_append_left _ List.mem_cons_self)
  obtain ⟨vs, hd⟩ := hf
  have hx : ObjOk X.prog X.w H1 s1.heap dd (.xd [(("place" : Str), v)]) := I1.hok dd _ ea
  obtain ⟨mA, hns, hr⟩ := hx
  obtain ⟨od, ho, hl⟩ := lookIn_ns hns
  have l : List.lookup ("place" : Str) [(("place" : Str), v)] = some v := by simp [List.lookup]
  obtain ⟨u, hu, ru⟩ := RelO.some_of (v := v) (o := mA "place") (by rw [← l]; exact hr "place")
  have J : PySem.W.InstAt s1.heap a oe C (some od) := ⟨ha, hz.1, by unfold PySem.W.notCls; rw [hd] <;> rfl, by rw [hz.2]; exact ho⟩
  exact HandSPX.exc_get I1.kIn J T.ga T.gg T.exC (PySem.W.findObj_own T.hdC T.noN rfl (by rw [hl, hu])) (handed_of ru) ⟨v, H1, I1.tok _, ru, q⟩
end
end K1
set_option Elab.async false
set_option linter.all false
set_option maxRecDepth 100000
set_option maxHeartbeats 4000000
namespace K1
open PySem PySem.Spec PyProof.Rows L2
open C8 (pss_cut tCut)
/-! ### the mathematics: tokens of a list of signs -/
abbrev FIG : List Nat := [48, 49, 50, 51, 52, 53, 54, 55, 56, 57]
abbrev LET : List Nat := [97, 98, 99, 100, 101, 102, 103, 104, 105, 106, 107, 108, 109, 110, 111, 112, 113, 114, 115, 116, 117, 118, 119, 120, 121, 122]
abbrev NAMES : List Nat := LET ++ FIG ++ [95]
abbrev WRDS : List String := ["fun", "let", "in", "if", "then", "else", "fn", "try", "with", "raise", "or", "and", "not", "true", "false", "rest", "array", "len", "print", "int", "bool", "unit"]
abbrev LNGS : List String := [":=", "=>", "->", "//", "<=", "=="]
abbrev codes (x : String) : List Nat := (Str.ofString x).cps.toList
abbrev SGN : List Nat := codes "()[],;:=+-*<"
abbrev WORDSl : List (List Nat) := WRDS.map codes
abbrev LONGl : List (List Nat) := LNGS.map codes
def isF (c : Nat) : Bool := decide (c ∈ FIG)
def isN (c : Nat) : Bool := decide (c ∈ NAMES)
/-- the first token: its sort ("" for a blank) and its signs; none where a sign is wrong -/
def step (s : List Nat) : Option (Str × List Nat) :=
  match s with
  | [] => none
  | c :: r =>
    if c ∈ FIG then (if 18 < ((c :: r).takeWhile isF).length then none else some ("num", (c :: r).takeWhile isF))
    else if c ∈ LET then some (if (c :: r).takeWhile isN ∈ WORDSl then "word" else "name", (c :: r).takeWhile isN)
    else if (c :: r).take 2 ∈ LONGl then some ("sign", (c :: r).take 2)
    else if c ∈ SGN then some ("sign", [c])
    else if c ∈ [32, 10] then some ("", [c])
    else none
abbrev Tk := Str × List Nat × Nat
def put (a : Str) (f : List Nat) (at' : Nat) : Except Nat (List Tk) → Except Nat (List Tk)
  | .ok l => .ok (if a = "" then l else (a, f, at') :: l)
  | .error e => .error e
inductive Lex : Nat → List Nat → Except Nat (List Tk) → Prop
  | nil (n : Nat) : Lex n [] (.ok [])
  | bad (n : Nat) (c : Nat) (s : List Nat) : step (c :: s) = none → Lex n (c :: s) (.error n)
  | go (n : Nat) (c : Nat) (s : List Nat) (a : Str) (f : List Nat) (r : Except Nat (List Tk)) : step (c :: s) = some (a, f) → Lex (n + f.length) ((c :: s).drop f.length) r → Lex n (c :: s) (put a f n r)
def behind (l : List Tk) : Except Nat (List Tk) → Except Nat (List Tk)
  | .ok r => .ok (l ++ r)
  | .error e => .error e
theorem behind_put (l : List Tk) (a : Str) (f : List Nat) (n : Nat) (r : Except Nat (List Tk)) : behind l (put a f n r) = behind (if a = "" then l else l ++ [(a, f, n)]) r := by
  cases r with
  | error e => rfl
  | ok r =>
    unfold put behind
    by_cases h : a = ""
    · simp [h]
    · simp [h]
theorem takeWhile_le {p : Nat → Bool} : ∀ l : List Nat, (l.takeWhile p).length ≤ l.length
  | [] => by simp
  | x :: r => by
    rw [List.takeWhile_cons]
    split
    · have := takeWhile_le (p := p) r
      simp only [List.length_cons]
      omega
    · simp
theorem step_len {s : List Nat} {a : Str} {f : List Nat} (h : step s = some (a, f)) : 0 < f.length ∧ f.length ≤ s.length := by
  cases s with
  | nil => cases h
  | cons c r =>
    unfold step at h
    dsimp only at h
    have hF : c ∈ FIG → 0 < ((c :: r).takeWhile isF).length := fun hc => by
      rw [List.takeWhile_cons, if_pos (show isF c = true from decide_eq_true hc)]
      simp
    have hN : c ∈ LET → 0 < ((c :: r).takeWhile isN).length := fun hc => by
      rw [List.takeWhile_cons, if_pos (show isN c = true from decide_eq_true (List.mem_append_left _ (List.mem_append_left _ hc)))]
      simp
    split at h
    · rename_i hc
      split at h
      · cases h
      · cases h
        exact ⟨hF hc, takeWhile_le _⟩
    · split at h
      · rename_i hc
        cases h
        exact ⟨hN hc, takeWhile_le _⟩
      · split at h
        · cases h
          simp only [List.length_take, List.length_cons]
          omega
        · split at h
          · cases h
            simp
          · split at h
            · cases h
              simp
            · cases h
/-! ### the walk -/
structure Tops (K : PySem.W.Frag) (mg : Str → Option Value) (aW aL : Addr) : Prop where
  fig : ∃ t, mg "FIGURES" = some (.str (S FIG) t)
  «let» : ∃ t, mg "LETTERS" = some (.str (S LET) t)
  sgn : ∃ t, mg "SIGNS" = some (.str (S SGN) t)
  w : mg "WORDS" = some (.ref aW)
  l : mg "LONG_SIGNS" = some (.ref aL)
  wT : ∀ H, SqT K H aW (WORDSl.map fun x => V.str (S x))
  lT : ∀ H, SqT K H aL (LONGl.map fun x => V.str (S x))
  ml : mg "len" = none
/-- the tuples of tokens -/
def Toks (H : Hp) (refs : List Addr) (ts : List Tk) : Prop := Paired (fun (a : Addr) (t : Tk) => H a = some (.tup [.str t.1, .str (S t.2.1), .int t.2.2])) refs ts
def DueAt (H : Hp) (p : Addr) (ts : List Tk) : Prop := ∃ refs : List Addr, H p = some (.lst (refs.map V.ref)) ∧ Toks H refs ts
theorem Toks.mono {H H' : Hp} : ∀ {refs : List Addr} {ts : List Tk}, Toks H refs ts → (∀ a xs, H a = some (.tup xs) → H' a = some (.tup xs)) → Toks H' refs ts
  | _, _, .nil, _ => .nil
  | _, _, .cons h t, k => .cons (k _ _ h) (Toks.mono t k)
theorem Toks.snoc {H : Hp} {a : Addr} {t : Tk} (h : H a = some (.tup [.str t.1, .str (S t.2.1), .int t.2.2])) : ∀ {refs : List Addr} {ts : List Tk}, Toks H refs ts → Toks H (refs ++ [a]) (ts ++ [t])
  | _, _, .nil => .cons h .nil
  | _, _, .cons h' t' => .cons h' (Toks.snoc h t')
theorem Toks.len {H : Hp} : ∀ {refs : List Addr} {ts : List Tk}, Toks H refs ts → refs.length = ts.length
  | _, _, .nil => rfl
  | _, _, .cons _ t => by rw [List.length_cons, List.length_cons, Toks.len t]
theorem inV_S (f : List Nat) : ∀ l : List (List Nat), inV (.str (S f)) (l.map fun x => V.str (S x)) = decide (f ∈ l)
  | [] => by simp [inV]
  | x :: r => by
    have ih := inV_S f r
    unfold inV at ih ⊢
    rw [List.map_cons, List.any_cons, ih]
    show ((S x == S f) || decide (f ∈ r)) = decide (f ∈ x :: r)
    by_cases h : x = f
    · subst h
      simp
    · have h1 : (S x == S f) = false := beq_eq_false_iff_ne.mpr fun e => h (S_inj e)
      have h2 : ¬ f = x := fun e => h e.symm
      rw [h1, Bool.false_or]
      simp [h2]
theorem flat_S (l : List (List Nat)) : (l.map fun x => V.str (S x)).all flatV = true := by
  rw [List.all_map]
  exact List.all_eq_true.mpr fun _ _ => rfl
section
variable {P : Program} {w : World} {K : PySem.W.Frag} {mg : Str → Option Value} {base : Heap}
def spTok (C : Addr) : Sp := fun vs H Q E => ∃ (l : List Nat) (r : Except Nat (List Tk)), vs = [.str (S l)] ∧ l.length ≤ 100000 ∧ Lex 0 l r ∧
  match r with
  | .ok ts => ∀ H' p, Same H H' → H p = none → DueAt H' p ts → Q (.ref p) H'
  | .error e => ∀ H' d, Same H H' → H d = none → H' d = some (.xd [(("place" : Str), .int e)]) → E (.ref C) (some d) H'
theorem ok_tok {f fR C D fI cc cda aW aL : Addr} {fd fdR : FuncData} (F : Fun K "tokens_of" "tokens_of" sTok f fd) (T : Tops K mg aW aL) (TE : TX.TxtErr P K mg C D fI cc cda)
    (F_run_of : Fun K "run_of" "run_of" sRun fR fdR) (b_run_of : Binds K fdR ["text", "at", "allowed"] []) (g_run_of : mg "run_of" = some (.ref fR)) : FnOk P w K mg base (L2.CX P w) 2 f fd ["text"] (spTok C) := by
  have m_len := T.ml
  have G_run_of : FnOk P w K mg base CX0 1 fR fdR ["text", "at", "allowed"] spRun := ok_run F_run_of m_len
  obtain ⟨tF, gF⟩ := T.fig
  obtain ⟨tL, gL⟩ := T.«let»
  obtain ⟨tS, gS⟩ := T.sgn
  refine F.okX scTok (fun vs H Q E h => ?_) (fun cdv A outer s H vs Q E hr h => ?_)
  · obtain ⟨l, r, rfl, _⟩ := h
    rfl
  · obtain ⟨l, r, rfl, hl, hx, q⟩ := h
    refine ⟨_, (pss_cons (ps_set (i := 1) scTok.nd rfl (.inl rfl) (pe_lst pa_nil))
  (pss_cons (ps_set (i := 2) scTok.nd rfl (.inl rfl) pe_int)
  (pss_cons (ps_while (passes_of rfl) (pt_cmpR op_lt (pv 2) (pe_callB call_len_str (by rfl) m_len PySem.boot_len (pa_cons (pv 0) pa_nil)) (nomark _))
    (pss_cons (ps_set (i := 3) scTok.nd rfl (.inl rfl) (pe_ix ix_str (pv 0) (pv 2) (fun _ _ => rfl)))
    (pss_cut (ps_if (pt_cmpR op_in_sign (pv 3) (pe_glob (v := .str (S FIG)) rfl gF ⟨tF, rfl⟩) rfl)
      (pss_cons (ps_par (i := 4) (j := 5) (by rfl) scTok.nd rfl rfl (by decide) rfl rfl (pa_cons (pe_call G_run_of (hr.mono (by decide)) (by rfl) g_run_of F_run_of.kp b_run_of .nil pass0 (pa_cons (pv 0) (pa_cons (pv 2) (pa_cons (pe_glob (v := .str (S FIG)) rfl gF ⟨tF, rfl⟩) pa_nil)))) (pa_cons pe_str pa_nil)) (by rfl))
      (pss_one (ps_if (pt_cmpR op_gt (pe_callB call_len_str (by rfl) m_len PySem.boot_len (pa_cons (pv 4) pa_nil)) pe_int (nomark _))
        (pss_one (ps_raiseText rfl TE hr (takes_of rfl rfl rfl rfl) (pa_cons (pv 2) pa_nil)))
        pss_nil)))
      (pss_one (ps_if (pt_cmpR op_in_sign (pv 3) (pe_glob (v := .str (S LET)) rfl gL ⟨tL, rfl⟩) rfl)
        (pss_cons (ps_set (i := 4) scTok.nd rfl (.inl rfl) (pe_call G_run_of (hr.mono (by decide)) (by rfl) g_run_of F_run_of.kp b_run_of .nil pass0 (pa_cons (pv 0) (pa_cons (pv 2) (pa_cons (pe_op op_add_str (pe_op op_add_str (pe_glob (v := .str (S LET)) rfl gL ⟨tL, rfl⟩) (pe_glob (v := .str (S FIG)) rfl gF ⟨tF, rfl⟩)) pe_str) pa_nil)))))
        (pss_one (ps_set (i := 5) scTok.nd rfl (.inl rfl) (pe_ifExp (pt_cmpR op_in_seq (pv 4) (pe_glob (v := .ref aW) rfl T.w rfl) rfl) pe_str pe_str))))
        (pss_one (ps_if (pt_cmpR op_in_seq (pe_slice sl_str (pv 0) (po_some (pv 2)) (po_some (pe_op op_add (pv 2) pe_int))) (pe_glob (v := .ref aL) rfl T.l rfl) rfl)
          (pss_one (ps_par (i := 4) (j := 5) (by rfl) scTok.nd rfl rfl (by decide) rfl rfl (pa_cons (pe_slice sl_str (pv 0) (po_some (pv 2)) (po_some (pe_op op_add (pv 2) pe_int))) (pa_cons pe_str pa_nil)) (by rfl)))
          (pss_one (ps_if (pt_cmpR op_in_sign (pv 3) (pe_glob (v := .str (S SGN)) rfl gS ⟨tS, rfl⟩) rfl)
            (pss_one (ps_par (i := 4) (j := 5) (by rfl) scTok.nd rfl rfl (by decide) rfl rfl (pa_cons (pv 3) (pa_cons pe_str pa_nil)) (by rfl)))
            (pss_one (ps_if (pt_cmpR op_in_sign (pv 3) pe_str rfl)
              (pss_one (ps_par (i := 4) (j := 5) (by rfl) scTok.nd rfl rfl (by decide) rfl rfl (pa_cons (pv 3) (pa_cons pe_str pa_nil)) (by rfl)))
              (pss_one (ps_raiseText rfl TE hr (takes_of rfl rfl rfl rfl) (pa_cons (pv 2) pa_nil))))))))))))
    (pss_cons (ps_if (pt_cmpR op_ne (pv 5) pe_str (nomark _))
      (pss_one (ps_expr (pe_bm PySem.F.plainAttrs_list PySem.F.slot_list_append PySem.F.type_list_append mt_append (pv 1) (pa_cons (pe_tup (pa_cons (pv 5) (pa_cons (pv 4) (pa_cons (pv 2) pa_nil)))) pa_nil))))
      pss_nil)
    (pss_one (ps_set (i := 2) scTok.nd rfl (.inl rfl) (pe_op op_add (pv 2) (pe_callB call_len_str (by rfl) m_len PySem.boot_len (pa_cons (pv 4) pa_nil)))))))))
  (pss_one (ps_ret (pv 1)))))), ?_⟩
    -- READING
    refine ⟨Nat.zero_le _, fun o no => ?_⟩
    have s1 : Same H (upd H o (.lst [])) := fun b x e => by
      rw [upd_ne (ne_of_none e no)]
      exact e
    refine ⟨fun n σ H' => ∃ (i : Nat) (done : List Tk) (r' : Except Nat (List Tk)) (refs : List Addr) (y3 y4 y5 : Option V), n = l.length - i ∧ σ = [some (.str (S l)), some (.ref o), some (.int i), y3, y4, y5] ∧ i ≤ l.length ∧
        Same H H' ∧ H' o = some (.lst (refs.map V.ref)) ∧ Toks H' refs done ∧ done.length ≤ i ∧ Lex i (l.drop i) r' ∧ behind done r' = r,
      ⟨_, 0, [], r, [], none, none, none, rfl, rfl, Nat.zero_le _, s1, upd_same, .nil, Nat.zero_le _, hx, by cases r <;> rfl⟩, fun n σ H' hP => ?_⟩
    obtain ⟨i, done, r', refs, y3, y4, y5, rfl, rfl, hi, sm, eo, tk, hd, hx', er⟩ := hP
    refine ⟨_, rfl, .str (S l), rfl, S l, rfl, line6 (by rw [S_len]; omega), _, _, rfl, rfl, _, rfl, ?_⟩
    rw [S_len]
    by_cases hlt : i < l.length
    · have hI : (i : Int) < (l.length : Int) := by omega
      rw [decide_eq_true hI]
      have hc : l[i]? = some l[i] := List.getElem?_eq_getElem hlt
      have hdr : l.drop i = l[i] :: l.drop (i + 1) := List.drop_eq_getElem_cons hlt
      refine iteT ⟨fun σ' H'' => ∃ m', m' < l.length - i ∧ ∃ (i' : Nat) (done : List Tk) (r' : Except Nat (List Tk)) (refs : List Addr) (y3 y4 y5 : Option V), m' = l.length - i' ∧ σ' = [some (.str (S l)), some (.ref o), some (.int i'), y3, y4, y5] ∧ i' ≤ l.length ∧
        Same H H'' ∧ H'' o = some (.lst (refs.map V.ref)) ∧ Toks H'' refs done ∧ done.length ≤ i' ∧ Lex i' (l.drop i') r' ∧ behind done r' = r, fun _ _ z => z, ?_⟩
      -- sign = text[at]
      refine ⟨_, rfl, _, rfl, S l, (i : Int), l[i], rfl, rfl, line6 (by rw [S_len]; omega), atI_nat (by rw [S_cps]; exact hc), ?_⟩
      -- the first token of the rest, then what follows
      refine ⟨fun σ' H'' => H'' = H' ∧ ∃ (a : Str) (fd : List Nat), step (l.drop i) = some (a, fd) ∧ σ' = [some (.str (S l)), some (.ref o), some (.int i), some (.str ⟨#[l[i]]⟩), some (.str (S fd)), some (.str a)], ?_, ?_⟩
      · have hS : S (l.drop i) = S (l[i] :: l.drop (i + 1)) := by rw [hdr]
        have bad : step (l.drop i) = none → ∀ d, H' d = none → E (.ref C) (some d) (upd H' d (.xd [(("place" : Str), .int i)])) := fun hs d hd' => by
          have er2 : r' = .error i := by
            rw [hdr] at hx' hs
            cases hx' with
            | bad => rfl
            | go _ _ _ a f r h => rw [hs] at h; cases h
          subst er2
          have e1 : r = .error i := er.symm
          subst e1
          refine q _ d (fun b x e => ?_) (sm.free hd') upd_same
          rw [upd_ne (ne_of_none (sm _ _ e) hd')]
          exact sm _ _ e
        have hlog : (i : Int).natAbs.log2 < 1920 := by
          have : (i : Int).natAbs < 2 ^ 20 := by
            show i < 2 ^ 20
            omega
          exact Nat.lt_trans (PySem.Flt.log2_lt_of (by decide) this) (by decide)
        refine ⟨_, rfl, l[i], S FIG, rfl, rfl, _, rfl, ?_⟩
        rw [S_cps]
        by_cases hF : l[i] ∈ FIG
        · rw [decide_eq_true hF]
          refine iteT ⟨_, rfl, _, rfl, l, FIG, i, rfl, hi, by omega, _, _, rfl, ?_⟩
          refine ⟨_, rfl, _, rfl, ?_, _, _, rfl, rfl, _, rfl, ?_⟩
          · refine line6 ?_
            rw [S_len]
            exact Nat.le_trans (takeWhile_le _) (by rw [List.length_drop]; omega)
          rw [S_len]
          have st : step (l.drop i) = if 18 < ((l.drop i).takeWhile isF).length then none else (some ("num", (l.drop i).takeWhile isF) : Option (Str × List Nat)) := by
            rw [hdr]
            unfold step
            dsimp only
            rw [if_pos hF]
          by_cases h18 : 18 < ((l.drop i).takeWhile isF).length
          · rw [if_pos h18] at st
            refine ite2 (fun _ => ?_) (fun z => ?_)
            · exact ⟨_, rfl, _, rfl, hlog, bad st⟩
            · exact absurd (decide_eq_true (show (18 : Int) < (((l.drop i).takeWhile isF).length : Int) by omega)) z
          · rw [if_neg h18] at st
            refine ite2 (fun z => ?_) (fun _ => ?_)
            · have : (18 : Int) < (((l.drop i).takeWhile isF).length : Int) := of_decide_eq_true z
              omega
            · exact ⟨rfl, _, _, st, rfl⟩
        · rw [decide_eq_false hF]
          refine iteF ⟨_, rfl, l[i], S LET, rfl, rfl, _, rfl, ?_⟩
          rw [S_cps]
          by_cases hL : l[i] ∈ LET
          · rw [decide_eq_true hL]
            have eN : S LET ++ S FIG ++ (Str.ofString "_") = S NAMES := by decide +kernel
            refine iteT ⟨_, rfl, _, rfl, S LET, S FIG, rfl, rfl, ?_, _, _, rfl, rfl, ?_, l, NAMES, i, by rw [eN]; rfl, hi, by omega, ?_⟩
            · exact line6 (by decide +kernel)
            · exact line6 (by decide +kernel)
            have st : step (l.drop i) = (some (if (l.drop i).takeWhile isN ∈ WORDSl then "word" else "name", (l.drop i).takeWhile isN) : Option (Str × List Nat)) := by
              rw [hdr]
              unfold step
              dsimp only
              rw [if_neg hF, if_pos hL]
            refine ⟨_, rfl, aW, _, rfl, .inr (T.wT _), rfl, flat_S _, _, rfl, ?_⟩
            show (if (inV (.str (S ((l.drop i).takeWhile isN))) (WORDSl.map fun x => V.str (S x))) = true then _ else _)
            rw [inV_S]
            by_cases hW : (l.drop i).takeWhile isN ∈ WORDSl
            · rw [decide_eq_true hW]
              rw [if_pos hW] at st
              exact iteT ⟨rfl, _, _, st, rfl⟩
            · rw [decide_eq_false hW]
              rw [if_neg hW] at st
              exact iteF ⟨rfl, _, _, st, rfl⟩
          · rw [decide_eq_false hL]
            have cut2 : cutS (S l) (some (i : Int)) (some ((i : Int) + 2)) = S ((l.drop i).take 2) := by
              have := cutS_S l i (i + 2)
              rw [show i + 2 - i = 2 by omega] at this
              exact this
            refine iteF ⟨_, rfl, _, rfl, _, rfl, _, rfl, _, _, rfl, rfl, _, rfl, S l, rfl, line6 (by rw [S_len]; omega), aL, _, rfl, .inr (T.lT _), rfl, flat_S _, _, rfl, ?_⟩
            show (if (inV (.str (cutS (S l) (some (i : Int)) (some ((i : Int) + 2)))) (LONGl.map fun x => V.str (S x))) = true then _ else _)
            rw [cut2, inV_S]
            by_cases hG : (l.drop i).take 2 ∈ LONGl
            · rw [decide_eq_true hG]
              have st : step (l.drop i) = (some ("sign", (l.drop i).take 2) : Option (Str × List Nat)) := by
                rw [hdr] at hG ⊢
                unfold step
                dsimp only
                rw [if_neg hF, if_neg hL, if_pos hG]
              refine iteT ⟨_, rfl, _, rfl, _, rfl, _, rfl, _, _, rfl, rfl, _, rfl, S l, rfl, line6 (by rw [S_len]; omega), _, _, rfl, rfl, _, _, st, ?_⟩
              show [_, _, _, _, some (V.str (cutS (S l) (some (i : Int)) (some ((i : Int) + 2)))), _] = _
              rw [cut2]
            · rw [decide_eq_false hG]
              refine iteF ⟨_, rfl, l[i], S SGN, rfl, rfl, _, rfl, ?_⟩
              rw [S_cps]
              by_cases hA : l[i] ∈ SGN
              · rw [decide_eq_true hA]
                have st : step (l.drop i) = (some ("sign", [l[i]]) : Option (Str × List Nat)) := by
                  rw [hdr] at hG ⊢
                  unfold step
                  dsimp only
                  rw [if_neg hF, if_neg hL, if_neg hG, if_pos hA]
                exact iteT ⟨_, rfl, _, _, rfl, rfl, _, _, st, rfl⟩
              · rw [decide_eq_false hA]
                refine iteF ⟨_, rfl, l[i], _, rfl, rfl, _, rfl, ?_⟩
                have eB : (Str.ofString " 
").cps.toList = [32, 10] := by decide +kernel
                rw [eB]
                by_cases hB : l[i] ∈ [32, 10]
                · rw [decide_eq_true hB]
                  have st : step (l.drop i) = (some ("", [l[i]]) : Option (Str × List Nat)) := by
                    rw [hdr] at hG ⊢
                    unfold step
                    dsimp only
                    rw [if_neg hF, if_neg hL, if_neg hG, if_neg hA, if_pos hB]
                  exact iteT ⟨_, rfl, _, _, rfl, rfl, _, _, st, rfl⟩
                · rw [decide_eq_false hB]
                  have st : step (l.drop i) = none := by
                    rw [hdr] at hG ⊢
                    unfold step
                    dsimp only
                    rw [if_neg hF, if_neg hL, if_neg hG, if_neg hA, if_neg hB]
                  exact iteF ⟨_, rfl, _, rfl, hlog, bad st⟩
      · rintro σ' H'' ⟨rfl, a, fd, st, rfl⟩
        obtain ⟨f0, f1⟩ := step_len st
        rw [List.length_drop] at f1
        have go : ∃ r2, r' = put a fd i r2 ∧ Lex (i + fd.length) (l.drop (i + fd.length)) r2 := by
          rw [hdr] at hx' st
          cases hx' with
          | bad _ _ _ h => rw [h] at st; cases st
          | go _ _ _ a' f' r2 h h2 =>
            rw [h] at st
            cases st
            refine ⟨r2, rfl, ?_⟩
            rw [← hdr, List.drop_drop] at h2
            exact h2
        obtain ⟨r2, rfl, hx2⟩ := go
        rw [behind_put] at er
        have hln : (S fd).length ≤ sizeLine := line6 (by rw [S_len]; omega)
        refine ⟨_, rfl, rfl, _, rfl, ?_⟩
        by_cases ha : a = ""
        · subst ha
          rw [if_pos rfl] at er
          refine iteF ⟨_, rfl, _, rfl, S fd, rfl, hln, _, _, rfl, rfl, _, ?_, i + fd.length, done, r2, refs, some (.str ⟨#[l[i]]⟩), some (.str (S fd)), some (.str ""), rfl, ?_, by omega, sm, eo, tk, by omega, hx2, er⟩
          · omega
          · rw [S_len]
            rfl
        · rw [if_neg ha] at er
          have hne : (!decide (V.str a = V.str ("" : Str))) = true := by
            rw [decide_eq_false (fun e => ha (V.str.inj e))]
            rfl
          rw [hne]
          refine iteT ⟨_, rfl, .inl ⟨rfl, _, SqL.of eo⟩, _, rfl, _, rfl, _, rfl, line6 (by simp), fun t nt => ?_⟩
          have nto : t ≠ o := fun e => by
            rw [e, eo] at nt
            cases nt
          refine ⟨o, _, _, rfl, rfl, by rw [upd_ne nto.symm]; exact eo, ?_, ?_⟩
          · rw [List.length_map, tk.len]
            exact Nat.lt_of_lt_of_le (Nat.lt_succ_self _) (line6 (by omega))
          refine ⟨_, rfl, _, rfl, S fd, rfl, hln, _, _, rfl, rfl, l.length - (i + fd.length), by omega, i + fd.length, done ++ [(a, fd, i)], r2, refs ++ [t], some (.str ⟨#[l[i]]⟩), some (.str (S fd)), some (.str a), rfl, ?_, by omega, ?_, ?_, ?_, ?_, hx2, er⟩
          · rw [S_len]
            rfl
          · intro b x e
            have e1 := sm b x e
            rw [upd_ne (ne_of_none e no), upd_ne (ne_of_none e1 nt)]
            exact e1
          · rw [upd_same, List.map_append]
            rfl
          · refine Toks.snoc ?_ (tk.mono fun b xs e => ?_)
            · rw [upd_ne nto, upd_same]
            · have : b ≠ o := fun z => by
                rw [z, eo] at e
                cases e
              rw [upd_ne this, upd_ne (ne_of_none e nt)]
              exact e
          · rw [List.length_append, List.length_singleton]
            omega
    · have hI : ¬ (i : Int) < (l.length : Int) := by omega
      rw [decide_eq_false hI]
      have e0 : l.drop i = [] := List.drop_eq_nil_of_le (by omega)
      rw [e0] at hx'
      cases hx'
      have e1 : r = .ok (done ++ []) := er.symm
      subst e1
      rw [List.append_nil] at q
      exact iteF ⟨_, rfl, q H' o sm no ⟨refs, eo, tk⟩⟩
end
end K1
set_option Elab.async false
set_option linter.all false
set_option maxRecDepth 100000
set_option maxHeartbeats 4000000
namespace K1
open PySem PySem.Spec PyProof.Rows L2
open C8 (pss_cut tCut)
abbrev s__law_state : Stmt := sState
abbrev s__law_some : Stmt := sSome
abbrev N__law_state : List Str := ["script", "seed", "cell"]
abbrev N__law_some : List Str := ["state", "kind", "words", "signs", "name", "k"]
theorem sc__law_state : FnScope N__law_state ["script"] (defScope s__law_state) := scState
theorem sc__law_some : FnScope N__law_some ["state"] (defScope s__law_some) := ⟨rfl, rfl, rfl, by decide +kernel, rfl, by decide +kernel, by decide +kernel⟩
/-- what stood beside the drawing state stands -/
def Keep (st c : Addr) (H H' : Hp) : Prop := ∀ b o, b ≠ st → b ≠ c → H b = some o → H' b = some o
theorem Keep.refl (st c : Addr) (H : Hp) : Keep st c H H := fun _ _ _ _ e => e
theorem Keep.trans {st c : Addr} {H H1 H2 : Hp} (a : Keep st c H H1) (b : Keep st c H1 H2) : Keep st c H H2 := fun x o h1 h2 e => b x o h1 h2 (a x o h1 h2 e)
theorem Apart.keep {st c : Addr} {H H' : Hp} (a : Apart st c H H') : Keep st c H H' := fun b o h1 h2 e => (a b h1 h2).trans e
theorem Keep.new {st c : Addr} {H : Hp} {p : Addr} {o : HO} (h : H p = none) : Keep st c H (upd H p o) := fun b x _ _ e => by
  rw [upd_ne (ne_of_none e h)]
  exact e
theorem StOk.new {st c p : Addr} {H : Hp} {o : HO} (s : StOk st c H) (h : H p = none) : StOk st c (upd H p o) := by
  obtain ⟨cells, m, h1, h2, r⟩ := s
  refine ⟨cells, m, ?_, ?_, r⟩
  · rw [upd_ne (ne_of_none h1 h)]
    exact h1
  · rw [upd_ne (ne_of_none h2 h)]
    exact h2
/-- a new address is none of the state's -/
theorem StOk.fresh {st c p : Addr} {H : Hp} (s : StOk st c H) (h : H p = none) : p ≠ st ∧ p ≠ c := by
  obtain ⟨cells, m, h1, h2, r⟩ := s
  exact ⟨(ne_of_none h1 h).symm, (ne_of_none h2 h).symm⟩
section
variable {P : Program} {w : World} {K : PySem.W.Frag} {mg : Str → Option Value} {base : Heap}
def spState (K : PySem.W.Frag) : Sp := fun vs H Q _ => ∃ (a : Addr) (ns : List Int), vs = [.ref a] ∧ SqL K H a (ns.map V.int) ∧ ns.length ≤ 63 ∧
  ∀ st c H', Same H H' → H st = none → H c = none → StOk st c H' → Q (.ref st) H'
theorem ok_state {f : Addr} {fd : FuncData} (F : Fun K "_law_state" "_law_state" sState f fd) (m_int : mg "int" = none) (m_abs : mg "abs" = none) : FnOk P w K mg base CX0 1 f fd ["script"] (spState K) := by
  refine F.ok sc__law_state (fun vs H Q E h => ?_) (fun cdv A outer s H vs Q E hr h => ?_)
  · obtain ⟨a, ns, rfl, _⟩ := h
    rfl
  · obtain ⟨a, ns, rfl, hS, hl, q⟩ := h
    refine ⟨_, (pss_cons (ps_set (i := 1) sc__law_state.nd rfl (.inl rfl) pe_int)
  (pss_cons (ps_for PassesOwn.never rfl (pi_list (pv 0)) (pg_name (i := 2) sc__law_state.nd rfl (.inl rfl))
    (pss_one (ps_set (i := 1) sc__law_state.nd rfl (.inl rfl) (pe_op op_mod (pe_callTy call_int1 (by rfl) m_int boot_int (pa_cons (pe_op op_add (pe_op op_mul (pv 1) pe_int) (pv 2)) pa_nil)) pe_int))))
  (pss_one (ps_ret (pe_lst (pa_cons (pe_lc (own := [("cell", 2)]) (g := gName 2) rfl sc__law_state.nd (pi_list (pv 0)) (blkOk_by (own := [("cell", 2)]) (N := N__law_state) (sc := defScope s__law_state) (by decide +kernel)) (fun _ _ _ _ _ => pg_name (i := 2) sc__law_state.nd rfl (.inl rfl)) (fun _ _ _ _ _ => pts_nil) (fun _ _ _ _ _ => (pe_callB call_abs (by rfl) m_abs boot_abs (pa_cons (pv 2) pa_nil)))) (pa_cons (pe_op op_add (pv 1) pe_int) pa_nil))))))), ?_⟩
    refine ⟨_, rfl, a, rfl, ⟨_, hS⟩, for_list (K := K) (a := a) (xs := ns.map V.int) (fun i σ H' => ∃ (y2 : Option V) (z : Int), σ = [some (.ref a), some (.int z), y2] ∧ 0 ≤ z ∧ z < 1000003 ∧ H' = H)
      ⟨none, 7, rfl, by decide, by decide, rfl⟩ (fun i σ H' _ hP => ?_) (fun i x σ H' hx hP => ?_) (fun σ H' hP => ?_)⟩
    · obtain ⟨_, _, _, _, _, rfl⟩ := hP
      exact hS
    · obtain ⟨y2, z, rfl, h0, h1, rfl⟩ := hP
      obtain ⟨n, hn, rfl⟩ : ∃ n : Int, ns[i]? = some n ∧ V.int n = x := by
        rw [List.getElem?_map] at hx
        cases e : ns[i]? with
        | none => rw [e] at hx; cases hx
        | some n => rw [e] at hx; exact ⟨n, rfl, Option.some.inj hx⟩
      refine ⟨_, rfl, z, 31, rfl, rfl, .inl ⟨by omega, by omega⟩, _, rfl, _, _, rfl, rfl, .inl ⟨_, rfl, _, _, rfl, rfl, (show (0 : Int) < 1000003 by decide), ?_⟩⟩
      exact ⟨_, _, rfl, Int.emod_nonneg _ (by decide), Int.emod_lt_of_pos _ (by decide), rfl⟩
    · obtain ⟨y2, z, rfl, h0, h1, rfl⟩ := hP
      refine ⟨_, rfl, a, rfl, ⟨_, hS⟩, fun D hD => ?_⟩
      have sD : ∀ l, Same H' (upd H' D (.lst l)) := fun l b x e => by
        rw [upd_ne (ne_of_none e hD)]
        exact e
      refine lc_list (K := K) (a := a) (xs := ns.map V.int) (fun i G => ∃ l : List Int, l.length = i ∧ G = upd H' D (.lst (l.map V.int))) ⟨[], rfl, rfl⟩ (fun i G _ hP => ?_) (fun i x G hx hP => ?_) (fun G hP => ?_)
      · obtain ⟨l, _, rfl⟩ := hP
        exact (sD _).seq hS
      · obtain ⟨l, el, rfl⟩ := hP
        obtain ⟨n, hn, rfl⟩ : ∃ n : Int, ns[i]? = some n ∧ V.int n = x := by
          rw [List.getElem?_map] at hx
          cases e : ns[i]? with
          | none => rw [e] at hx; cases hx
          | some n => rw [e] at hx; exact ⟨n, rfl, Option.some.inj hx⟩
        have hlt : i < ns.length := (List.getElem?_eq_some_iff.mp hn).1
        refine ⟨rfl, _, rfl, n, rfl, _, upd_same, ?_, ?_⟩
        · rw [List.length_map, el]
          exact Nat.lt_of_lt_of_le hlt (line6 (by omega))
        · refine ⟨l ++ [if n < 0 then -n else n], by simp [el], ?_⟩
          rw [upd_upd, List.map_append]
          rfl
      · obtain ⟨l, el, rfl⟩ := hP
        refine ⟨_, rfl, _, _, rfl, rfl, ?_, fun st hst => ?_⟩
        · exact line6 (by simp)
        have nD : st ≠ D := fun e => by
          rw [e, upd_same] at hst
          cases hst
        have hst' : H' st = none := by
          rw [upd_ne nD] at hst
          exact hst
        refine q st D _ (fun b x e => ?_) hst' hD ⟨l, z + 1, ?_, ?_, ?_, by omega, by omega⟩
        · rw [upd_ne (ne_of_none e hst'), upd_ne (ne_of_none e hD)]
          exact e
        · rw [upd_same]
        · rw [upd_ne nD.symm, upd_same]
        · rw [el, List.length_map]
          exact hl
end
/-! ### drawn tokens -/
abbrev LW : List String := ["fun", "let", "in", "if", "then", "else", "fn", "try", "with", "raise", "or", "and", "not", "rest", "true", "false", "array", "len", "print", "int", "bool", "unit"]
abbrev LS : List String := [":=", "=>", "->", "//", "<=", "==", "(", ")", "[", "]", ",", ";", ":", "=", "+", "-", "*", "<"]
theorem words_LW : Txt.words (Str.ofString "fun let in if then else fn try with raise or and not rest true false array len print int bool unit") = LW.map Str.ofString := by decide +kernel
theorem words_LS : Txt.words (Str.ofString ":= => -> // <= == ( ) [ ] , ; : = + - * <") = LS.map Str.ofString := by decide +kernel
inductive TokOk : Str → List Nat → Prop
  | num (f : List Nat) : f ≠ [] → (∀ x ∈ f, x ∈ FIG) → f.length ≤ 18 → TokOk "num" f
  | word (x : String) : x ∈ LW → TokOk "word" (codes x)
  | sign (x : String) : x ∈ LS → TokOk "sign" (codes x)
  | name (c : Nat) (m : List Nat) : c ∈ LET → (∀ x ∈ m, x ∈ NAMES) → m.length ≤ 4 → TokOk "name" (c :: m ++ [95])
theorem atI_mem {α : Type} {xs : List α} {r : Int} (h0 : 0 ≤ r) (h1 : r < (xs.length : Int)) : ∃ x ∈ xs, atI xs r = some x := by
  obtain ⟨n, rfl⟩ := Int.eq_ofNat_of_zero_le h0
  have hn : n < xs.length := by omega
  exact ⟨xs[n], List.getElem_mem hn, atI_nat (List.getElem?_eq_getElem hn)⟩
theorem num_ok {n : Int} (h0 : 0 ≤ n) (h1 : n < 1000000000000000000) : TokOk "num" (Str.ofString (toString n)).cps.toList := by
  obtain ⟨m, rfl⟩ := Int.eq_ofNat_of_zero_le h0
  have hl : (Str.ofString (toString ((m : Nat) : Int))).length ≤ 18 := toString_length_le (by omega) (by decide) (by omega)
  refine .num _ ?_ ?_ ?_
  · rw [PySem.W.KIN.signs_num]
    intro e
    have h := toDigits_len_ge 10 m
    rw [List.map_eq_nil_iff.mp e] at h
    exact absurd h (by decide)
  · intro x hx
    rw [PySem.W.KIN.signs_num] at hx
    obtain ⟨ch, hch, e⟩ := List.mem_map.mp hx
    have r := digit_range (Nat.isDigit_of_mem_toDigits (by decide) (by decide) hch)
    rw [e] at r
    have : x = 48 ∨ x = 49 ∨ x = 50 ∨ x = 51 ∨ x = 52 ∨ x = 53 ∨ x = 54 ∨ x = 55 ∨ x = 56 ∨ x = 57 := by omega
    rcases this with rfl | rfl | rfl | rfl | rfl | rfl | rfl | rfl | rfl | rfl <;> decide
  · rw [Array.length_toList]
    exact hl
section
variable {P : Program} {w : World} {K : PySem.W.Frag} {mg : Str → Option Value} {base : Heap}
def spSome : Sp := fun vs H Q _ => ∃ (st c : Addr), vs = [.ref st] ∧ StOk st c H ∧
  ∀ a f p H', TokOk a f → StOk st c H' → Keep st c H H' → H p = none → H' p = some (.lst [.str a, .str (S f)]) → Q (.ref p) H'
theorem ok_some {f fD : Addr} {fd fdD : FuncData} (F : Fun K "_law_some" "_law_some" sSome f fd) (m_len : mg "len" = none) (m_int : mg "int" = none) (m_str : mg "str" = none) (m_range : mg "range" = none)
    (F_draw : Fun K "_law_draw" "_law_draw" sDraw fD fdD) (b_draw : Binds K fdD ["state", "many"] []) (g_draw : mg "_law_draw" = some (.ref fD)) : FnOk P w K mg base CX0 2 f fd ["state"] spSome := by
  have G_draw : FnOk P w K mg base CX0 1 fD fdD ["state", "many"] spDraw := ok_draw F_draw m_len m_int
  refine F.ok sc__law_some (fun vs H Q E h => ?_) (fun cdv A outer s H vs Q E hr h => ?_)
  · obtain ⟨st, c, rfl, _⟩ := h
    rfl
  · obtain ⟨st, c, rfl, hS, q⟩ := h
    refine ⟨_, (pss_cons (ps_set (i := 1) sc__law_some.nd rfl (.inl rfl) (pe_call G_draw (hr.mono (by decide)) (by rfl) g_draw F_draw.kp b_draw .nil pass0 (pa_cons (pv 0) (pa_cons pe_int pa_nil))))
  (pss_cons (ps_if (pt_cmpR op_eq (pv 1) pe_int (nomark _))
    (pss_one (ps_ret (pe_lst (pa_cons pe_str (pa_cons (pe_callTy call_str_int (by rfl) m_str boot_str (pa_cons (pe_call G_draw (hr.mono (by decide)) (by rfl) g_draw F_draw.kp b_draw .nil pass0 (pa_cons (pv 0) (pa_cons (pe_ix ix_list (pe_lst (pa_cons pe_int (pa_cons pe_int (pa_cons (pe_op op_pow pe_int pe_int) pa_nil)))) (pe_call G_draw (hr.mono (by decide)) (by rfl) g_draw F_draw.kp b_draw .nil pass0 (pa_cons (pv 0) (pa_cons pe_int pa_nil))) (fun _ _ => rfl)) pa_nil))) pa_nil)) pa_nil)))))
    pss_nil)
  (pss_cons (ps_if (pt_cmpR op_eq (pv 1) pe_int (nomark _))
    (pss_cons (ps_set (i := 2) sc__law_some.nd rfl (.inl rfl) (pe_words pe_str))
    (pss_one (ps_ret (pe_lst (pa_cons pe_str (pa_cons (pe_ix ix_list (pv 2) (pe_call G_draw (hr.mono (by decide)) (by rfl) g_draw F_draw.kp b_draw .nil pass0 (pa_cons (pv 0) (pa_cons (pe_callB call_len_seq (by rfl) m_len PySem.boot_len (pa_cons (pv 2) pa_nil)) pa_nil))) (fun _ _ => rfl)) pa_nil))))))
    pss_nil)
  (pss_cons (ps_if (pt_cmpR op_eq (pv 1) pe_int (nomark _))
    (pss_cons (ps_set (i := 3) sc__law_some.nd rfl (.inl rfl) (pe_words pe_str))
    (pss_one (ps_ret (pe_lst (pa_cons pe_str (pa_cons (pe_ix ix_list (pv 3) (pe_call G_draw (hr.mono (by decide)) (by rfl) g_draw F_draw.kp b_draw .nil pass0 (pa_cons (pv 0) (pa_cons (pe_callB call_len_seq (by rfl) m_len PySem.boot_len (pa_cons (pv 3) pa_nil)) pa_nil))) (fun _ _ => rfl)) pa_nil))))))
    pss_nil)
  (pss_cons (ps_set (i := 4) sc__law_some.nd rfl (.inl rfl) (pe_op op_add_str (pe_op op_add_str (pe_ix ix_str pe_str (pe_call G_draw (hr.mono (by decide)) (by rfl) g_draw F_draw.kp b_draw .nil pass0 (pa_cons (pv 0) (pa_cons pe_int pa_nil))) (fun _ _ => rfl)) (pe_join pe_str (pe_lc (own := [("k", 5)]) (g := gName 5) rfl sc__law_some.nd (pi_range1 (by rfl) m_range (pa_cons (pe_op op_add pe_int (pe_call G_draw (hr.mono (by decide)) (by rfl) g_draw F_draw.kp b_draw .nil pass0 (pa_cons (pv 0) (pa_cons pe_int pa_nil)))) pa_nil)) (blkOk_by (own := [("k", 5)]) (N := N__law_some) (sc := defScope s__law_some) (by decide +kernel)) (fun _ _ _ _ _ => pg_name (i := 5) sc__law_some.nd rfl (.inl rfl)) (fun _ _ _ _ _ => pts_nil) (fun _ _ _ _ _ => (pe_ix ix_str pe_str (pe_call G_draw (hr.mono (by decide)) (by rfl) g_draw F_draw.kp b_draw .nil pass0 (pa_cons (pv 0) (pa_cons pe_int pa_nil))) (fun _ _ => rfl)))))) pe_str))
  (pss_one (ps_ret (pe_lst (pa_cons pe_str (pa_cons (pv 4) pa_nil)))))))))), ?_⟩
    -- kind = _law_draw(state, 4)
    refine ⟨_, rfl, st, c, 4, rfl, hS, by decide, by decide, fun kd H1 k0 k4 hS1 ap1 => ?_⟩
    have kp1 := ap1.keep
    -- kind == 0
    refine ⟨_, rfl, rfl, _, rfl, ite2 (fun e => ?_) (fun e => ?_)⟩
    · refine ⟨_, rfl, _, _, rfl, rfl, ⟨by decide, by decide, by decide⟩, line6 (by simp), fun L nL => ?_⟩
      refine ⟨_, rfl, st, c, 3, rfl, hS1.new nL, by decide, by decide, fun r H2 r0 r3 hS2 ap2 => ?_⟩
      have hL : H2 L = some (.lst [.int 10, .int 1000, .int (10 ^ 12)]) := ap2.keep _ _ (hS1.fresh nL).1 (hS1.fresh nL).2 upd_same
      obtain ⟨x, hx, ex⟩ := atI_mem (xs := [V.int 10, .int 1000, .int (10 ^ 12)]) r0 (by simpa using r3)
      obtain ⟨v, rfl, v0, v1⟩ : ∃ v, x = .int v ∧ 0 < v ∧ v ≤ 1000000000000 := by
        simp only [List.mem_cons, List.not_mem_nil, or_false] at hx
        rcases hx with rfl | rfl | rfl
        · exact ⟨_, rfl, by decide, by decide⟩
        · exact ⟨_, rfl, by decide, by decide⟩
        · exact ⟨_, rfl, by decide, by decide⟩
      refine ⟨L, _, r, .int v, rfl, rfl, SqL.of hL, ex, ?_⟩
      refine ⟨st, c, v, rfl, hS2, v0, by omega, fun n H3 n0 n1 hS3 ap3 => ?_⟩
      refine ⟨n, rfl, ?_, line6 (by simp), fun p np => ?_⟩
      · have : n.natAbs < 2 ^ 60 := by omega
        exact Nat.lt_trans (PySem.Flt.log2_lt_of (by decide) this) (by decide)
      have kk : Keep st c H H3 := kp1.trans ((Keep.new nL).trans (ap2.keep.trans ap3.keep))
      have np0 : H p = none := by
        cases hp : H p with
        | none => rfl
        | some o =>
          have f1 := hS3.fresh np
          have := kk p o f1.1 f1.2 hp
          rw [np] at this
          cases this
      have e2 : Str.ofString (toString n) = S (Str.ofString (toString n)).cps.toList := (S_self _).symm
      refine q "num" _ p _ (num_ok n0 (by omega)) (hS3.new np) (kk.trans (Keep.new np)) np0 ?_
      rw [upd_same, ← e2]
    · -- kind == 1
      have fin : ∀ (H3 : Hp) (a : Str) (f : List Nat), TokOk a f → StOk st c H3 → Keep st c H H3 → ∀ p, H3 p = none → Q (.ref p) (upd H3 p (.lst [.str a, .str (S f)])) := fun H3 a f ok h3 kk p np => by
        have np0 : H p = none := by
          cases hp : H p with
          | none => rfl
          | some o =>
            have f1 := h3.fresh np
            have := kk p o f1.1 f1.2 hp
            rw [np] at this
            cases this
        exact q a f p _ ok (h3.new np) (kk.trans (Keep.new np)) np0 upd_same
      refine ⟨_, rfl, rfl, _, rfl, ite2 (fun e => ?_) (fun e => ?_)⟩
      · refine ⟨⟨_, rfl⟩, _, rfl, rfl, line6 (by decide +kernel), fun L nL => ?_⟩
        have hLw : (upd H1 L (.lst ((Txt.words (Str.ofString "fun let in if then else fn try with raise or and not rest true false array len print int bool unit")).map V.str))) L = some (.lst ((LW.map Str.ofString).map V.str)) := by
          rw [upd_same, words_LW]
        refine ⟨_, rfl, _, rfl, _, rfl, L, _, rfl, .inl (SqL.of hLw), ?_⟩
        refine ⟨st, c, _, rfl, hS1.new nL, (by decide), (by decide), fun r H2 r0 r3 hS2 ap2 => ?_⟩
        have hL : H2 L = some (.lst ((LW.map Str.ofString).map V.str)) := ap2.keep _ _ (hS1.fresh nL).1 (hS1.fresh nL).2 hLw
        obtain ⟨x, hx, ex⟩ := atI_mem (xs := (LW.map Str.ofString).map V.str) r0 r3
        obtain ⟨y, hy, rfl⟩ := List.mem_map.mp hx
        obtain ⟨z, hz, rfl⟩ := List.mem_map.mp hy
        refine ⟨_, _, r, _, rfl, rfl, SqL.of hL, ex, line6 (by simp), fun p np => ?_⟩
        have := fin H2 "word" (codes z) (.word z hz) hS2 (kp1.trans ((Keep.new nL).trans ap2.keep)) p np
        rw [show S (codes z) = Str.ofString z from S_self _] at this
        exact this
      · refine ⟨_, rfl, rfl, _, rfl, ite2 (fun e => ?_) (fun e => ?_)⟩
        · refine ⟨⟨_, rfl⟩, _, rfl, rfl, line6 (by decide +kernel), fun L nL => ?_⟩
          have hLw : (upd H1 L (.lst ((Txt.words (Str.ofString ":= => -> // <= == ( ) [ ] , ; : = + - * <")).map V.str))) L = some (.lst ((LS.map Str.ofString).map V.str)) := by
            rw [upd_same, words_LS]
          refine ⟨_, rfl, _, rfl, _, rfl, L, _, rfl, .inl (SqL.of hLw), ?_⟩
          refine ⟨st, c, _, rfl, hS1.new nL, (by decide), (by decide), fun r H2 r0 r3 hS2 ap2 => ?_⟩
          have hL : H2 L = some (.lst ((LS.map Str.ofString).map V.str)) := ap2.keep _ _ (hS1.fresh nL).1 (hS1.fresh nL).2 hLw
          obtain ⟨x, hx, ex⟩ := atI_mem (xs := (LS.map Str.ofString).map V.str) r0 r3
          obtain ⟨y, hy, rfl⟩ := List.mem_map.mp hx
          obtain ⟨z, hz, rfl⟩ := List.mem_map.mp hy
          refine ⟨_, _, r, _, rfl, rfl, SqL.of hL, ex, line6 (by simp), fun p np => ?_⟩
          have := fin H2 "sign" (codes z) (.sign z hz) hS2 (kp1.trans ((Keep.new nL).trans ap2.keep)) p np
          rw [show S (codes z) = Str.ofString z from S_self _] at this
          exact this
        · -- a name
          refine ⟨_, rfl, st, c, 11, rfl, hS1, by decide, by decide, fun r H2 r0 r3 hS2 ap2 => ?_⟩
          have e11 : ((Str.ofString "abcfgiknptz").cps.toList.length : Int) = 11 := by decide +kernel
          obtain ⟨ch, hch, ech⟩ := atI_mem (xs := (Str.ofString "abcfgiknptz").cps.toList) r0 (by rw [e11]; exact r3)
          have hLet : ch ∈ LET := (show ∀ x ∈ (Str.ofString "abcfgiknptz").cps.toList, x ∈ LET by decide +kernel) ch hch
          refine ⟨_, r, ch, rfl, rfl, line6 (by decide +kernel), ech, ⟨_, rfl⟩, ?_⟩
          refine ⟨_, rfl, st, c, 4, rfl, hS2, by decide, by decide, fun r2 H3 q0 q3 hS3 ap3 => ?_⟩
          refine ⟨1, r2, rfl, rfl, _, rfl, by omega, by omega, fun D hD => ?_⟩
          have fD := hS3.fresh hD
          have kH3 : Keep st c H H3 := kp1.trans (ap2.keep.trans ap3.keep)
          have eN : (0 : Int) + ((1 + r2).toNat : Int) = 1 + r2 := by omega
          refine lc_range (lo := 0) (n := (1 + r2).toNat) (fun i G => ∃ ms : List Nat, ms.length = i ∧ (∀ x ∈ ms, x ∈ NAMES) ∧ StOk st c G ∧ Keep st c H G ∧ G D = some (.lst ((ms.map fun m => S [m]).map V.str)))
            ⟨[], rfl, by simp, hS3.new hD, kH3.trans (Keep.new hD), upd_same⟩ (fun i G hi hP => ?_) (fun G hP => ?_)
          · obtain ⟨ms, el, hms, hSg, kg, eD⟩ := hP
            refine ⟨rfl, _, rfl, st, c, 6, rfl, hSg, by decide, by decide, fun r4 H4 z0 z3 hS4 ap4 => ?_⟩
            have e6 : ((Str.ofString "az09_t").cps.toList.length : Int) = 6 := by decide +kernel
            obtain ⟨ch2, hch2, ech2⟩ := atI_mem (xs := (Str.ofString "az09_t").cps.toList) z0 (by rw [e6]; exact z3)
            have hNm : ch2 ∈ NAMES := (show ∀ x ∈ (Str.ofString "az09_t").cps.toList, x ∈ NAMES by decide +kernel) ch2 hch2
            have eD4 : H4 D = some (.lst ((ms.map fun m => S [m]).map V.str)) := (ap4 D fD.1 fD.2).trans eD
            refine ⟨_, r4, ch2, rfl, rfl, line6 (by decide +kernel), ech2, _, eD4, ?_, ms ++ [ch2], by simp [el], ?_, ?_, ?_, ?_⟩
            · rw [List.length_map, List.length_map, el]
              exact Nat.lt_of_lt_of_le hi (line6 (by omega))
            · intro x hx
              rcases List.mem_append.mp hx with hx | hx
              · exact hms x hx
              · rw [List.mem_singleton.mp hx]
                exact hNm
            · obtain ⟨cells, m, h1, h2, rr⟩ := hS4
              exact ⟨cells, m, by rw [upd_ne fD.1.symm]; exact h1, by rw [upd_ne fD.2.symm]; exact h2, rr⟩
            · intro b o h1 h2 e
              have e4 := (kg.trans ap4.keep) b o h1 h2 e
              have nb : b ≠ D := ne_of_none (kH3 b o h1 h2 e) hD
              rw [upd_ne nb]
              exact e4
            · rw [upd_same, List.map_append, List.map_append]
              rfl
          · obtain ⟨ms, el, hms, hSg, kg, eD⟩ := hP
            have l4 : ms.length ≤ 4 := by omega
            refine ⟨_, D, ms.map fun m => S [m], rfl, rfl, .inl (SqL.of eD), ?_, ?_⟩
            · have : ∀ l : List Nat, ((l.map fun m => S [m]).map (·.length)).sum = l.length := fun l => by
                induction l with
                | nil => rfl
                | cons x r ih =>
                  rw [List.map_cons, List.map_cons, List.sum_cons, ih, S_len]
                  simp
                  omega
              rw [this, List.length_map]
              have e0 : (Str.ofString "").length = 0 := by decide +kernel
              rw [e0]
              omega
            have ej : ∀ l : List Nat, Txt.join (Str.ofString "") (l.map fun m => S [m]) = S l := fun l => by
              rw [TL.join_eq, show Str.ofString "" = (⟨#[]⟩ : Str) by decide +kernel]
              exact join_ones l
            rw [ej]
            have e1 : (⟨#[ch]⟩ : Str) ++ S ms ++ Str.ofString "_" = S (ch :: ms ++ [95]) := by
              rw [show Str.ofString "_" = S [95] by decide +kernel, ← S_one, S_app, S_app]
              rfl
            refine ⟨_, _, rfl, rfl, ?_, _, _, rfl, rfl, ?_, _, rfl, line6 (by simp), fun p np => ?_⟩
            · rw [S_len]
              exact line6 (by rw [← S_one, S_len, List.length_singleton]; omega)
            · rw [← S_one, S_app, S_len, show (Str.ofString "_").length = 1 by decide +kernel]
              exact line6 (by rw [List.length_append, List.length_singleton]; omega)
            have := fin G "name" _ (.name ch ms hLet hms l4) hSg kg p np
            rw [← e1] at this
            exact this
end
end K1
set_option Elab.async false
set_option linter.all false
set_option maxRecDepth 100000
set_option maxHeartbeats 4000000
namespace K1
open PySem PySem.Spec PyProof.Rows L2
/-! ### the mathematics: built texts and their tokens -/
def GAPS : List (List Nat) := [[], [32], [10], [32, 32, 10, 32]]
def al (a : Str) : Prop := a = "word" ∨ a = "name" ∨ a = "num"
/-- text, due tokens, the last token -/
inductive Built : List Nat → List Tk → Str → List Nat → Prop
  | nil : Built [] [] "" []
  | snoc {t : List Nat} {d : List Tk} {la : Str} {lf : List Nat} (gap : List Nat) (a : Str) (f : List Nat) : Built t d la lf → TokOk a f → gap ∈ GAPS →
      (gap = [] → ¬ (la = "sign" ∧ a = "sign") ∧ ¬ (al la ∧ al a)) → Built (t ++ gap ++ f) (d ++ [(a, f, (t ++ gap).length)]) a f
theorem TokOk.sort {a : Str} {f : List Nat} (h : TokOk a f) : a = "sign" ∨ al a := by
  cases h
  · exact .inr (.inr (.inr rfl))
  · exact .inr (.inl rfl)
  · exact .inl rfl
  · exact .inr (.inr (.inl rfl))
theorem nsign {a : Str} (h : al a) : a ≠ "sign" := by
  rcases h with rfl | rfl | rfl <;> decide +kernel
theorem nempty {a : Str} {f : List Nat} (h : TokOk a f) : a ≠ "" := by
  cases h <;> decide +kernel
/-- a sign that may stand behind a token of a sort -/
def Head (a : Str) (lf : List Nat) : List Nat → Prop
  | [] => True
  | c :: _ => (a = "sign" → ∀ b, lf = [b] → [b, c] ∉ LONGl) ∧ (al a → c ∉ NAMES)
theorem tw_all {p : Nat → Bool} : ∀ {f rest : List Nat}, (∀ x ∈ f, p x = true) → (∀ c r, rest = c :: r → p c = false) → (f ++ rest).takeWhile p = f
  | [], [], _, _ => rfl
  | [], c :: r, _, h => by
    rw [List.nil_append, List.takeWhile_cons, h c r rfl]
    rfl
  | x :: f, rest, h1, h2 => by
    rw [List.cons_append, List.takeWhile_cons, if_pos (h1 x (by simp)), tw_all (fun y hy => h1 y (by simp [hy])) h2]
theorem fig_names {c : Nat} (h : c ∈ FIG) : c ∈ NAMES := List.mem_append_left _ (List.mem_append_right _ h)
theorem let_names {c : Nat} (h : c ∈ LET) : c ∈ NAMES := List.mem_append_left _ (List.mem_append_left _ h)
theorem let_nfig : ∀ c ∈ LET, c ∉ FIG := by decide
theorem lw_words : ∀ x ∈ LW, codes x ∈ WORDSl ∧ codes x ≠ [] ∧ (∀ c ∈ codes x, c ∈ LET) := by decide +kernel
theorem words_n95 : ∀ x ∈ WORDSl, 95 ∉ x := by decide +kernel
theorem ls_one : ∀ x ∈ LS, (codes x ∈ LONGl ∧ (codes x).length = 2 ∧ ∀ c ∈ codes x, c ∉ FIG ∧ c ∉ LET) ∨ ∃ b, codes x = [b] ∧ b ∉ FIG ∧ b ∉ LET ∧ b ∈ SGN := by
  intro x hx
  have h : ∀ x ∈ LS, (codes x ∈ LONGl ∧ (codes x).length = 2 ∧ ∀ c ∈ codes x, c ∉ FIG ∧ c ∉ LET) ∨ ((codes x).length = 1 ∧ ∀ b ∈ codes x, b ∉ FIG ∧ b ∉ LET ∧ b ∈ SGN) := by decide +kernel
  rcases h x hx with h | ⟨h1, h2⟩
  · exact .inl h
  · obtain ⟨b, e⟩ := List.length_eq_one_iff.mp h1
    exact .inr ⟨b, e, h2 b (by rw [e]; simp)⟩
theorem long_two : ∀ p ∈ LONGl, p.length = 2 := by decide +kernel
theorem step_tok {a : Str} {f rest : List Nat} (h : TokOk a f) (hh : Head a f rest) : step (f ++ rest) = some (a, f) := by
  cases h with
  | num f h1 h2 h3 =>
    have nf : ∀ c r, rest = c :: r → isF c = false := fun c r e => by
      subst e
      exact decide_eq_false fun z => hh.2 (.inr (.inr rfl)) (fig_names z)
    have e := tw_all (p := isF) (f := f) (rest := rest) (fun x hx => decide_eq_true (h2 x hx)) nf
    cases f with
    | nil => exact absurd rfl h1
    | cons c r =>
      rw [List.cons_append] at e ⊢
      unfold step
      dsimp only
      rw [if_pos (h2 c (by simp)), e, if_neg (by omega)]
  | word x hx =>
    obtain ⟨w1, w2, w3⟩ := lw_words x hx
    have nf : ∀ c r, rest = c :: r → isN c = false := fun c r e => by
      subst e
      exact decide_eq_false fun z => hh.2 (.inl rfl) z
    have e := tw_all (p := isN) (f := codes x) (rest := rest) (fun y hy => decide_eq_true (let_names (w3 y hy))) nf
    cases hc : codes x with
    | nil => exact absurd hc w2
    | cons c r =>
      rw [hc] at e w1 w3
      rw [List.cons_append] at e ⊢
      unfold step
      dsimp only
      have hL : c ∈ LET := w3 c (by simp)
      rw [if_neg (let_nfig c hL), if_pos hL, e, if_pos w1]
  | name c m hc hm hl =>
    have nf : ∀ c r, rest = c :: r → isN c = false := fun c r e => by
      subst e
      exact decide_eq_false fun z => hh.2 (.inr (.inl rfl)) z
    have e := tw_all (p := isN) (f := c :: m ++ [95]) (rest := rest) (fun y hy => decide_eq_true (by
      rcases List.mem_append.mp hy with hy | hy
      · rcases List.mem_cons.mp hy with rfl | hy
        · exact let_names hc
        · exact hm y hy
      · rw [List.mem_singleton.mp hy]
        decide)) nf
    have nw : c :: m ++ [95] ∉ WORDSl := fun z => words_n95 _ z (by simp)
    show step (c :: (m ++ [95] ++ rest)) = _
    have e' : (c :: (m ++ [95] ++ rest)).takeWhile isN = c :: m ++ [95] := e
    unfold step
    dsimp only
    rw [if_neg (let_nfig c hc), if_pos hc, e', if_neg nw]
  | sign x hx =>
    rcases ls_one x hx with ⟨w1, w2, w3⟩ | ⟨b, eb, b1, b2, b3⟩
    · match hc : codes x, w2 with
      | [p, q], _ =>
        rw [hc] at w1 w3
        show step (p :: q :: rest) = _
        unfold step
        dsimp only
        have := w3 p (by simp)
        rw [if_neg this.1, if_neg this.2, show (p :: q :: rest).take 2 = [p, q] from rfl, if_pos w1]
    · rw [eb] at hh ⊢
      have nl : (b :: rest).take 2 ∉ LONGl := by
        cases rest with
        | nil =>
          intro z
          have := long_two _ z
          simp at this
        | cons c r => exact hh.1 rfl b rfl
      show step (b :: rest) = _
      unfold step
      dsimp only
      rw [if_neg b1, if_neg b2, if_neg nl, if_pos b3]
theorem put_blank (f : List Nat) (n : Nat) (r : Except Nat (List Tk)) : put "" f n r = r := by
  cases r <;> rfl
theorem lex_tok {n : Nat} {a : Str} {f rest : List Nat} {r : Except Nat (List Tk)} (hs : step (f ++ rest) = some (a, f)) (h : Lex (n + f.length) rest r) : Lex n (f ++ rest) (put a f n r) := by
  have hf := (step_len hs).1
  cases f with
  | nil => exact absurd hf (by decide)
  | cons c g =>
    refine Lex.go n c (g ++ rest) a (c :: g) r hs ?_
    have : (c :: (g ++ rest)).drop (c :: g).length = rest := by
      rw [show c :: (g ++ rest) = (c :: g) ++ rest from rfl, List.drop_left]
    rw [this]
    exact h
theorem step_blank : ∀ (c : Nat) (r : List Nat), c ∈ [32, 10] → step (c :: r) = (some ("", [c]) : Option (Str × List Nat)) := by
  intro c r h
  simp only [List.mem_cons, List.not_mem_nil, or_false] at h
  have nl : ∀ b : Nat, b = 32 ∨ b = 10 → (b :: r).take 2 ∉ LONGl := by
    intro b hb z
    have h2 : ∀ p ∈ LONGl, p.headD 0 ≠ 32 ∧ p.headD 0 ≠ 10 := by decide +kernel
    have := h2 _ z
    cases r <;> (rcases hb with rfl | rfl <;> simp at this)
  rcases h with rfl | rfl
  · unfold step
    dsimp only
    rw [if_neg (by decide), if_neg (by decide), if_neg (nl 32 (.inl rfl)), if_neg (by decide +kernel), if_pos (by decide)]
  · unfold step
    dsimp only
    rw [if_neg (by decide), if_neg (by decide), if_neg (nl 10 (.inr rfl)), if_neg (by decide +kernel), if_pos (by decide)]
theorem lex_blanks : ∀ (g : List Nat) {n : Nat} {rest : List Nat} {r : Except Nat (List Tk)}, (∀ c ∈ g, c ∈ [32, 10]) → Lex (n + g.length) rest r → Lex n (g ++ rest) r
  | [], n, rest, r, _, h => h
  | c :: g, n, rest, r, hg, h => by
    have ih := lex_blanks g (n := n + 1) (rest := rest) (r := r) (fun x hx => hg x (by simp [hx])) (by
      rw [List.length_cons, show n + (g.length + 1) = n + 1 + g.length by omega] at h
      exact h)
    have := lex_tok (n := n) (a := "") (f := [c]) (rest := g ++ rest) (r := r) (step_blank c _ (hg c (by simp))) ih
    rw [put_blank] at this
    exact this
theorem gap_blank : ∀ g ∈ GAPS, ∀ c ∈ g, c ∈ [32, 10] := by decide
theorem head_blank {a : Str} {lf : List Nat} {c : Nat} {r : List Nat} (h : c ∈ [32, 10]) : Head a lf (c :: r) := by
  refine ⟨fun _ b _ z => ?_, fun _ z => ?_⟩
  · have h2 : ∀ p ∈ LONGl, p.getD 1 0 ∉ [32, 10] := by decide +kernel
    exact h2 _ z h
  · have h2 : ∀ p ∈ NAMES, p ∉ [32, 10] := by decide
    exact h2 _ z h
/-- the head of a token -/
theorem tok_head {a : Str} {f : List Nat} (h : TokOk a f) : ∃ c g, f = c :: g ∧ (al a → c ∈ NAMES) ∧ (a = "sign" → c ∉ NAMES) := by
  cases h with
  | num f h1 h2 h3 =>
    cases f with
    | nil => exact absurd rfl h1
    | cons c g => exact ⟨c, g, rfl, fun _ => fig_names (h2 c (by simp)), fun z => absurd z (by decide +kernel)⟩
  | word x hx =>
    obtain ⟨w1, w2, w3⟩ := lw_words x hx
    cases hc : codes x with
    | nil => exact absurd hc w2
    | cons c g => exact ⟨c, g, rfl, fun _ => let_names (w3 c (by rw [hc]; simp)), fun z => absurd z (by decide +kernel)⟩
  | name c m hc hm hl => exact ⟨c, m ++ [95], rfl, fun _ => let_names hc, fun z => absurd z (by decide +kernel)⟩
  | sign x hx =>
    have h2 : ∀ x ∈ LS, codes x ≠ [] ∧ (codes x).headD 0 ∉ NAMES := by decide +kernel
    obtain ⟨n1, n2⟩ := h2 x hx
    cases hc : codes x with
    | nil => exact absurd hc n1
    | cons c g =>
      rw [hc] at n2
      exact ⟨c, g, rfl, fun z => absurd rfl (nsign z), fun _ => n2⟩
/-- what stands right behind the last token -/
def Fits (la : Str) (lf rest : List Nat) : Prop := la = "" ∨ Head la lf rest
theorem fits_next {la : Str} {lf gap f rest : List Nat} {a : Str} (hla : la = "" ∨ TokOk la lf) (h : TokOk a f) (hg : gap ∈ GAPS) (hc : gap = [] → ¬ (la = "sign" ∧ a = "sign") ∧ ¬ (al la ∧ al a)) : Fits la lf (gap ++ (f ++ rest)) := by
  rcases hla with e | hT
  · exact .inl e
  right
  cases gap with
  | cons c g => exact head_blank (gap_blank _ hg c (by simp))
  | nil =>
    obtain ⟨n1, n2⟩ := hc rfl
    obtain ⟨c, g, rfl, h1, h2⟩ := tok_head h
    show Head la lf (c :: (g ++ rest))
    refine ⟨fun e b eb z => ?_, fun e z => ?_⟩
    · have ha : al a := (h.sort).resolve_left fun z2 => n1 ⟨e, z2⟩
      have h3 : ∀ p ∈ LONGl, p.getD 1 0 ∉ NAMES := by decide +kernel
      exact h3 _ z (h1 ha)
    · have ha : a = "sign" := (h.sort).resolve_right fun z2 => n2 ⟨e, z2⟩
      exact h2 ha z
theorem Built.last {t : List Nat} {d : List Tk} {la : Str} {lf : List Nat} (b : Built t d la lf) : la = "" ∨ TokOk la lf := by
  cases b with
  | nil => exact .inl rfl
  | snoc gap a f b h _ _ => exact .inr h
theorem behind_snoc (d : List Tk) (a : Str) (f : List Nat) (n : Nat) (r : Except Nat (List Tk)) (h : a ≠ "") : behind d (put a f n r) = behind (d ++ [(a, f, n)]) r := by
  rw [behind_put, if_neg h]
theorem Built.lex {t : List Nat} {d : List Tk} {la : Str} {lf : List Nat} (b : Built t d la lf) : ∀ {rest : List Nat} {r : Except Nat (List Tk)}, Fits la lf rest → Lex t.length rest r → Lex 0 (t ++ rest) (behind d r) := by
  induction b with
  | nil =>
    intro rest r _ h
    have : behind [] r = r := by cases r <;> rfl
    rw [this]
    exact h
  | snoc gap a f b h hg hc ih =>
    rename_i t d la lf
    intro rest r hf hr
    have hh : Head a f rest := hf.resolve_left (nempty h)
    rw [← behind_snoc _ _ _ _ _ (nempty h), List.append_assoc, List.append_assoc]
    refine ih (fits_next b.last h hg hc) ?_
    refine lex_blanks gap (gap_blank gap hg) ?_
    rw [List.length_append]
    refine lex_tok (step_tok h hh) ?_
    rw [List.length_append, List.length_append] at hr
    exact hr
theorem Built.all {t : List Nat} {d : List Tk} {la : Str} {lf : List Nat} (b : Built t d la lf) : Lex 0 t (.ok d) ∧ Lex 0 (t ++ [32, 10]) (.ok d) := by
  have h1 := b.lex (rest := []) (r := .ok []) (.inr trivial) (.nil _)
  have h2 := b.lex (rest := [32, 10]) (r := .ok []) (.inr (head_blank (by simp))) (by
    have := lex_blanks [32, 10] (n := t.length) (rest := []) (r := .ok []) (by simp) (.nil _)
    exact this)
  have e : behind d (.ok []) = .ok d := by
    show Except.ok (d ++ []) = _
    rw [List.append_nil]
  rw [e] at h1 h2
  rw [List.append_nil] at h1
  exact ⟨h1, h2⟩
/-- a wrong sign behind a built text and a gap -/
theorem Built.wrong {t : List Nat} {d : List Tk} {la : Str} {lf : List Nat} (b : Built t d la lf) {gap : List Nat} (hg : gap ∈ GAPS) {w : Nat} {rest : List Nat} (hw : step (w :: rest) = none) (hh : gap = [] → Fits la lf (w :: rest)) :
    Lex 0 (t ++ gap ++ (w :: rest)) (.error (t ++ gap).length) := by
  have h : Lex t.length (gap ++ (w :: rest)) (.error (t ++ gap).length) := by
    refine lex_blanks gap (gap_blank gap hg) ?_
    rw [List.length_append]
    exact .bad _ _ _ hw
  have := b.lex (rest := gap ++ (w :: rest)) (r := .error (t ++ gap).length) ?_ h
  · rw [List.append_assoc]
    exact this
  · cases gap with
    | nil => exact hh rfl
    | cons c g => exact .inr (head_blank (gap_blank _ hg c (by simp)))
/-- the place of a due token -/
theorem Built.place {t : List Nat} {d : List Tk} {la : Str} {lf : List Nat} (b : Built t d la lf) : ∀ {j : Nat} {x : Tk}, d[j]? = some x →
    ∃ t1 d1 la1 lf1 gap, Built t1 d1 la1 lf1 ∧ gap ∈ GAPS ∧ t.take x.2.2 = t1 ++ gap ∧ x.2.2 = (t1 ++ gap).length ∧ x.2.2 ≤ t.length := by
  induction b with
  | nil =>
    intro j x h
    simp at h
  | snoc gap a f b h hg hc ih =>
    rename_i t d la lf
    intro j x hx
    by_cases hj : j < d.length
    · rw [List.getElem?_append_left hj] at hx
      obtain ⟨t1, d1, la1, lf1, gap1, b1, hg1, e1, e2, e3⟩ := ih hx
      refine ⟨t1, d1, la1, lf1, gap1, b1, hg1, ?_, e2, ?_⟩
      · rw [List.append_assoc, List.take_append_of_le_length e3]
        exact e1
      · rw [List.length_append, List.length_append]
        omega
    · rw [List.getElem?_append_right (by omega)] at hx
      have e : x = (a, f, (t ++ gap).length) := by
        cases hk : j - d.length with
        | zero => rw [hk] at hx; exact (Option.some.inj hx).symm
        | succ k => rw [hk] at hx; simp at hx
      subst e
      refine ⟨t, d, la, lf, gap, b, hg, ?_, rfl, ?_⟩
      · exact List.take_left
      · show (t ++ gap).length ≤ ((t ++ gap) ++ f).length
        rw [List.length_append (as := t ++ gap) (bs := f)]
        exact Nat.le_add_right _ _
theorem Built.len {t : List Nat} {d : List Tk} {la : Str} {lf : List Nat} (b : Built t d la lf) : t.length ≤ 30 * d.length := by
  induction b with
  | nil => exact Nat.zero_le _
  | snoc gap a f b h hg hc ih =>
    have h1 : ∀ g ∈ GAPS, g.length ≤ 4 := by decide
    have h2 : f.length ≤ 18 := by
      cases h with
      | num f _ _ h3 => exact h3
      | word x hx => exact (show ∀ x ∈ LW, (codes x).length ≤ 18 by decide +kernel) x hx
      | sign x hx => exact (show ∀ x ∈ LS, (codes x).length ≤ 18 by decide +kernel) x hx
      | name c m _ _ hl =>
        rw [List.length_append, List.length_cons, List.length_singleton]
        omega
    have := h1 gap hg
    simp only [List.length_append, List.length_singleton]
    omega
/-- tokens by computing -/
def lexF : Nat → Nat → List Nat → Option (Except Nat (List Tk))
  | 0, _, _ => none
  | k + 1, n, [] => some (.ok [])
  | k + 1, n, c :: s => match step (c :: s) with
    | none => some (.error n)
    | some (a, f) => (lexF k (n + f.length) ((c :: s).drop f.length)).map (put a f n)
theorem lexF_ok : ∀ {k n : Nat} {s : List Nat} {r : Except Nat (List Tk)}, lexF k n s = some r → Lex n s r
  | 0, _, _, _, h => by cases h
  | k + 1, n, [], r, h => by
    cases h
    exact .nil n
  | k + 1, n, c :: s, r, h => by
    unfold lexF at h
    cases hs : step (c :: s) with
    | none =>
      rw [hs] at h
      cases h
      exact .bad n c s hs
    | some p =>
      obtain ⟨a, f⟩ := p
      rw [hs] at h
      dsimp only at h
      cases hr : lexF k (n + f.length) ((c :: s).drop f.length) with
      | none => rw [hr] at h; cases h
      | some r2 =>
        rw [hr] at h
        cases h
        exact .go n c s a f r2 hs (lexF_ok hr)
end K1
set_option Elab.async false
set_option linter.all false
set_option maxRecDepth 100000
set_option maxHeartbeats 4000000
namespace K1
open PySem PySem.Spec PyProof.Rows L2
section
variable {X : Cx}
/-- a short text, some times -/
theorem op_mulS : OpR X (binaryOp .Mult) (fun x y H Q => ∃ (z : Str) (n : Int), x = .str z ∧ y = .int n ∧ 2 ≤ n ∧ n ≤ 1000 ∧ 0 < z.length ∧ z.length ≤ 1000 ∧
    ((⟨(List.replicate n.toNat z.cps).foldl (· ++ ·) #[]⟩ : Str)).length ≤ sizeLine ∧ Q (.str ⟨(List.replicate n.toNat z.cps).foldl (· ++ ·) #[]⟩) H) := by
  intro pins s σ H x y v u Q I rx ry h
  obtain ⟨z, n, rfl, rfl, n1, n2, z1, z2, hz, q⟩ := h
  obtain ⟨t, rfl⟩ := rx
  obtain ⟨t', rfl⟩ := ry
  have a1 : ¬ n < 1 := by omega
  have a2 : (n == 1 || z.length == 0) = false := by
    rw [Bool.or_eq_false_iff]
    exact ⟨by simp; omega, by simp; omega⟩
  have n3 : n.toNat ≤ 1000 := by omega
  have prod : z.length * n.toNat ≤ 1000000 := Nat.le_trans (Nat.mul_le_mul z2 n3) (by decide)
  refine PySem.P.mul_str ?_ (fun _ _ => ?_) (fun _ _ => ?_) ?_
  · rw [Bool.or_eq_false_iff]
    exact ⟨decide_eq_false (by omega), decide_eq_false (by omega)⟩
  · have : (1000 : Int) ≤ (2 ^ 63 - 1) / n := by
      rw [Int.le_ediv_iff_mul_le (by omega)]
      omega
    omega
  · have := line6 prod
    exact decide_eq_false (by omega)
  · rw [if_neg a1, a2, if_neg Bool.false_ne_true]
    exact ⟨hz, .str _, H, I.tok _, ⟨_, rfl⟩, q⟩
/-- what isinstance asks of the class at C, of which one is held, over the class at D -/
structure IsaT (K : PySem.W.Frag) (C D : Addr) : Prop where
  hcl : (PySem.W.clsIn K C).isSome = true
  ha : PySem.W.findIn K (.ref C) "__class__" = some (some (.builtin "object.__class__"))
  hn : PySem.W.specialIn K (.builtin "object.__class__") "__get__" = some (some (.builtin "getset_descriptor.__get__"))
  ht : PySem.W.takesIn K (.builtin "object.__class__") = some true
  hm : PySem.W.mroIn K C (.type "object") = some true
  kit : PySem.W.kitOne K (.ref C) (.ref D) = some true
variable {C D fI cc cda : Addr}
/-- isinstance(error, D), error the one that the suite holds, of the class at C -/
theorem call_isaT {a : Addr} {oe : Obj} {cls : Value} {d : Option Addr} {pn : List (Addr × Obj)} (T : TX.TxtErr X.prog X.K X.mg C D fI cc cda) (Z : IsaT X.K C D) (hz : Zc cls d oe) (hf : ∃ vs, oe.data = .fields vs) :
    CallR (X.suite a ((a, oe) :: pn)) (.builtin "isinstance") (fun xs H Q => xs = [.ref a, .ref D] ∧ cls = .ref C ∧ ∃ (dd : Addr) (v : V), d = some dd ∧ H dd = some (.xd [(("place" : Str), v)]) ∧ Q (.bl true) H) := by
  intro pins s σ H xs us Q I r h
  obtain ⟨rfl, ec, dd, v, ed, ea, q⟩ := h
  subst ec
  subst ed
  obtain ⟨u1, u2, rfl, r1, r2⟩ := vals2 r
  cases r1
  cases r2
  obtain ⟨ha, _⟩ := I.pin (a, oe) (List.mem_append_left _ List.mem_cons_self)
  obtain ⟨vs, hd⟩ := hf
  have hx : ObjOk X.prog X.w H s.heap dd (.xd [(("place" : Str), v)]) := I.hok dd _ ea
  obtain ⟨mA, hns, hr⟩ := hx
  obtain ⟨od, ho, hl⟩ := lookIn_ns hns
  have J : PySem.W.InstAt s.heap a oe C (some od) := ⟨ha, hz.1, by unfold PySem.W.notCls; rw [hd] <;> rfl, by rw [hz.2]; exact ho⟩
  exact PySem.W.kia_one (PySem.W.kitx_exc Z.hcl T.ga T.gg T.exC Z.ha Z.hn Z.ht Z.hm) I.kIn J Z.kit (fun z => nomatch z) fun tk => ⟨.bl true, H, I.kept (t' := tk) fun _ _ z => z, rfl, q⟩
/-- deep comparisons, the written part named from outside -/
theorem op_neDK {K : PySem.W.Frag} (hK : X.K = K) (hu : X.A.units + 64 < cLine) : OpR X (compareOp .NotEq) (rNeD K) := by
  subst hK
  exact op_neD hu
theorem op_eqDK {K : PySem.W.Frag} (hK : X.K = K) (hu : X.A.units + 64 < cLine) : OpR X (compareOp .Eq) (rEqD K) := by
  subst hK
  exact op_eqD hu
end

/-! ### due tokens as data -/
def tkData (t : Tk) : PyData := .tuple [.str t.1, .str (S t.2.1), .int t.2.2]
def dataOf (ts : List Tk) : PyData := .list (ts.map tkData)
theorem Toks.dp {K : PySem.W.Frag} {H : Hp} : ∀ {refs : List Addr} {ts : List Tk}, Toks H refs ts → DpAll K H (refs.map V.ref) (ts.map tkData)
  | _, _, .nil => .nil
  | _, _, .cons h t => .cons (.tup (SqT.of h) (.cons (.str _) (.cons (.str _) (.cons (.int _) .nil)))) (Toks.dp t)
theorem DueAt.dp {K : PySem.W.Frag} {H : Hp} {p : Addr} {ts : List Tk} (h : DueAt H p ts) : Dp K H (.ref p) (dataOf ts) := by
  obtain ⟨refs, e, t⟩ := h
  exact .lst (SqL.of e) t.dp
theorem strOk_S {l : List Nat} (h : ∀ c ∈ l, c < 1114112) : PyData.strOk (S l) = true := by
  unfold PyData.strOk
  rw [← Array.all_toList, S_cps]
  exact List.all_eq_true.mpr fun c hc => decide_eq_true (h c hc)
theorem tok_ok {a : Str} {f : List Nat} (h : TokOk a f) : PyData.strOk a = true ∧ PyData.strOk (S f) = true := by
  have hn : ∀ c ∈ NAMES, c < 1114112 := by decide
  cases h with
  | num f h1 h2 h3 => exact ⟨by decide +kernel, strOk_S fun c hc => hn c (fig_names (h2 c hc))⟩
  | word x hx => exact ⟨by decide +kernel, strOk_S fun c hc => hn c (let_names ((lw_words x hx).2.2 c hc))⟩
  | sign x hx => exact ⟨by decide +kernel, strOk_S fun c hc => (show ∀ x ∈ LS, ∀ c ∈ codes x, c < 1114112 by decide +kernel) x hx c hc⟩
  | name c m hc hm hl =>
    refine ⟨by decide +kernel, strOk_S fun y hy => hn y ?_⟩
    rcases List.mem_append.mp hy with hy | hy
    · rcases List.mem_cons.mp hy with rfl | hy
      · exact let_names hc
      · exact hm y hy
    · rw [List.mem_singleton.mp hy]
      decide
theorem Built.oks {t : List Nat} {d : List Tk} {la : Str} {lf : List Nat} (b : Built t d la lf) : ∀ x ∈ d, PyData.strOk x.1 = true ∧ PyData.strOk (S x.2.1) = true := by
  induction b with
  | nil => simp
  | snoc gap a f b h hg hc ih =>
    intro x hx
    rcases List.mem_append.mp hx with hx | hx
    · exact ih x hx
    · rw [List.mem_singleton.mp hx]
      exact tok_ok h
theorem lay_all : ∀ {d : List Tk}, (∀ x ∈ d, PyData.strOk x.1 = true ∧ PyData.strOk (S x.2.1) = true) → PyData.canLayAll0 (d.map tkData) = true ∧ PyData.depthAll (d.map tkData) ≤ 1
  | [], _ => ⟨rfl, Nat.zero_le _⟩
  | x :: r, h => by
    obtain ⟨i1, i2⟩ := lay_all (d := r) fun y hy => h y (by simp [hy])
    obtain ⟨h1, h2⟩ := h x (by simp)
    refine ⟨?_, ?_⟩
    · show (PyData.canLay0 (tkData x) && PyData.canLayAll0 (r.map tkData)) = true
      rw [i1, Bool.and_true]
      show (PyData.strOk x.1 && (PyData.strOk (S x.2.1) && (true && true))) = true
      rw [h1, h2]
      rfl
    · show max (PyData.depth (tkData x)) (PyData.depthAll (r.map tkData)) ≤ 1
      exact Nat.max_le.mpr ⟨Nat.le_refl _, i2⟩
theorem data_shaped {d : List Tk} (h : ∀ x ∈ d, PyData.strOk x.1 = true ∧ PyData.strOk (S x.2.1) = true) : SeqAt.shaped (dataOf d) = true ∧ PyData.eqv (dataOf d) (dataOf d) = true := by
  obtain ⟨i1, i2⟩ := lay_all h
  have hc : (dataOf d).canLay0 = true := i1
  refine ⟨?_, SeqAt.eqv_refl _ hc⟩
  unfold SeqAt.shaped
  rw [hc, Bool.true_and]
  refine decide_eq_true ?_
  show PyData.depthAll (d.map tkData) + 1 ≤ 64
  omega
/-! ### wrong signs -/
def W8 : List Nat := [36, 65, 95, 46, 33, 62, 9, 38]
theorem w8_step {wc : Nat} (h : wc ∈ W8) (rest : List Nat) : step (wc :: rest) = none := by
  have h1 : ∀ c ∈ W8, c ∉ FIG ∧ c ∉ LET ∧ c ∉ SGN ∧ c ∉ [32, 10] := by decide +kernel
  have h2 : ∀ p ∈ LONGl, p.headD 0 ∉ W8 := by decide +kernel
  obtain ⟨a1, a2, a3, a4⟩ := h1 wc h
  have nl : (wc :: rest).take 2 ∉ LONGl := fun z => by
    have := h2 _ z
    apply this
    cases rest <;> exact h
  unfold step
  dsimp only
  rw [if_neg a1, if_neg a2, if_neg nl, if_neg a3, if_neg a4]
theorem wrong_fits {t : List Nat} {d : List Tk} {la : Str} {lf : List Nat} (b : Built t d la lf) {wc : Nat} (hw : wc ∈ W8) (h : ∀ p, t.getLast? = some p → (wc = 62 → p ∉ [61, 45]) ∧ (wc = 95 → p ∉ NAMES)) (rest : List Nat) : Fits la lf (wc :: rest) := by
  cases b with
  | nil => exact .inl rfl
  | snoc gap a f b hT hg hc =>
    right
    have hlast : ∀ p, lf.getLast? = some p → (wc = 62 → p ∉ [61, 45]) ∧ (wc = 95 → p ∉ NAMES) := fun p hp => h p (by
      rw [List.getLast?_append, hp]
      rfl)
    refine ⟨fun e x ex z => ?_, fun e z => ?_⟩
    · subst ex
      have h3 : ∀ p ∈ LONGl, p.getD 1 0 ∈ W8 → p.getD 1 0 = 62 ∧ p.headD 0 ∈ [61, 45] := by decide +kernel
      obtain ⟨e1, e2⟩ := h3 _ z hw
      exact (hlast x rfl).1 e1 e2
    · have h3 : ∀ c ∈ W8, c ∈ NAMES → c = 95 := by decide
      have e1 := h3 wc hw z
      have lastN : ∀ p, lf.getLast? = some p → p ∈ NAMES := fun p hp => by
        have hm : p ∈ lf := List.mem_of_getLast? hp
        cases hT with
        | num f h1 h2 h3 => exact fig_names (h2 p hm)
        | word x hx => exact let_names ((lw_words x hx).2.2 p hm)
        | sign x hx => exact absurd rfl (nsign e)
        | name c m hc hm2 hl =>
          rcases List.mem_append.mp hm with hy | hy
          · rcases List.mem_cons.mp hy with rfl | hy
            · exact let_names hc
            · exact hm2 p hy
          · rw [List.mem_singleton.mp hy]
            decide
      obtain ⟨c, g, ef, _⟩ := tok_head hT
      cases hl : lf.getLast? with
      | none =>
        rw [List.getLast?_eq_none_iff] at hl
        rw [hl] at ef
        cases ef
      | some p => exact (hlast p hl).2 e1 (lastN p hl)
theorem same_new {H : Hp} {p : Addr} {o : HO} (h : H p = none) : Same H (upd H p o) := fun b x e => by
  rw [upd_ne (ne_of_none e h)]
  exact e
theorem DueAt.mono {H H' : Hp} {p : Addr} {ts : List Tk} (h : DueAt H p ts) (s : Same H H') : DueAt H' p ts := by
  obtain ⟨refs, e, t⟩ := h
  exact ⟨refs, s _ _ e, t.mono fun a xs e => s a _ e⟩
theorem StOk.same {st c : Addr} {H H' : Hp} (h : StOk st c H) (s : Same H H') : StOk st c H' := by
  obtain ⟨cells, m, h1, h2, r⟩ := h
  exact ⟨cells, m, s _ _ h1, s _ _ h2, r⟩
/-! ### nines, and two written texts -/
theorem nines_text (k : Nat) (h : k = 17 ∨ k = 18 ∨ k = 19 ∨ k = 20) : (⟨(List.replicate k (Str.ofString "9").cps).foldl (· ++ ·) #[]⟩ : Str) = S (List.replicate k 57) := by
  rcases h with rfl | rfl | rfl | rfl <;> decide +kernel
instance exDec : DecidableEq (Except Nat (List Tk)) := fun a b => match a, b with
  | .ok x, .ok y => if h : x = y then isTrue (congrArg _ h) else isFalse fun e => h (Except.ok.inj e)
  | .error x, .error y => if h : x = y then isTrue (congrArg _ h) else isFalse fun e => h (Except.error.inj e)
  | .ok _, .error _ => isFalse fun e => nomatch e
  | .error _, .ok _ => isFalse fun e => nomatch e
theorem nines_ok (k : Nat) (h : k = 17 ∨ k = 18) : Lex 0 ([97, 32] ++ List.replicate k 57) (.ok [("name", [97], 0), ("num", List.replicate k 57, 2)]) := by
  rcases h with rfl | rfl
  · exact lexF_ok (k := 30) (by decide +kernel)
  · exact lexF_ok (k := 30) (by decide +kernel)
theorem nines_bad (k : Nat) (h : k = 19 ∨ k = 20) : Lex 0 ([97, 32] ++ List.replicate k 57) (.error 2) := by
  rcases h with rfl | rfl
  · exact lexF_ok (k := 30) (by decide +kernel)
  · exact lexF_ok (k := 30) (by decide +kernel)
def lastD : List Tk := [("name", codes "x1", 0), ("sign", codes ":=", 3), ("sign", codes "<=", 5), ("name", codes "fnx", 7), ("sign", codes "//", 10), ("num", codes "7", 12)]
theorem last_lex : Lex 0 (codes "x1 :=<=fnx//7") (.ok lastD) := lexF_ok (k := 30) (by decide +kernel)
theorem last_ok : ∀ x ∈ lastD, PyData.strOk x.1 = true ∧ PyData.strOk (S x.2.1) = true := by decide +kernel
theorem tup_dp {K : PySem.W.Frag} {H : Hp} {p : Addr} {a : Str} {z : Str} {n : Int} {t : Tk} (h : H p = some (.tup [.str a, .str z, .int n])) (h1 : a = t.1) (h2 : z = S t.2.1) (h3 : n = (t.2.2 : Int)) : Dp K H (.ref p) (tkData t) := by
  subst h1 h2 h3
  exact .tup (SqT.of h) (.cons (.str _) (.cons (.str _) (.cons (.int _) .nil)))
theorem S_codes (x : String) : S (codes x) = Str.ofString x := S_self _
theorem last_get {t : List Nat} {n : Nat} (h0 : 0 < n) (h1 : n ≤ t.length) : ∃ ch, t[n - 1]? = some ch ∧ (t.take n).getLast? = some ch := by
  have hlt : n - 1 < t.length := by omega
  refine ⟨t[n - 1], List.getElem?_eq_getElem hlt, ?_⟩
  rw [List.getLast?_eq_getElem?, List.length_take, Nat.min_eq_left h1, List.getElem?_take, if_pos (by omega)]
  exact List.getElem?_eq_getElem hlt
end K1
set_option Elab.async false
set_option linter.all false
set_option maxRecDepth 100000
set_option maxHeartbeats 8000000
set_option pp.maxSteps 400
namespace K1
open PySem PySem.Spec PyProof.Rows L2
open C8 (pss_cut tCut)
section
variable {P : Program} {w : World} {K : PySem.W.Frag} {mg : Str → Option Value} {base : Heap}
def spLaw (K : PySem.W.Frag) : Sp := fun vs H Q _ => ∃ (a : Addr) (ns : List Int), vs = [.ref a] ∧ SqL K H a (ns.map V.int) ∧ ns.length ≤ 63 ∧ ∀ H', Q (.bl true) H'
theorem ok_law {f fR fT fD fS fO C D fI cc cda aW aL : Addr} {fd fdR fdT fdD fdS fdO : FuncData} (F : Fun K "law" "law" sLaw f fd) (T : Tops K mg aW aL) (TE : TX.TxtErr P K mg C D fI cc cda) (ZI : IsaT K C D)
    (F_run_of : Fun K "run_of" "run_of" sRun fR fdR) (b_run_of : Binds K fdR ["text", "at", "allowed"] []) (g_run_of : mg "run_of" = some (.ref fR))
    (F_tok : Fun K "tokens_of" "tokens_of" sTok fT fdT) (b_tok : Binds K fdT ["text"] []) (g_tok : mg "tokens_of" = some (.ref fT))
    (F_draw : Fun K "_law_draw" "_law_draw" sDraw fD fdD) (b_draw : Binds K fdD ["state", "many"] []) (g_draw : mg "_law_draw" = some (.ref fD))
    (F_state : Fun K "_law_state" "_law_state" sState fS fdS) (b_state : Binds K fdS ["script"] []) (g_state : mg "_law_state" = some (.ref fS))
    (F_some : Fun K "_law_some" "_law_some" sSome fO fdO) (b_some : Binds K fdO ["state"] []) (g_some : mg "_law_some" = some (.ref fO))
    (g_StageError : mg "StageError" = some (.ref D)) (m_int : mg "int" = none) (m_abs : mg "abs" = none) (m_range : mg "range" = none) (m_isinstance : mg "isinstance" = none) :
    FnOk P w K mg base CX0 3 f fd ["script"] (spLaw K) := by
  have m_len := T.ml
  have m_str := TE.noStr
  have G_tok : FnOk P w K mg base (L2.CX P w) 2 fT fdT ["text"] (spTok C) := ok_tok F_tok T TE F_run_of b_run_of g_run_of
  have G_draw : FnOk P w K mg base CX0 1 fD fdD ["state", "many"] spDraw := ok_draw F_draw m_len m_int
  have G_state : FnOk P w K mg base CX0 1 fS fdS ["script"] (spState K) := ok_state F_state m_int m_abs
  have G_some : FnOk P w K mg base CX0 2 fO fdO ["state"] spSome := ok_some F_some m_len m_int m_str m_range F_draw b_draw g_draw
  refine F.ok scLaw (fun vs H Q E h => ?_) (fun cdv A outer s H vs Q E hr h => ?_)
  · obtain ⟨a, ns, rfl, _⟩ := h
    rfl
  · obtain ⟨a, ns, rfl, hS, hl, q⟩ := h
    refine ⟨_, (pss_cons (ps_set (i := 1) scLaw.nd rfl (.inl rfl) (pe_call G_state (hr.mono (by decide)) (by rfl) g_state F_state.kp b_state .nil pass0 (pa_cons (pv 0) pa_nil)))
  (pss_cons (ps_par (i := 2) (j := 3) (by rfl) scLaw.nd rfl rfl (by decide) rfl rfl (pa_cons pe_str (pa_cons (pe_lst pa_nil) pa_nil)) (by rfl))
  (pss_cons (ps_set (i := 4) scLaw.nd rfl (.inl rfl) (pe_lst (pa_cons pe_str (pa_cons pe_str pa_nil))))
  (pss_cons (ps_for PassesOwn.never rfl (pi_range1 (by rfl) m_range (pa_cons (pe_call G_draw (hr.mono (by decide)) (by rfl) g_draw F_draw.kp b_draw .nil pass0 (pa_cons (pv 1) (pa_cons pe_int pa_nil))) pa_nil)) (pg_name (i := 5) scLaw.nd rfl (.inl rfl))
    (pss_cons (ps_asg (pe_call G_some (hr.mono (by decide)) (by rfl) g_some F_some.kp b_some .nil pass0 (pa_cons (pv 1) pa_nil)) (pg_lst (by rfl) (pgs_cons (pg_name (i := 6) scLaw.nd rfl (.inl rfl)) (pgs_cons (pg_name (i := 7) scLaw.nd rfl (.inl rfl)) pgs_nil))))
    (pss_cons (ps_set (i := 8) scLaw.nd rfl (.inl rfl) (pe_ix ix_list (pe_lst (pa_cons pe_str (pa_cons pe_str (pa_cons pe_str (pa_cons pe_str pa_nil))))) (pe_call G_draw (hr.mono (by decide)) (by rfl) g_draw F_draw.kp b_draw .nil pass0 (pa_cons (pv 1) (pa_cons pe_int pa_nil))) (fun _ _ => rfl)))
    (pss_cut (ps_if (PW.pt (pw_or (PW.pt (pw_and (pt_cmpR op_eq (pe_ix ix_list (pv 4) pe_int (fun _ _ => rfl)) pe_str (nomark _)) (pw_and1 (pt_cmpR op_eq (pv 6) pe_str (nomark _))))) (pw_or1 (PW.pt (pw_and (pt_cmpR op_in_seq (pe_ix ix_list (pv 4) pe_int (fun _ _ => rfl)) (pe_lst (pa_cons pe_str (pa_cons pe_str (pa_cons pe_str pa_nil)))) rfl) (pw_and1 (pt_cmpR op_in_seq (pv 6) (pe_lst (pa_cons pe_str (pa_cons pe_str (pa_cons pe_str pa_nil)))) rfl)))))))
      (pss_one (ps_set (i := 8) scLaw.nd rfl (.inl rfl) (pe_ifExp (pt_cmpR op_ne (pv 8) pe_str (nomark _)) (pv 8) pe_str)))
      pss_nil)
    (pss_cons (ps_set (i := 2) scLaw.nd rfl (.inl rfl) (pe_op op_add_str (pv 2) (pv 8)))
    (pss_cons (ps_expr (pe_bm PySem.F.plainAttrs_list PySem.F.slot_list_append PySem.F.type_list_append mt_append (pv 3) (pa_cons (pe_tup (pa_cons (pv 6) (pa_cons (pv 7) (pa_cons (pe_callB call_len_str (by rfl) m_len PySem.boot_len (pa_cons (pv 2) pa_nil)) pa_nil)))) pa_nil)))
    (pss_cons (ps_set (i := 2) scLaw.nd rfl (.inl rfl) (pe_op op_add_str (pv 2) (pv 7)))
    (pss_one (ps_set (i := 4) scLaw.nd rfl (.inl rfl) (pe_lst (pa_cons (pv 6) (pa_cons (pv 7) pa_nil))))))))))))
  (pss_cons (ps_if (PW.pt (pw_or (pt_cmpR (op_neDK (K := K) rfl hr.units) (pe_call G_tok (hr.mono (by decide)) (by rfl) g_tok F_tok.kp b_tok .nil passL (pa_cons (pv 2) pa_nil)) (pv 3) (nomark _)) (pw_or1 (pt_cmpR (op_neDK (K := K) rfl hr.units) (pe_call G_tok (hr.mono (by decide)) (by rfl) g_tok F_tok.kp b_tok .nil passL (pa_cons (pe_op op_add_str (pv 2) pe_str) pa_nil)) (pv 3) (nomark _)))))
    (pss_one (ps_ret pe_bl))
    pss_nil)
  (pss_cut (ps_set (i := 9) scLaw.nd rfl (.inl rfl) (pe_ifExp (pt_cmpR op_gt (pe_callB call_len_seq (by rfl) m_len PySem.boot_len (pa_cons (pv 3) pa_nil)) pe_int (nomark _)) (pe_ix ix_tup (pe_ix ix_list (pv 3) (pe_call G_draw (hr.mono (by decide)) (by rfl) g_draw F_draw.kp b_draw .nil pass0 (pa_cons (pv 1) (pa_cons (pe_callB call_len_seq (by rfl) m_len PySem.boot_len (pa_cons (pv 3) pa_nil)) pa_nil))) (fun _ _ => rfl)) pe_int (fun _ _ => rfl)) (pe_callB call_len_str (by rfl) m_len PySem.boot_len (pa_cons (pv 2) pa_nil))))
  (pss_cons (ps_set (i := 10) scLaw.nd rfl (.inl rfl) (pe_ix ix_list (pe_lst (pa_cons pe_str (pa_cons pe_str (pa_cons pe_str (pa_cons pe_str (pa_cons pe_str (pa_cons pe_str (pa_cons pe_str (pa_cons pe_str pa_nil))))))))) (pe_call G_draw (hr.mono (by decide)) (by rfl) g_draw F_draw.kp b_draw .nil pass0 (pa_cons (pv 1) (pa_cons pe_int pa_nil))) (fun _ _ => rfl)))
  (pss_cut (ps_if (PW.pt (pw_and (pt_cmpR op_eq (pv 10) pe_str (nomark _)) (pw_and (pt_cmpR op_gt (pv 9) pe_int (nomark _)) (pw_and1 (pt_cmpR op_in_sign (pe_ix ix_str (pv 2) (pe_op op_sub (pv 9) pe_int) (fun _ _ => rfl)) pe_str rfl)))))
    (pss_one (ps_set (i := 10) scLaw.nd rfl (.inl rfl) pe_str))
    pss_nil)
  (pss_cut (ps_if (PW.pt (pw_and (pt_cmpR op_eq (pv 10) pe_str (nomark _)) (pw_and (pt_cmpR op_gt (pv 9) pe_int (nomark _)) (pw_and1 (pt_cmpR op_in_sign (pe_ix ix_str (pv 2) (pe_op op_sub (pv 9) pe_int) (fun _ _ => rfl)) pe_str rfl)))))
    (pss_one (ps_set (i := 10) scLaw.nd rfl (.inl rfl) pe_str))
    pss_nil)
  (pss_cut (ps_try_as (i := 11) (Wout := fun _ _ _ _ => False) rfl rfl scLaw.nd rfl rfl ⟨rfl, by decide, Or.inl TE.gC⟩ takes0
    (fun W pn xe tk _ => (pss_cons (ps_expr (pe_callS G_tok (hr.mono (by decide)) (by rfl) g_tok F_tok.kp b_tok (fun σ => passAt tk σ) (pa_cons (pe_op op_add_str (pe_op op_add_str (pe_slice sl_str (pv 2) po_none (po_some (pv 9))) (pv 10)) (pe_slice sl_str (pv 2) (po_some (pv 9)) po_none)) pa_nil)))
    (pss_one (ps_ret pe_bl))))
    (fun a oe cls d pn hz hf => (pss_one (ps_if (PW.pt (pw_or (pt_cmpR op_ne (pe_place TE hz hf (pv 11)) (pv 9) (nomark _)) (pw_or1 (pt_not (pt_val (pe_callB (call_isaT TE ZI hz hf) (by rfl) m_isinstance boot_isinstance (pa_cons (pv 11) (pa_cons (pe_glob (v := .ref D) rfl g_StageError rfl) pa_nil))))))))
      (pss_one (ps_ret pe_bl))
      pss_nil))))
  (pss_cons (ps_set (i := 12) scLaw.nd rfl (.inl rfl) (pe_op op_mulS pe_str (pe_op op_add pe_int (pe_call G_draw (hr.mono (by decide)) (by rfl) g_draw F_draw.kp b_draw .nil pass0 (pa_cons (pv 1) (pa_cons pe_int pa_nil))))))
  (pss_cut (ps_try_as (i := 11) (Wout := fun _ _ _ _ => False) rfl rfl scLaw.nd rfl rfl ⟨rfl, by decide, Or.inl TE.gC⟩ takes0
    (fun W pn xe tk _ => (pss_one (ps_if (PW.pt (pw_or (pt_cmpR (op_neDK (K := K) rfl hr.units) (pe_callS G_tok (hr.mono (by decide)) (by rfl) g_tok F_tok.kp b_tok (fun σ => passAt tk σ) (pa_cons (pe_op op_add_str pe_str (pv 12)) pa_nil)) (pe_lst (pa_cons (pe_tup (pa_cons pe_str (pa_cons pe_str (pa_cons pe_int pa_nil)))) (pa_cons (pe_tup (pa_cons pe_str (pa_cons (pv 12) (pa_cons pe_int pa_nil)))) pa_nil))) (nomark _)) (pw_or1 (pt_cmpR op_gt (pe_callB call_len_str (by rfl) m_len PySem.boot_len (pa_cons (pv 12) pa_nil)) pe_int (nomark _)))))
      (pss_one (ps_ret pe_bl))
      pss_nil)))
    (fun a oe cls d pn hz hf => (pss_one (ps_if (PW.pt (pw_or (pt_cmpR op_ne (pe_place TE hz hf (pv 11)) pe_int (nomark _)) (pw_or1 (pt_cmpR op_lt (pe_callB call_len_str (by rfl) m_len PySem.boot_len (pa_cons (pv 12) pa_nil)) pe_int (nomark _)))))
      (pss_one (ps_ret pe_bl))
      pss_nil))))
  (pss_one (ps_ret (pe_and (pe_cmpR (op_eqDK (K := K) rfl hr.units) (pe_call G_tok (hr.mono (by decide)) (by rfl) g_tok F_tok.kp b_tok .nil passL (pa_cons pe_str pa_nil)) (pe_lst (pa_cons (pe_tup (pa_cons pe_str (pa_cons pe_str (pa_cons pe_int pa_nil)))) (pa_cons (pe_tup (pa_cons pe_str (pa_cons pe_str (pa_cons pe_int pa_nil)))) (pa_cons (pe_tup (pa_cons pe_str (pa_cons pe_str (pa_cons pe_int pa_nil)))) (pa_cons (pe_tup (pa_cons pe_str (pa_cons pe_str (pa_cons pe_int pa_nil)))) (pa_cons (pe_tup (pa_cons pe_str (pa_cons pe_str (pa_cons pe_int pa_nil)))) (pa_cons (pe_tup (pa_cons pe_str (pa_cons pe_str (pa_cons pe_int pa_nil)))) pa_nil))))))) (nomark _)) (pe_one (pe_cmpR (op_eqDK (K := K) rfl hr.units) (pe_call G_tok (hr.mono (by decide)) (by rfl) g_tok F_tok.kp b_tok .nil passL (pa_cons pe_str pa_nil)) (pe_lst pa_nil) (nomark _)))))))))))))))))), ?_⟩
    -- state, text, due, last
    refine ⟨_, rfl, a, ns, rfl, hS, hl, fun st c H1 _ _ _ hS1 => ?_⟩
    refine ⟨Nat.zero_le _, fun dq ndq => ⟨_, _, rfl, ?_⟩⟩
    refine ⟨line6 (by simp), fun ls nls => ?_⟩
    have hS2 := (hS1.new (o := .lst []) ndq).new (o := .lst [.str "", .str ""]) nls
    have f1 := hS1.fresh ndq
    have n1 : dq ≠ ls := fun e => by
      rw [← e, upd_same] at nls
      cases nls
    refine ⟨_, rfl, st, c, 30, rfl, hS2, by decide, by decide, fun r H3 r0 r30 hS3 ap3 => ?_⟩
    refine ⟨r, rfl, by omega, by omega, for_range (lo := 0) (n := r.toNat) (fun i σ G => ∃ (t : List Nat) (d : List Tk) (la : Str) (lf : List Nat) (lp : Addr) (y5 y6 y7 y8 : Option V),
        σ = [some (.ref a), some (.ref st), some (.str (S t)), some (.ref dq), some (.ref lp), y5, y6, y7, y8, none, none, none, none] ∧ Built t d la lf ∧ d.length = i ∧ StOk st c G ∧ DueAt G dq d ∧ G lp = some (.lst [.str la, .str (S lf)]) ∧ (dq ≠ st ∧ dq ≠ c) ∧ dq ≠ lp)
      ⟨[], [], "", [], ls, none, none, none, none, rfl, .nil, rfl, hS3, ⟨[], ?_, .nil⟩, ?_, f1, n1⟩ (fun i σ G hi hP => ?_) (fun σ G hP => ?_)⟩
    · refine (ap3.keep) _ _ f1.1 f1.2 ?_
      rw [upd_ne n1]
      exact upd_same
    · have f2 := (hS1.new (o := .lst []) ndq).fresh nls
      exact (ap3.keep) _ _ f2.1 f2.2 upd_same
    · -- a turn
      obtain ⟨t, d, la, lf, lp, y5, y6, y7, y8, rfl, hb, hd, hSt, hdue, hlp, fq, nlp⟩ := hP
      have hdl : d.length ≤ 30 := by omega
      have htl := hb.len
      refine ⟨_, rfl, st, c, rfl, hSt, fun na f p G1 ok hSt1 kp1 _ ep => ?_⟩
      refine ⟨p, _, rfl, SqL.of ep, rfl, _, _, rfl, _, _, rfl, rfl, ?_⟩
      -- gap
      refine ⟨line6 (by simp), fun gp ngp => ?_⟩
      refine ⟨_, rfl, st, c, 4, rfl, hSt1.new ngp, by decide, by decide, fun r2 G2 q0 q4 hSt2 ap2 => ?_⟩
      have fg := hSt1.fresh ngp
      have hgp : G2 gp = some (.lst [.str "", .str " ", .str "\n", .str "  \n "]) := ap2.keep _ _ fg.1 fg.2 upd_same
      obtain ⟨x, hx, ex⟩ := atI_mem (xs := [V.str "", .str " ", .str "\n", .str "  \n "]) q0 (by simpa using q4)
      have hgap : ∃ g ∈ GAPS, x = .str (S g) := by
        simp only [List.mem_cons, List.not_mem_nil, or_false] at hx
        rcases hx with rfl | rfl | rfl | rfl
        · exact ⟨[], by decide, by decide +kernel⟩
        · exact ⟨[32], by decide, by decide +kernel⟩
        · exact ⟨[10], by decide, by decide +kernel⟩
        · exact ⟨[32, 32, 10, 32], by decide, by decide +kernel⟩
      obtain ⟨g, hg, rfl⟩ := hgap
      refine ⟨gp, _, r2, _, rfl, rfl, SqL.of hgp, ex, ?_⟩
      have kk : Keep st c G G2 := kp1.trans ((Keep.new ngp).trans ap2.keep)
      have flp : lp ≠ st ∧ lp ≠ c := by
        obtain ⟨cells, m, s1, s2, _⟩ := hSt
        refine ⟨ne_of hlp s1 fun e => ?_, ne_of hlp s2 fun e => ?_⟩
        · have := HO.lst.inj e
          cases this
        · have := HO.lst.inj e
          cases cells with
          | nil => cases this
          | cons z zs => cases this
      have hlp2 : G2 lp = some (.lst [.str la, .str (S lf)]) := kk _ _ flp.1 flp.2 hlp
      -- the gap that is needed
      refine ⟨fun σ' G' => Same G2 G' ∧ ∃ g' ∈ GAPS, (g' = [] → ¬ (la = "sign" ∧ na = "sign") ∧ ¬ (al la ∧ al na)) ∧
        σ' = [some (.ref a), some (.ref st), some (.str (S t)), some (.ref dq), some (.ref lp), some (.int (0 + (i : Int))), some (.str na), some (.str (S f)), some (.str (S g')), none, none, none, none], ?_, ?_⟩
      · have wset : ∀ z : Str, inV (.str z) [V.str "word", .str "name", .str "num"] = true ↔ al z := fun z => by
          unfold inV al
          simp only [List.any_cons, List.any_nil, Bool.or_false, Bool.or_eq_true]
          show (((Str.ofString "word") == z) = true ∨ ((Str.ofString "name") == z) = true ∨ ((Str.ofString "num") == z) = true) ↔ _
          simp only [beq_iff_eq]
          constructor
          · rintro (h | h | h)
            · exact .inl h.symm
            · exact .inr (.inl h.symm)
            · exact .inr (.inr h.symm)
          · rintro (h | h | h)
            · exact .inl h.symm
            · exact .inr (.inl h.symm)
            · exact .inr (.inr h.symm)
        refine ⟨_, rfl, lp, _, 0, .str la, rfl, rfl, SqL.of hlp2, atI_nat (j := 0) rfl, rfl, _, rfl, ?_⟩
        by_cases hA : la = "sign"
        · rw [decide_eq_true (congrArg V.str hA)]
          refine iteT ⟨_, rfl, rfl, _, rfl, ?_⟩
          by_cases hB : na = "sign"
          · rw [decide_eq_true (congrArg V.str hB)]
            refine iteT (iteT ?_)
            refine ⟨_, rfl, rfl, _, rfl, ?_⟩
            by_cases hg0 : g = []
            · subst hg0
              rw [show (!decide (V.str (S []) = V.str (Str.ofString ""))) = false by decide +kernel]
              exact iteF ⟨fun _ _ e => e, [32], by decide, by simp, by rw [show S [32] = Str.ofString " " by decide +kernel]; rfl⟩
            · have e0 : Str.ofString "" = S [] := by decide +kernel
              rw [decide_eq_false (show ¬ V.str (S g) = V.str (Str.ofString "") by
                rw [e0]
                exact fun e => hg0 (S_inj (V.str.inj e)))]
              exact iteT ⟨_, rfl, fun _ _ e => e, g, hg, fun e => absurd e hg0, rfl⟩
          · rw [decide_eq_false (fun e => hB (V.str.inj e))]
            refine iteF ⟨_, rfl, lp, _, 0, .str la, rfl, rfl, SqL.of hlp2, atI_nat (j := 0) rfl, line6 (by simp), fun q1 nq1 => ?_⟩
            refine ⟨q1, _, rfl, .inl (SqL.of upd_same), rfl, rfl, _, rfl, ?_⟩
            have hf : inV (.str la) [V.str "word", .str "name", .str "num"] = false := by
              rw [Bool.eq_false_iff]
              exact fun z => nsign ((wset la).mp z) hA
            show (if (inV (.str la) [V.str "word", .str "name", .str "num"]) = true then _ else _)
            rw [hf]
            refine iteF ⟨fun b o e => ?_, g, hg, fun _ => ⟨fun z => hB z.2, fun z => nsign z.1 hA⟩, rfl⟩
            rw [upd_ne (ne_of_none e nq1)]
            exact e
        · rw [decide_eq_false (fun e => hA (V.str.inj e))]
          refine iteF ⟨_, rfl, lp, _, 0, .str la, rfl, rfl, SqL.of hlp2, atI_nat (j := 0) rfl, line6 (by simp), fun q1 nq1 => ?_⟩
          have s1 : ∀ o, Same G2 (upd G2 q1 o) := fun o b x e => by
            rw [upd_ne (ne_of_none e nq1)]
            exact e
          refine ⟨q1, _, rfl, .inl (SqL.of upd_same), rfl, rfl, _, rfl, ?_⟩
          show (if (inV (.str la) [V.str "word", .str "name", .str "num"]) = true then _ else _)
          by_cases hC : al la
          · rw [(wset la).mpr hC]
            refine iteT ⟨_, rfl, line6 (by simp), fun q2 nq2 => ?_⟩
            have s2 : ∀ o, Same G2 (upd (upd G2 q1 (.lst [V.str "word", .str "name", .str "num"])) q2 o) := fun o b x e => by
              have := s1 (.lst [V.str "word", .str "name", .str "num"]) b x e
              rw [upd_ne (ne_of_none this nq2)]
              exact this
            refine ⟨q2, _, rfl, .inl (SqL.of upd_same), rfl, rfl, _, rfl, ?_⟩
            show (if (inV (.str na) [V.str "word", .str "name", .str "num"]) = true then _ else _)
            by_cases hD : al na
            · rw [(wset na).mpr hD]
              refine iteT ?_
              refine ⟨_, rfl, rfl, _, rfl, ?_⟩
              by_cases hg0 : g = []
              · subst hg0
                rw [show (!decide (V.str (S []) = V.str (Str.ofString ""))) = false by decide +kernel]
                exact iteF ⟨s2 _, [32], by decide, by simp, by rw [show S [32] = Str.ofString " " by decide +kernel]; rfl⟩
              · have e0 : Str.ofString "" = S [] := by decide +kernel
                rw [decide_eq_false (show ¬ V.str (S g) = V.str (Str.ofString "") by
                  rw [e0]
                  exact fun e => hg0 (S_inj (V.str.inj e)))]
                exact iteT ⟨_, rfl, s2 _, g, hg, fun e => absurd e hg0, rfl⟩
            · have hf : inV (.str na) [V.str "word", .str "name", .str "num"] = false := by
                rw [Bool.eq_false_iff]
                exact fun z => hD ((wset na).mp z)
              rw [hf]
              exact iteF ⟨s2 _, g, hg, fun _ => ⟨fun z => hA z.1, fun z => hD z.2⟩, rfl⟩
          · have hf : inV (.str la) [V.str "word", .str "name", .str "num"] = false := by
              rw [Bool.eq_false_iff]
              exact fun z => hC ((wset la).mp z)
            rw [hf]
            exact iteF ⟨s1 _, g, hg, fun _ => ⟨fun z => hA z.1, fun z => hC z.1⟩, rfl⟩
      · rintro σ' G3 ⟨sm, g', hg', hcond, rfl⟩
        have gl : g'.length ≤ 4 := (show ∀ g ∈ GAPS, g.length ≤ 4 by decide) g' hg'
        have hb2 := Built.snoc g' na f hb ok hg' hcond
        have hb2l := hb2.len
        have hdl2 : (d ++ [(na, f, (t ++ g').length)]).length = d.length + 1 := by simp
        have tl2 : (t ++ g' ++ f).length ≤ 1000 := by omega
        have tl1 : (t ++ g').length ≤ 1000 := by
          rw [List.length_append] at tl2
          omega
        have hSt3 : StOk st c G3 := by
          obtain ⟨cells, m, s1, s2, rr⟩ := hSt2
          exact ⟨cells, m, sm _ _ s1, sm _ _ s2, rr⟩
        obtain ⟨refs, hdq, htk⟩ := hdue
        have hdq3 : G3 dq = some (.lst (refs.map V.ref)) := sm _ _ (kk _ _ fq.1 fq.2 hdq)
        have htk3 : Toks G3 refs d := htk.mono fun b xs e => by
          refine sm _ _ (kk b _ ?_ ?_ e)
          · obtain ⟨cells, m, s1, s2, _⟩ := hSt
            exact ne_of e s1 fun z => nomatch z
          · obtain ⟨cells, m, s1, s2, _⟩ := hSt
            exact ne_of e s2 fun z => nomatch z
        -- text = text + gap
        refine ⟨_, rfl, _, rfl, S t, S g', rfl, rfl, ?_, ?_⟩
        · rw [S_len, S_len]
          exact line6 (by omega)
        rw [S_app]
        -- due.append((sort, found, len(text)))
        refine ⟨_, rfl, .inl ⟨rfl, _, SqL.of hdq3⟩, _, rfl, _, rfl, _, rfl, S (t ++ g'), rfl, line6 (by rw [S_len]; omega), line6 (by simp), fun tp ntp => ?_⟩
        have ntq : tp ≠ dq := fun e => by
          rw [e, hdq3] at ntp
          cases ntp
        refine ⟨dq, _, _, rfl, rfl, by rw [upd_ne ntq.symm]; exact hdq3, ?_, ?_⟩
        · rw [List.length_map, htk.len]
          exact Nat.lt_of_lt_of_le (Nat.lt_succ_self _) (line6 (by omega))
        -- text = text + found
        refine ⟨_, rfl, _, rfl, S (t ++ g'), S f, rfl, rfl, ?_, ?_⟩
        · rw [S_len, S_len, ← List.length_append]
          exact line6 (by omega)
        rw [S_app, S_len]
        -- last = [sort, found]
        refine ⟨_, rfl, _, rfl, line6 (by simp), fun lq nlq => ?_⟩
        have nlq1 : lq ≠ dq := fun e => by
          rw [e, upd_same] at nlq
          cases nlq
        have nlq2 : lq ≠ tp := fun e => by
          rw [e, upd_ne ntq, upd_same] at nlq
          cases nlq
        have nlq0 : G3 lq = none := by
          rw [upd_ne nlq1, upd_ne nlq2] at nlq
          exact nlq
        have ft := hSt3.fresh ntp
        have fl := hSt3.fresh nlq0
        refine ⟨t ++ g' ++ f, _, na, f, lq, _, _, _, _, rfl, hb2, by rw [hdl2, hd], ?_, ⟨refs ++ [tp], ?_, ?_⟩, upd_same, fq, nlq1.symm⟩
        · obtain ⟨cells, m, s1, s2, rr⟩ := hSt3
          refine ⟨cells, m, ?_, ?_, rr⟩
          · rw [upd_ne fl.1.symm, upd_ne fq.1.symm, upd_ne ft.1.symm]
            exact s1
          · rw [upd_ne fl.2.symm, upd_ne fq.2.symm, upd_ne ft.2.symm]
            exact s2
        · rw [upd_ne nlq1.symm, upd_same, List.map_append]
          rfl
        · refine Toks.snoc ?_ (htk3.mono fun b xs e => ?_)
          · rw [upd_ne nlq2.symm, upd_ne ntq, upd_same]
          · have b1 : b ≠ dq := fun z => by
              rw [z, hdq3] at e
              cases e
            rw [upd_ne (ne_of_none e nlq0), upd_ne b1, upd_ne (ne_of_none e ntp)]
            exact e
    · -- behind the loop
      obtain ⟨t, d, la, lf, lp, y5, y6, y7, y8, rfl, hb, hd, hSt, hdue, hlp, fq, nlp⟩ := hP
      have hdl : d.length ≤ 30 := by omega
      have htl := hb.len
      obtain ⟨lex1, lex2⟩ := hb.all
      obtain ⟨shp, hev⟩ := data_shaped hb.oks
      refine ⟨_, rfl, t, .ok d, rfl, by omega, lex1, fun G1 p1 sm1 _ due1 => ?_⟩
      have hdue1 := hdue.mono sm1
      refine ⟨_, rfl, dataOf d, dataOf d, due1.dp, hdue1.dp, shp, shp, _, rfl, ?_⟩
      rw [hev]
      refine iteF ⟨_, rfl, _, _, rfl, rfl, ?_, t ++ [32, 10], .ok d, ?_, ?_, lex2, fun G2 p2 sm2 _ due2 => ?_⟩
      · rw [S_len, show (Str.ofString " \n").length = 2 by decide +kernel]
        exact line6 (by omega)
      · rw [show Str.ofString " \n" = S [32, 10] by decide +kernel, S_app]
        rfl
      · rw [List.length_append]
        show t.length + 2 ≤ 100000
        omega
      have hdue2 := hdue1.mono sm2
      refine ⟨_, rfl, dataOf d, dataOf d, due2.dp, hdue2.dp, shp, shp, _, rfl, ?_⟩
      rw [hev]
      refine iteF ?_
      have hSt2 := (hSt.same sm1).same sm2
      -- at
      refine ⟨fun σ' G' => ∃ (n : Nat) (t1 : List Nat) (d1 : List Tk) (la1 : Str) (lf1 gap : List Nat), Built t1 d1 la1 lf1 ∧ gap ∈ GAPS ∧ t.take n = t1 ++ gap ∧ n = (t1 ++ gap).length ∧ n ≤ t.length ∧ StOk st c G' ∧
        σ' = [some (.ref a), some (.ref st), some (.str (S t)), some (.ref dq), some (.ref lp), y5, y6, y7, y8, some (.int n), none, none, none], ?_, ?_⟩
      · obtain ⟨refs, hdq, htk⟩ := hdue2
        have hrl := htk.len
        refine ⟨_, rfl, dq, _, rfl, .inl (SqL.of hdq), _, _, rfl, rfl, _, rfl, ?_⟩
        rw [List.length_map, hrl]
        by_cases hz : d = []
        · subst hz
          refine iteF ⟨_, rfl, S t, rfl, line6 (by rw [S_len]; omega), t.length, t, [], la, lf, [], hb, by decide, by simp, by simp, Nat.le_refl _, hSt2, ?_⟩
          rw [S_len]
          rfl
        · have h0 : 0 < d.length := by
            cases d with
            | nil => exact absurd rfl hz
            | cons x r => simp
          have hI : (0 : Int) < (d.length : Int) := by omega
          rw [decide_eq_true hI]
          refine iteT ⟨_, rfl, _, rfl, _, rfl, dq, _, rfl, .inl (SqL.of hdq), st, c, _, rfl, hSt2, ?_, ?_, fun r G3 r0 r1 hSt3 ap3 => ?_⟩
          · rw [List.length_map, hrl]
            exact hI
          · rw [List.length_map, hrl]
            show d.length < 2 ^ 60
            omega
          have hdq3 : G3 dq = some (.lst (refs.map V.ref)) := ap3.keep _ _ fq.1 fq.2 hdq
          obtain ⟨j, rfl⟩ := Int.eq_ofNat_of_zero_le r0
          rw [List.length_map, hrl] at r1
          have hj : j < d.length := by omega
          have hj2 : j < refs.length := by omega
          have hx : d[j]? = some d[j] := List.getElem?_eq_getElem hj
          have hr : refs[j]? = some refs[j] := List.getElem?_eq_getElem hj2
          have htup : G3 refs[j] = some (.tup [.str d[j].1, .str (S d[j].2.1), .int d[j].2.2]) := by
            have htk3 : Toks G3 refs d := htk.mono fun b xs e => by
              obtain ⟨cells, m, s1, s2, _⟩ := hSt2
              exact ap3.keep _ _ (ne_of e s1 fun z => nomatch z) (ne_of e s2 fun z => nomatch z) e
            have gen : ∀ {refs : List Addr} {d : List Tk} (j : Nat) (x : Tk) (p : Addr), Toks G3 refs d → d[j]? = some x → refs[j]? = some p → G3 p = some (.tup [.str x.1, .str (S x.2.1), .int x.2.2]) := by
              intro refs d j x p ht
              induction ht generalizing j with
              | nil => intro h; simp at h
              | cons h t ih =>
                intro h1 h2
                cases j with
                | zero =>
                  cases Option.some.inj h1
                  cases Option.some.inj h2
                  exact h
                | succ j => exact ih j (by simpa using h1) (by simpa using h2)
            exact gen j _ _ htk3 hx hr
          obtain ⟨t1, d1, la1, lf1, gap, b1, hg1, e1, e2, e3⟩ := hb.place hx
          refine ⟨dq, _, _, .ref refs[j], rfl, rfl, SqL.of hdq3, atI_nat ?_, refs[j], _, 2, _, rfl, rfl, SqT.of htup, atI_nat (j := 2) rfl, d[j].2.2, t1, d1, la1, lf1, gap, b1, hg1, e1, e2, e3, hSt3, rfl⟩
          rw [List.getElem?_map, hr]
          rfl
      · rintro σ' G3 ⟨n, t1, d1, la1, lf1, gap, b1, hg1, e1, e2, e3, hSt3, rfl⟩
        -- wrong
        refine ⟨line6 (by simp), fun wp nwp => ?_⟩
        refine ⟨_, rfl, st, c, 8, rfl, hSt3.new nwp, by decide, by decide, fun r G4 r0 r1 hSt4 ap4 => ?_⟩
        have fw := hSt3.fresh nwp
        have hwp : G4 wp = some (.lst [.str "$", .str "A", .str "_", .str ".", .str "!", .str ">", .str "\t", .str "&"]) := ap4.keep _ _ fw.1 fw.2 upd_same
        obtain ⟨x, hx, ex⟩ := atI_mem (xs := [V.str "$", .str "A", .str "_", .str ".", .str "!", .str ">", .str "\t", .str "&"]) r0 (by simpa using r1)
        have hwr : ∃ wc ∈ W8, x = .str (S [wc]) := by
          simp only [List.mem_cons, List.not_mem_nil, or_false] at hx
          rcases hx with rfl | rfl | rfl | rfl | rfl | rfl | rfl | rfl
          · exact ⟨36, by decide, by decide +kernel⟩
          · exact ⟨65, by decide, by decide +kernel⟩
          · exact ⟨95, by decide, by decide +kernel⟩
          · exact ⟨46, by decide, by decide +kernel⟩
          · exact ⟨33, by decide, by decide +kernel⟩
          · exact ⟨62, by decide, by decide +kernel⟩
          · exact ⟨9, by decide, by decide +kernel⟩
          · exact ⟨38, by decide, by decide +kernel⟩
        obtain ⟨wc, hw, rfl⟩ := hwr
        refine ⟨wp, _, r, _, rfl, rfl, SqL.of hwp, ex, ?_⟩
        refine ⟨fun σ' G' => ∃ wc ∈ W8, (wc = 62 → ∀ p, (t1 ++ gap).getLast? = some p → p ∉ [61, 45]) ∧ G' = G4 ∧
          σ' = [some (.ref a), some (.ref st), some (.str (S t)), some (.ref dq), some (.ref lp), y5, y6, y7, y8, some (.int n), some (.str (S [wc])), none, none], ?_, ?_⟩
        · -- if wrong == >
          refine ⟨_, rfl, rfl, _, rfl, ?_⟩
          by_cases hA : wc = 62
          · subst hA
            rw [show decide (V.str (S [62]) = V.str (Str.ofString ">")) = true by decide +kernel]
            refine iteT ⟨_, rfl, _, _, rfl, rfl, _, rfl, ?_⟩
            by_cases hn : 0 < n
            · have hI : (0 : Int) < (n : Int) := by omega
              rw [decide_eq_true hI]
              obtain ⟨ch, c1, c2⟩ := last_get hn e3
              refine iteT ⟨_, rfl, _, rfl, _, _, rfl, rfl, S t, (n : Int) - 1, ch, rfl, rfl, line6 (by rw [S_len]; omega), ?_, ch, _, rfl, rfl, _, rfl, ?_⟩
              · rw [S_cps, show (n : Int) - 1 = ((n - 1 : Nat) : Int) by omega]
                exact atI_nat c1
              rw [show (Str.ofString "=-").cps.toList = [61, 45] by decide +kernel]
              by_cases hin : ch ∈ [61, 45]
              · rw [decide_eq_true hin]
                exact iteT ⟨36, by decide, fun z => absurd z (by decide), by rw [show S [36] = Str.ofString "$" by decide +kernel]; exact ⟨rfl, rfl⟩⟩
              · rw [decide_eq_false hin]
                refine iteF ⟨62, by decide, (fun _ p hp => by rw [← e1, c2] at hp; cases hp; exact hin), rfl, rfl⟩
            · have hI : ¬ (0 : Int) < (n : Int) := by omega
              rw [decide_eq_false hI]
              have : t1 ++ gap = [] := List.length_eq_zero_iff.mp (by omega)
              refine iteF ⟨62, by decide, (fun _ p hp => by rw [this] at hp; cases hp), rfl, rfl⟩
          · have hne : ¬ V.str (S [wc]) = V.str (Str.ofString ">") := fun e => by
              have e := V.str.inj e
              rw [show Str.ofString ">" = S [62] by decide +kernel] at e
              have e := S_inj e
              injection e with e _
              exact hA e
            rw [decide_eq_false hne]
            exact iteF ⟨wc, hw, fun z => absurd z hA, rfl, rfl⟩
        rintro σ' G5 ⟨wc, hw, h62, rfl, rfl⟩
        refine ⟨fun σ' G' => ∃ wc ∈ W8, ((wc = 62 → ∀ p, (t1 ++ gap).getLast? = some p → p ∉ [61, 45]) ∧ (wc = 95 → ∀ p, (t1 ++ gap).getLast? = some p → p ∉ NAMES)) ∧ G' = G5 ∧
          σ' = [some (.ref a), some (.ref st), some (.str (S t)), some (.ref dq), some (.ref lp), y5, y6, y7, y8, some (.int n), some (.str (S [wc])), none, none], ?_, ?_⟩
        · -- if wrong == _
          refine ⟨_, rfl, rfl, _, rfl, ?_⟩
          by_cases hA : wc = 95
          · subst hA
            rw [show decide (V.str (S [95]) = V.str (Str.ofString "_")) = true by decide +kernel]
            refine iteT ⟨_, rfl, _, _, rfl, rfl, _, rfl, ?_⟩
            by_cases hn : 0 < n
            · have hI : (0 : Int) < (n : Int) := by omega
              rw [decide_eq_true hI]
              obtain ⟨ch, c1, c2⟩ := last_get hn e3
              refine iteT ⟨_, rfl, _, rfl, _, _, rfl, rfl, S t, (n : Int) - 1, ch, rfl, rfl, line6 (by rw [S_len]; omega), ?_, ch, _, rfl, rfl, _, rfl, ?_⟩
              · rw [S_cps, show (n : Int) - 1 = ((n - 1 : Nat) : Int) by omega]
                exact atI_nat c1
              rw [show (Str.ofString "abcdefghijklmnopqrstuvwxyz0123456789_").cps.toList = NAMES by decide +kernel]
              by_cases hin : ch ∈ NAMES
              · rw [decide_eq_true hin]
                exact iteT ⟨36, by decide, ⟨fun z => absurd z (by decide), fun z => absurd z (by decide)⟩, by rw [show S [36] = Str.ofString "$" by decide +kernel]; exact ⟨rfl, rfl⟩⟩
              · rw [decide_eq_false hin]
                refine iteF ⟨95, by decide, ⟨fun z => absurd z (by decide), fun _ p hp => by rw [← e1, c2] at hp; cases hp; exact hin⟩, rfl, rfl⟩
            · have hI : ¬ (0 : Int) < (n : Int) := by omega
              rw [decide_eq_false hI]
              have : t1 ++ gap = [] := List.length_eq_zero_iff.mp (by omega)
              refine iteF ⟨95, by decide, ⟨fun z => absurd z (by decide), fun _ p hp => by rw [this] at hp; cases hp⟩, rfl, rfl⟩
          · have hne : ¬ V.str (S [wc]) = V.str (Str.ofString "_") := fun e => by
              have e := V.str.inj e
              rw [show Str.ofString "_" = S [95] by decide +kernel] at e
              have e := S_inj e
              injection e with e _
              exact hA e
            rw [decide_eq_false hne]
            exact iteF ⟨wc, hw, ⟨h62, fun z => absurd z hA⟩, rfl, rfl⟩
        rintro σ' G6 ⟨wc, hw, ⟨h62, h95⟩, rfl, rfl⟩
        -- the wrong sign is told
        have hlex : Lex 0 (t1 ++ gap ++ (wc :: t.drop n)) (.error (t1 ++ gap).length) := b1.wrong hg1 (w8_step hw _) fun eg => by
          subst eg
          rw [List.append_nil] at h62 h95
          exact wrong_fits b1 hw (fun p hp => ⟨fun z => h62 z p hp, fun z => h95 z p hp⟩) _
        have tl1 : (t.take n).length ≤ 1000 := by
          rw [List.length_take]
          omega
        have tl2 : (t.drop n).length ≤ 1000 := by
          rw [List.length_drop]
          omega
        refine ⟨fun σ' G' => StOk st c G' ∧ σ' = [some (.ref a), some (.ref st), some (.str (S t)), some (.ref dq), some (.ref lp), y5, y6, y7, y8, some (.int n), some (.str (S [wc])), none, none], ?_, ?_⟩
        · refine ⟨_, rfl, _, rfl, _, rfl, S t, rfl, line6 (by rw [S_len]; omega), _, rfl, _, _, rfl, rfl, ?_, _, rfl, _, rfl, _, rfl, S t, rfl, line6 (by rw [S_len]; omega), _, _, rfl, rfl, ?_, t1 ++ gap ++ (wc :: t.drop n), .error (t1 ++ gap).length, ?_, ?_, hlex, fun G7 d7 sm7 _ ed7 => ?_⟩
          · rw [cutS_to, S_len, S_len, List.length_singleton]
            exact line6 (by omega)
          · rw [cutS_to, cutS_from, S_app, S_len, S_len, List.length_append, List.length_singleton]
            exact line6 (by omega)
          · rw [cutS_to, cutS_from, S_app, S_app, e1, List.append_assoc]
            rfl
          · rw [← e1, List.length_append, List.length_cons]
            omega
          · refine ⟨true, TE.te, fun _ ae nae => ?_, fun z => nomatch z⟩
            refine ⟨_, rfl, rfl, rfl, d7, .int (t1 ++ gap).length, rfl, ed7, _, rfl, rfl, _, rfl, ?_⟩
            rw [e2, decide_eq_true (rfl : V.int (t1 ++ gap).length = V.int (t1 ++ gap).length)]
            refine iteF ⟨_, rfl, rfl, rfl, d7, _, rfl, ed7, true, rfl, ?_⟩
            exact iteF ⟨hSt4.same sm7, rfl⟩
        · rintro σ' G7 ⟨hSt7, rfl⟩
          refine ⟨_, rfl, st, c, 4, rfl, hSt7, by decide, by decide, fun r5 G8 s0 s4 hSt8 ap8 => ?_⟩
          obtain ⟨k, ek⟩ : ∃ k : Nat, 17 + r5 = (k : Int) := ⟨(17 + r5).toNat, by omega⟩
          have hk : k = 17 ∨ k = 18 ∨ k = 19 ∨ k = 20 := by omega
          refine ⟨17, r5, rfl, rfl, Str.ofString "9", 17 + r5, rfl, rfl, by omega, by omega, by decide +kernel, by decide +kernel, ?_, ?_⟩
          · rw [show (17 + r5).toNat = k by omega, nines_text k hk, S_len, List.length_replicate]
            exact line6 (by omega)
          rw [show (17 + r5).toNat = k by omega, nines_text k hk]
          have ea : Str.ofString "a " = S [97, 32] := by decide +kernel
          refine ⟨fun σ' G' => True, ?_, ?_⟩
          · refine ⟨_, rfl, _, _, rfl, rfl, ?_, ?_⟩
            · rw [ea, S_len, S_len, List.length_replicate]
              exact line6 (by
                show 2 + k ≤ 1000000
                omega)
            rw [ea, S_app]
            by_cases hk8 : k = 17 ∨ k = 18
            · refine ⟨_, _, rfl, ?_, nines_ok k hk8, fun G9 p9 sm9 np9 due9 => ?_⟩
              · rw [List.length_append, List.length_replicate]
                show 2 + k ≤ 100000
                omega
              have hsh : SeqAt.shaped (dataOf [("name", [97], 0), ("num", List.replicate k 57, 2)]) = true ∧ PyData.eqv (dataOf [("name", [97], 0), ("num", List.replicate k 57, 2)]) (dataOf [("name", [97], 0), ("num", List.replicate k 57, 2)]) = true := by
                rcases hk8 with rfl | rfl
                · exact data_shaped (by decide +kernel)
                · exact data_shaped (by decide +kernel)
              refine ⟨line6 (by simp), fun q1 nq1 => ⟨_, rfl, line6 (by simp), fun q2 nq2 => ⟨line6 (by simp), fun q3 nq3 => ?_⟩⟩⟩
              have x1 := same_new (o := .tup [.str "name", .str "a", .int 0]) nq1
              have x2 := same_new (o := .tup [.str "num", .str (S (List.replicate k 57)), .int 2]) nq2
              have x3 := same_new (o := .lst [.ref q1, .ref q2]) nq3
              refine ⟨_, _, (due9.mono (x1.trans (x2.trans x3))).dp, .lst (SqL.of upd_same) (.cons (tup_dp (t := ("name", [97], 0)) (x3 _ _ (x2 _ _ upd_same)) rfl (by decide +kernel) rfl) (.cons (tup_dp (t := ("num", List.replicate k 57, 2)) (x3 _ _ upd_same) rfl rfl rfl) .nil)), hsh.1, hsh.1, _, rfl, ?_⟩
              show (if (!PyData.eqv (dataOf [("name", [97], 0), ("num", List.replicate k 57, 2)]) (dataOf [("name", [97], 0), ("num", List.replicate k 57, 2)])) = true then _ else _)
              rw [hsh.2]
              refine iteF ⟨_, rfl, S (List.replicate k 57), rfl, ?_, _, _, rfl, rfl, _, rfl, ?_⟩
              · rw [S_len, List.length_replicate]
                exact line6 (by omega)
              rw [S_len, List.length_replicate, decide_eq_false (show ¬ (18 : Int) < k by omega)]
              exact iteF trivial
            · refine ⟨_, _, rfl, ?_, nines_bad k (by omega), fun G9 d9 sm9 nd9 ed9 => ?_⟩
              · rw [List.length_append, List.length_replicate]
                show 2 + k ≤ 100000
                omega
              refine ⟨true, TE.te, fun _ ae nae => ?_, fun z => nomatch z⟩
              refine ⟨_, rfl, rfl, rfl, d9, .int 2, rfl, ed9, rfl, _, rfl, ?_⟩
              refine iteF ⟨_, rfl, S (List.replicate k 57), rfl, ?_, _, _, rfl, rfl, _, rfl, ?_⟩
              · rw [S_len, List.length_replicate]
                exact line6 (by omega)
              rw [S_len, List.length_replicate, decide_eq_false (show ¬ (k : Int) < 19 by omega)]
              exact iteF trivial
          · rintro σ' G9 _
            have hsh := data_shaped last_ok
            refine ⟨codes "x1 :=<=fnx//7", .ok lastD, ?_, by decide +kernel, last_lex, fun GA pA smA npA dueA => ?_⟩
            · rw [S_codes]
              rfl
            refine ⟨line6 (by simp), fun q1 n1 => ⟨line6 (by simp), fun q2 n2 => ⟨line6 (by simp), fun q3 n3 => ⟨line6 (by simp), fun q4 n4 => ⟨line6 (by simp), fun q5 n5 => ⟨line6 (by simp), fun q6 n6 => ⟨line6 (by simp), fun q7 n7 => ?_⟩⟩⟩⟩⟩⟩⟩
            have x1 := same_new (o := .tup [.str "name", .str "x1", .int 0]) n1
            have x2 := same_new (o := .tup [.str "sign", .str ":=", .int 3]) n2
            have x3 := same_new (o := .tup [.str "sign", .str "<=", .int 5]) n3
            have x4 := same_new (o := .tup [.str "name", .str "fnx", .int 7]) n4
            have x5 := same_new (o := .tup [.str "sign", .str "//", .int 10]) n5
            have x6 := same_new (o := .tup [.str "num", .str "7", .int 12]) n6
            have x7 := same_new (o := .lst [.ref q1, .ref q2, .ref q3, .ref q4, .ref q5, .ref q6]) n7
            refine ⟨dataOf lastD, dataOf lastD, (dueA.mono (x1.trans (x2.trans (x3.trans (x4.trans (x5.trans (x6.trans x7))))))).dp, .lst (SqL.of upd_same)
              (.cons (tup_dp (t := ("name", codes "x1", 0)) (x7 _ _ (x6 _ _ (x5 _ _ (x4 _ _ (x3 _ _ (x2 _ _ upd_same)))))) rfl (S_codes _).symm rfl)
              (.cons (tup_dp (t := ("sign", codes ":=", 3)) (x7 _ _ (x6 _ _ (x5 _ _ (x4 _ _ (x3 _ _ upd_same))))) rfl (S_codes _).symm rfl)
              (.cons (tup_dp (t := ("sign", codes "<=", 5)) (x7 _ _ (x6 _ _ (x5 _ _ (x4 _ _ upd_same)))) rfl (S_codes _).symm rfl)
              (.cons (tup_dp (t := ("name", codes "fnx", 7)) (x7 _ _ (x6 _ _ (x5 _ _ upd_same))) rfl (S_codes _).symm rfl)
              (.cons (tup_dp (t := ("sign", codes "//", 10)) (x7 _ _ (x6 _ _ upd_same)) rfl (S_codes _).symm rfl)
              (.cons (tup_dp (t := ("num", codes "7", 12)) (x7 _ _ upd_same) rfl (S_codes _).symm rfl) .nil)))))), hsh.1, hsh.1, _, rfl, ?_⟩
            rw [hsh.2]
            refine iteT ⟨[], .ok [], ?_, by simp, .nil 0, fun GB pB smB npB dueB => ⟨line6 (by simp), fun q8 n8 => ?_⟩⟩
            · rw [show S [] = Str.ofString "" by decide +kernel]
              rfl
            have hs0 : SeqAt.shaped (dataOf []) = true ∧ PyData.eqv (dataOf []) (dataOf []) = true := data_shaped (by simp)
            have x8 := same_new (o := .lst []) n8
            refine ⟨dataOf [], dataOf [], (dueB.mono x8).dp, .lst (SqL.of upd_same) .nil, hs0.1, hs0.1, ?_⟩
            rw [hs0.2]
            exact q _
end
end K1
set_option Elab.async false
set_option linter.all false
set_option maxRecDepth 100000
set_option maxHeartbeats 8000000
namespace K1
open PySem PySem.Spec PyProof.Rows L2
/-- the texts that a list of values holds -/
def strsOf : List Value → Option (List Str)
  | [] => some []
  | .str x _ :: r => (strsOf r).map (x :: ·)
  | _ :: _ => none
theorem strs_vals : ∀ {us : List Value} {xs : List Str}, strsOf us = some xs → Vals (xs.map V.str) us
  | [], xs, h => by
    cases h
    exact .nil
  | u :: r, xs, h => by
    cases u with
    | str x t =>
      unfold strsOf at h
      cases hr : strsOf r with
      | none => rw [hr] at h; cases h
      | some ys =>
        rw [hr] at h
        cases h
        exact .cons ⟨t, rfl⟩ (strs_vals hr)
    | _ => cases h
theorem sqt_of {K : PySem.W.Frag} {a : Addr} {od : Option Addr} {its : Array Value} {n : Nat} {sl : Array (Option Value)} {xs : List Str} {ys : List (List Nat)} (l : K.lookup a = some ⟨.type "tuple", od, .seq its n, sl⟩) (h : strsOf its.toList = some xs)
    (e : xs = ys.map S) (hz : xs.length ≤ 1000) (H : Hp) : SqT K H a (ys.map fun x => V.str (S x)) := by
  have v := strs_vals h
  refine .inr ⟨_, its, n, l, rfl, rfl, ?_, ?_⟩
  · have := v.length
    rw [List.length_map] at this
    have e2 : its.size = its.toList.length := by simp
    exact line6 (by omega)
  · rw [e, List.map_map] at v
    exact v
theorem all_mk {P : Program} {w : World} {K : PySem.W.Frag} {h : Heap} {mg : Str → Option Value} {fa : Addr} (X : K.In h) (G : h.Ns mainGlobals mg) (hfa : mg "law" = some (.ref fa))
    {C D fI cc cda aW aL fR fT fS fD fO fL : Addr} {tF tL tS : Tok}
    {nm q : Str} {N : Addr} {bs : List Value} {sn : List Str} {sub : List Value} {ab : Bool} {col : Option Bool} {dd : Option Addr} {k0 k1 k2 k3 k5 : Option Value}
    (aC : PySem.W.nsIn K mainGlobals "TextError" = some (some (.ref C))) (aD : PySem.W.nsIn K mainGlobals "StageError" = some (some (.ref D)))
    (xC : K.lookup C = some (excClassObj nm q C N bs (.ref D :: PySem.ESX.exTail) true sn sub ab col dd k0 k1 k2 k3 k5 "Exception.__new__"))
    (sa : PySem.W.findIn K (.ref C) "__setattr__" = some (some (.builtin "object.__setattr__"))) (ga : PySem.W.findIn K (.ref C) "__getattribute__" = some (some (.builtin "BaseException.__getattribute__")))
    (gg : PySem.W.findIn K (.ref C) "__getattr__" = some none) (nb : PySem.W.findIn K (.ref C) "place" = some none)
    (iC : PySem.W.findIn K (.ref C) "__init__" = some (some (.ref fI))) (tI : PySem.W.typeIn K (.ref fI) = some (.type "function")) (kC : PySem.W.keepIn K (.ref C) = true)
    (eB : PySem.W.subIn K (.ref C) (.type "BaseException") = some true) (eE : PySem.W.subIn K (.ref C) (.type "Exception") = some true) (tC : PySem.W.typeIn K (.ref C) = some (.type "type")) (hC : PySem.W.hasDictIn K C = true)
    (sI : PySem.W.ks_superIn K C C "__init__" = some (some (.builtin "Exception.__init__"))) (nA : PySem.W.nsIn K cStatics "thirdparty.any" = some none) (sCC : PySem.W.subIn K (.ref C) (.ref C) = some true)
    (z1 : PySem.W.nsIn K mainGlobals "super" = some none) (z2 : PySem.W.nsIn K mainGlobals "str" = some none)
    {dc0 pm0 ct0 oc0 : Value} {od0 an0 : Option Addr} {sl0 : Array (Option Value)}
    (l0 : K.lookup fI = some ⟨oc0, od0, .func (PySem.W.fnX "__init__" "TextError.__init__" (defArgs TX.sInit) (defBody TX.sInit) (defScope TX.sInit) [("__class__", cc)] .none .none dc0 pm0 an0 (.ref cda) ct0), sl0⟩) (c0 : PySem.W.codeIn K (.ref cda) "TextError.__init__" = true)
    {cl : Value} {cld : Option Addr} {csl : Array (Option Value)} (lc : K.lookup cc = some ⟨cl, cld, .cell (some (.ref C)), csl⟩)
    {ccl : Value} {cdd : Option Addr} {vs : Array Value} {ccs : Array (Option Value)} {tf : Tok} (lk : K.lookup cda = some ⟨ccl, cdd, .fields vs, ccs⟩) (hv2 : vs[2]? = some (.str P.main.file tf)) (htop : (P.main.scope.names.lookup ("super" : Str)).isSome = false)
    (ha : PySem.W.findIn K (.ref C) "__class__" = some (some (.builtin "object.__class__"))) (hn : PySem.W.specialIn K (.builtin "object.__class__") "__get__" = some (some (.builtin "getset_descriptor.__get__")))
    (ht : PySem.W.takesIn K (.builtin "object.__class__") = some true) (hm : PySem.W.mroIn K C (.type "object") = some true) (kit : PySem.W.kitOne K (.ref C) (.ref D) = some true)
    (gF : PySem.W.nsIn K mainGlobals "FIGURES" = some (some (.str "0123456789" tF))) (gL : PySem.W.nsIn K mainGlobals "LETTERS" = some (some (.str "abcdefghijklmnopqrstuvwxyz" tL))) (gS : PySem.W.nsIn K mainGlobals "SIGNS" = some (some (.str "()[],;:=+-*<" tS)))
    (gW : PySem.W.nsIn K mainGlobals "WORDS" = some (some (.ref aW))) (gG : PySem.W.nsIn K mainGlobals "LONG_SIGNS" = some (some (.ref aL)))
    {odW odL : Option Addr} {iW iL : Array Value} {nW nL : Nat} {slW slL : Array (Option Value)} (lW : K.lookup aW = some ⟨.type "tuple", odW, .seq iW nW, slW⟩) (lL : K.lookup aL = some ⟨.type "tuple", odL, .seq iL nL, slL⟩)
    (vW : strsOf iW.toList = some (WRDS.map Str.ofString)) (vL : strsOf iL.toList = some (LNGS.map Str.ofString))
    (y1 : PySem.W.nsIn K mainGlobals "len" = some none) (y2 : PySem.W.nsIn K mainGlobals "int" = some none) (y3 : PySem.W.nsIn K mainGlobals "abs" = some none) (y4 : PySem.W.nsIn K mainGlobals "range" = some none) (y5 : PySem.W.nsIn K mainGlobals "isinstance" = some none)
    {od1 an1 od2 an2 od3 an3 od4 an4 od5 an5 od6 an6 : Option Addr} {sl1 sl2 sl3 sl4 sl5 sl6 : Array (Option Value)}
    {oc1 kV1 dc1 pm1 cd1 ct1 oc2 kV2 dc2 pm2 cd2 ct2 oc3 kV3 dc3 pm3 cd3 ct3 oc4 kV4 dc4 pm4 cd4 ct4 oc5 kV5 dc5 pm5 cd5 ct5 oc6 kV6 dc6 pm6 cd6 ct6 : Value}
    (a1 : PySem.W.nsIn K mainGlobals "run_of" = some (some (.ref fR))) (l1 : K.lookup fR = some ⟨oc1, od1, .func (PySem.W.fnOf "run_of" "run_of" (defArgs sRun) (defBody sRun) (defScope sRun) .none kV1 dc1 pm1 an1 cd1 ct1), sl1⟩) (c1 : PySem.W.codeIn K cd1 "run_of" = true) (p1 : PySem.W.keepIn K (.ref fR) = true)
    (a2 : PySem.W.nsIn K mainGlobals "tokens_of" = some (some (.ref fT))) (l2 : K.lookup fT = some ⟨oc2, od2, .func (PySem.W.fnOf "tokens_of" "tokens_of" (defArgs sTok) (defBody sTok) (defScope sTok) .none kV2 dc2 pm2 an2 cd2 ct2), sl2⟩) (c2 : PySem.W.codeIn K cd2 "tokens_of" = true) (p2 : PySem.W.keepIn K (.ref fT) = true)
    (a3 : PySem.W.nsIn K mainGlobals "_law_state" = some (some (.ref fS))) (l3 : K.lookup fS = some ⟨oc3, od3, .func (PySem.W.fnOf "_law_state" "_law_state" (defArgs sState) (defBody sState) (defScope sState) .none kV3 dc3 pm3 an3 cd3 ct3), sl3⟩) (c3 : PySem.W.codeIn K cd3 "_law_state" = true) (p3 : PySem.W.keepIn K (.ref fS) = true)
    (a4 : PySem.W.nsIn K mainGlobals "_law_draw" = some (some (.ref fD))) (l4 : K.lookup fD = some ⟨oc4, od4, .func (PySem.W.fnOf "_law_draw" "_law_draw" (defArgs sDraw) (defBody sDraw) (defScope sDraw) .none kV4 dc4 pm4 an4 cd4 ct4), sl4⟩) (c4 : PySem.W.codeIn K cd4 "_law_draw" = true) (p4 : PySem.W.keepIn K (.ref fD) = true)
    (a5 : PySem.W.nsIn K mainGlobals "_law_some" = some (some (.ref fO))) (l5 : K.lookup fO = some ⟨oc5, od5, .func (PySem.W.fnOf "_law_some" "_law_some" (defArgs sSome) (defBody sSome) (defScope sSome) .none kV5 dc5 pm5 an5 cd5 ct5), sl5⟩) (c5 : PySem.W.codeIn K cd5 "_law_some" = true) (p5 : PySem.W.keepIn K (.ref fO) = true)
    (a6 : PySem.W.nsIn K mainGlobals "law" = some (some (.ref fL))) (l6 : K.lookup fL = some ⟨oc6, od6, .func (PySem.W.fnOf "law" "law" (defArgs sLaw) (defBody sLaw) (defScope sLaw) .none kV6 dc6 pm6 an6 cd6 ct6), sl6⟩) (c6 : PySem.W.codeIn K cd6 "law" = true) (p6 : PySem.W.keepIn K (.ref fL) = true) :
    ∃ fd : FuncData, (∀ (s : Shared) (v : Value), BindsTo s fd ⟨[v], []⟩ [("script", v)]) ∧ ∀ base : Heap, K.In base → base.Ns mainGlobals mg → FnOk P w K mg base CX0 3 fa fd ["script"] (spLaw K) := by
  have e := hfa.symm.trans (PySem.W.mg_of X G a6)
  cases e
  have hcl : PySem.W.clsIn K C = some { name := nm, bases := bs, mro := .ref C :: .ref D :: PySem.ESX.exTail, ns := N, qualname := q, hasDict := true, slotNames := sn, subclasses := sub, abstract := ab, collection := col, hasDel := false } := by
    unfold PySem.W.clsIn
    rw [xC] <;> rfl
  have al : PySem.W.alongIn K "__init__" (.ref D :: PySem.ESX.exTail) = some (some (.builtin "Exception.__init__")) := by
    unfold PySem.W.ks_superIn at sI
    rw [hcl, Option.bind_some] at sI
    rw [PySem.ESX.drop_own C] at sI
    exact sI
  have TE : TX.TxtErr P K mg C D fI cc cda :=
    { gC := PySem.W.mg_of X G aC, cls := ⟨nm, q, N, bs, sn, sub, ab, col, dd, k0, k1, k2, k3, k5, xC⟩, sa := sa, ga := ga, gg := gg, noN := nb, iC := iC, tC := tI, kC := kC, exC := eB, exE := eE, tyC := tC, hdC := hC, al := al, noAny := nA,
      te := PySem.W.exm_ref eB hC tC sCC, noSuper := PySem.W.mg_none_of X G z1, noStr := PySem.W.mg_none_of X G z2, cell := ⟨cl, cld, csl, lc⟩, code := ⟨ccl, cdd, vs, ccs, tf, lk, hv2⟩, top := htop, fn := ⟨_, _, _, _, _, _, _, l0, c0⟩ }
  have ZI : IsaT K C D := { hcl := by rw [hcl]; rfl, ha := ha, hn := hn, ht := ht, hm := hm, kit := kit }
  have T : Tops K mg aW aL :=
    { fig := ⟨tF, by rw [show S FIG = Str.ofString "0123456789" by decide +kernel]; exact PySem.W.mg_of X G gF⟩, «let» := ⟨tL, by rw [show S LET = Str.ofString "abcdefghijklmnopqrstuvwxyz" by decide +kernel]; exact PySem.W.mg_of X G gL⟩,
      sgn := ⟨tS, by rw [show S SGN = Str.ofString "()[],;:=+-*<" by decide +kernel]; exact PySem.W.mg_of X G gS⟩, w := PySem.W.mg_of X G gW, l := PySem.W.mg_of X G gG,
      wT := sqt_of lW vW (by decide +kernel) (by decide +kernel), lT := sqt_of lL vL (by decide +kernel) (by decide +kernel), ml := PySem.W.mg_none_of X G y1 }
  have F1 := fun_mk (st := sRun) l1 c1 p1
  have F2 := fun_mk (st := sTok) l2 c2 p2
  have F3 := fun_mk (st := sState) l3 c3 p3
  have F4 := fun_mk (st := sDraw) l4 c4 p4
  have F5 := fun_mk (st := sSome) l5 c5 p5
  have F6 := fun_mk (st := sLaw) l6 c6 p6
  have b1 := F1.binds (ps := ["text", "at", "allowed"]) fun _ _ _ _ _ _ us hl => match us, hl with | [_, _, _], _ => rfl
  have b2 := F2.binds (ps := ["text"]) fun _ _ _ _ _ _ us hl => match us, hl with | [_], _ => rfl
  have b3 := F3.binds (ps := ["script"]) fun _ _ _ _ _ _ us hl => match us, hl with | [_], _ => rfl
  have b4 := F4.binds (ps := ["state", "many"]) fun _ _ _ _ _ _ us hl => match us, hl with | [_, _], _ => rfl
  have b5 := F5.binds (ps := ["state"]) fun _ _ _ _ _ _ us hl => match us, hl with | [_], _ => rfl
  exact ⟨PySem.W.fnOf "law" "law" (defArgs sLaw) (defBody sLaw) (defScope sLaw) .none kV6 dc6 pm6 an6 cd6 ct6, fun s v => .of_eq rfl, fun base _ _ =>
    ok_law F6 T TE ZI F1 b1 (PySem.W.mg_of X G a1) F2 b2 (PySem.W.mg_of X G a2) F4 b4 (PySem.W.mg_of X G a4) F3 b3 (PySem.W.mg_of X G a3) F5 b5 (PySem.W.mg_of X G a5) (PySem.W.mg_of X G aD)
      (PySem.W.mg_none_of X G y2) (PySem.W.mg_none_of X G y3) (PySem.W.mg_none_of X G y4) (PySem.W.mg_none_of X G y5)⟩
end K1
open PySem PySem.W PyProof.Rows
set_option maxRecDepth 100000 in
set_option maxHeartbeats 0 in
theorem PySem.Challenge.cw_stagesworn_k01_tokens_holds : PySem.Challenge.rw_stagesworn_k01_tokens.Holds := by
  w_on; o_law; k_head; (case hw => w_witness2)
  k_fill
  refine L2.walk_of (l := PySem.Challenge.rw_stagesworn_k01_tokens) (n := 63) (k := 3) (x := "script") (CX := fun _ => L2.CX0) (sp := fun w => K1.spLaw _) rfl (by decide) rfl ⟨rfl, by decide, by decide⟩ (fun w h Y => PySem.W.kIn_of Y) ?F (fun _ _ a ns hl _ hS => ⟨a, ns, rfl, hS, hl, fun _ => rfl⟩) (fun _ _ _ _ _ h => h)
  case F =>
    intro w mg fa h KX G hmg
    refine' K1.all_mk KX G hmg ?aC ?aD ?xC ?sa ?ga ?gg ?nb ?iC ?tI ?kC ?eB ?eE ?tC ?hC ?sI ?nA ?sCC ?z1 ?z2 ?l0 ?c0 ?lc ?lk ?hv2 ?htop ?ha ?hn ?ht ?hm ?kit ?gF ?gL ?gS ?gW ?gG ?lW ?lL ?vW ?vL ?y1 ?y2 ?y3 ?y4 ?y5 ?a1 ?l1 ?c1 ?p1 ?a2 ?l2 ?c2 ?p2 ?a3 ?l3 ?c3 ?p3 ?a4 ?l4 ?c4 ?p4 ?a5 ?l5 ?c5 ?p5 ?a6 ?l6 ?c6 ?p6
    (case aC => k_is); (case aD => k_is); (case xC => k_is); (case sa => k_is); (case ga => k_is); (case gg => k_is); (case nb => k_is)
    (case iC => k_is); (case tI => k_is); (case kC => k_is); (case eB => k_is); (case eE => k_is); (case tC => k_is); (case hC => k_is)
    (case sI => ks_is); (case nA => k_is); (case sCC => first | k_is | rfl); (case z1 => k_is); (case z2 => k_is)
    (case l0 => k_is); (case c0 => k_is); (case lc => k_is); (case lk => k_is); (case hv2 => rfl); (case htop => decide +kernel)
    (case ha => k_is); (case hn => k_is); (case ht => k_is); (case hm => k_is); (case kit => kit_is)
    (case gF => k_is); (case gL => k_is); (case gS => k_is); (case gW => k_is); (case gG => k_is); (case lW => k_is); (case lL => k_is)
    (case vW => decide +kernel); (case vL => decide +kernel)
    (case y1 => k_is); (case y2 => k_is); (case y3 => k_is); (case y4 => k_is); (case y5 => k_is)
    (case a1 => k_is); (case l1 => k_is); (case c1 => k_is); (case p1 => k_is)
    (case a2 => k_is); (case l2 => k_is); (case c2 => k_is); (case p2 => k_is)
    (case a3 => k_is); (case l3 => k_is); (case c3 => k_is); (case p3 => k_is)
    (case a4 => k_is); (case l4 => k_is); (case c4 => k_is); (case p4 => k_is)
    (case a5 => k_is); (case l5 => k_is); (case c5 => k_is); (case p5 => k_is)
    (case a6 => k_is); (case l6 => k_is); (case c6 => k_is); (case p6 => k_is)
#print axioms PySem.Challenge.cw_stagesworn_k01_tokens_holds
