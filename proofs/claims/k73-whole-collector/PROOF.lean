import PyProof.Rows.All
import Wide.All
import OpenK.AllK
import Wide.FinOn
import HandS.ForMost
import HandS.TryOnly
import HandS.Wide
import HandS.TupAny
import HandS.Walk
import HandS.Zip
import HandS.Deep
import HandS.IsInst
import HandS.Text
import HandS.Flow
import HandS.Dict
import HandS.Iter
import KE.GoesEnum
import KE.SortData
import HandS.SortInts
import HandS.Conv
import HandS.AnyAll
import HandS.EndTab
import HandS.EndOwn
import HandS.Nested
import HandS.Style
import PySem.Challenge.RW_stagesworn_k73_whole_collector
set_option Elab.async false
set_option linter.all false
set_option maxRecDepth 100000
set_option maxHeartbeats 4000000
/-! readings over data, without the heap: what never changes (F) apart from what a def owns -/
namespace PL
open PySem PySem.Spec PyProof.Rows L2
abbrev D := PyData
/-- what a frame owns: a list, a dict -/
inductive OC where
  | lst (xs : List D) | dic (kvs : List (Key × D))
/-- what a slot holds: data that stands, a thing of one's own, a raw value, a dict that stands -/
inductive PV where
  | imm (d : D) | own (o : OC) | raw (v : V) | std (a : Addr) (kvs : List (Key × D))
  /-- a pair that a def gives: data, and a thing of one's own -/
  | two (d : D) (o : OC)
abbrev Ev := List (Option PV)
/-- what may turn while a def runs, and its law -/
structure Dl where
  M : Addr → Prop
  J : Hp → Prop
structure Dl.Ok (e : Dl) (F H : Hp) : Prop where
  sub : Same F H
  mu : ∀ b, e.M b → F b = none ∧ ∃ o, H b = some o
  inv : e.J H
/-- the law hangs on what may turn alone -/
def Dl.Stay (e : Dl) : Prop := ∀ H1 H2 : Hp, e.J H1 → (∀ b, e.M b → H2 b = H1 b) → e.J H2
/-- from (F, H) to (F', H'): more is frozen, all that stood stands but for what may turn -/
structure Gr (e : Dl) (F H F' H' : Hp) : Prop where
  fz : Same F F'
  new : ∀ b o, F' b = some o → F b = none → H b = none
  st : ∀ b o, H b = some o → ¬ e.M b → H' b = some o
  ok : e.Ok F' H'
noncomputable def Msk (M : Addr → Prop) (H : Hp) : Hp := fun b => open Classical in if M b then none else H b
theorem msk_some {M : Addr → Prop} {H : Hp} {b : Addr} {o : HO} : Msk M H b = some o ↔ ¬ M b ∧ H b = some o := by
  unfold Msk
  by_cases h : M b
  · rw [if_pos h]
    simp [h]
  · rw [if_neg h]
    simp [h]
theorem msk_sub {M : Addr → Prop} {H : Hp} : Same (Msk M H) H := fun _ _ h => (msk_some.mp h).2
theorem Dl.Ok.msk {e : Dl} {F H : Hp} (r : e.Ok F H) : Same F (Msk e.M H) := fun b o h => msk_some.mpr ⟨fun m => (by rw [(r.mu b m).1] at h; cases h), r.sub b o h⟩
section
variable {e : Dl} {F H F1 H1 F2 H2 : Hp}
theorem Gr.refl (r : e.Ok F H) : Gr e F H F H := ⟨Same.refl _, fun b o h z => (by rw [z] at h; cases h), fun _ _ h _ => h, r⟩
theorem Gr.trans (a : Gr e F H F1 H1) (r : e.Ok F H) (b : Gr e F1 H1 F2 H2) : Gr e F H F2 H2 where
  fz := a.fz.trans b.fz
  new := fun x o h z => by
    cases q : F1 x with
    | some u => exact a.new x u q z
    | none =>
      have h1 := b.new x o h q
      cases q2 : H x with
      | none => rfl
      | some u =>
        by_cases m : e.M x
        · have := (b.ok.mu x m).1
          rw [this] at h
          cases h
        · have := a.st x u q2 m
          rw [h1] at this
          cases this
  st := fun x o h m => b.st x o (a.st x o h m) m
  ok := b.ok
theorem Gr.msk (a : Gr e F H F1 H1) : Same (Msk e.M H) (Msk e.M H1) := fun b o h => by
  obtain ⟨m, q⟩ := msk_some.mp h
  exact msk_some.mpr ⟨m, a.st b o q m⟩
end
/-! ### data in a greater heap -/
theorem SqLmono {K : PySem.W.Frag} {H H' : Hp} {a : Addr} {xs : List V} (s : Same H H') (h : SqL K H a xs) : SqL K H' a xs := s.seq h
theorem SqTmono {K : PySem.W.Frag} {H H' : Hp} {a : Addr} {xs : List V} (s : Same H H') (h : SqT K H a xs) : SqT K H' a xs := by
  rcases h with (h | ⟨o, h⟩) | h
  · exact .inl (.inl (s _ _ h))
  · exact .inl (.inr ⟨o, s _ _ h⟩)
  · exact .inr h
mutual
theorem dpMono {K : PySem.W.Frag} {H H' : Hp} (s : Same H H') : ∀ (d : D) {v : V}, Dp K H v d → Dp K H' v d
  | .none, _, h => by cases h; exact .non
  | .bool b, _, h => by cases h; exact .bl b
  | .int i, _, h => by cases h; exact .int i
  | .str x, _, h => by cases h; exact .str x
  | .list ds, _, h => by cases h with | lst a b => exact .lst (SqLmono s a) (dpAllMono s ds b)
  | .tuple ds, _, h => by cases h with | tup a b => exact .tup (SqTmono s a) (dpAllMono s ds b)
  | .dict _, _, h => by cases h
theorem dpAllMono {K : PySem.W.Frag} {H H' : Hp} (s : Same H H') : ∀ (ds : List D) {vs : List V}, DpAll K H vs ds → DpAll K H' vs ds
  | [], _, h => by cases h; exact .nil
  | d :: ds, _, h => by cases h with | cons a b => exact .cons (dpMono s d a) (dpAllMono s ds b)
end
section
variable {K : PySem.W.Frag} {H : Hp}
theorem DpAll.len : ∀ {vs : List V} {ds : List D}, DpAll K H vs ds → vs.length = ds.length
  | _, _, .nil => rfl
  | _, _, .cons _ t => by rw [List.length_cons, List.length_cons, DpAll.len t]
theorem DpAll.get : ∀ {vs : List V} {ds : List D} {i : Nat} {d : D}, DpAll K H vs ds → ds[i]? = some d → ∃ v, vs[i]? = some v ∧ Dp K H v d
  | _, _, _, _, .nil, h => by simp at h
  | _, _, 0, _, .cons a _, h => by
    have e := Option.some.inj h
    subst e
    exact ⟨_, rfl, a⟩
  | _, _, i + 1, _, .cons _ t, h => by
    obtain ⟨v, h1, h2⟩ := DpAll.get (i := i) t (by simpa using h)
    exact ⟨v, by simpa using h1, h2⟩
theorem DpAll.back : ∀ {vs : List V} {ds : List D} {i : Nat} {v : V}, DpAll K H vs ds → vs[i]? = some v → ∃ d, ds[i]? = some d ∧ Dp K H v d
  | _, _, _, _, .nil, h => by simp at h
  | _, _, 0, _, .cons a _, h => by
    have e := Option.some.inj h
    subst e
    exact ⟨_, rfl, a⟩
  | _, _, i + 1, _, .cons _ t, h => by
    obtain ⟨v, h1, h2⟩ := DpAll.back (i := i) t (by simpa using h)
    exact ⟨v, by simpa using h1, h2⟩
theorem DpAll.app : ∀ {vs ws : List V} {ds es : List D}, DpAll K H vs ds → DpAll K H ws es → DpAll K H (vs ++ ws) (ds ++ es)
  | _, _, _, _, .nil, h => h
  | _, _, _, _, .cons a t, h => .cons a (DpAll.app t h)
theorem DpAll.take : ∀ {vs : List V} {ds : List D} (n : Nat), DpAll K H vs ds → DpAll K H (vs.take n) (ds.take n)
  | _, _, 0, _ => .nil
  | _, _, _ + 1, .nil => .nil
  | _, _, n + 1, .cons a t => .cons a (DpAll.take n t)
theorem DpAll.drop : ∀ {vs : List V} {ds : List D} (n : Nat), DpAll K H vs ds → DpAll K H (vs.drop n) (ds.drop n)
  | _, _, 0, h => h
  | _, _, _ + 1, .nil => .nil
  | _, _, n + 1, .cons _ t => DpAll.drop n t
theorem DpAll.set {v : V} {d : D} (h : Dp K H v d) : ∀ {vs : List V} {ds : List D} (n : Nat), DpAll K H vs ds → DpAll K H (vs.set n v) (ds.set n d)
  | _, _, _, .nil => .nil
  | _, _, 0, .cons _ t => .cons h t
  | _, _, n + 1, .cons a t => .cons a (DpAll.set h n t)
theorem DpAll.nil' {vs : List V} (h : DpAll K H vs []) : vs = [] := by cases h; rfl
theorem DpAll.erase : ∀ {vs : List V} {ds : List D} (n : Nat), DpAll K H vs ds → DpAll K H (vs.eraseIdx n) (ds.eraseIdx n)
  | _, _, _, .nil => .nil
  | _, _, 0, .cons _ t => t
  | _, _, n + 1, .cons a t => .cons a (DpAll.erase n t)
theorem DpAll.rep {vs : List V} {ds : List D} (h : DpAll K H vs ds) : ∀ n : Nat, DpAll K H (List.replicate n vs).flatten (List.replicate n ds).flatten
  | 0 => .nil
  | n + 1 => by
    rw [List.replicate_succ, List.flatten_cons, List.replicate_succ, List.flatten_cons]
    exact DpAll.app h (DpAll.rep h n)
theorem DpAll.atI {vs : List V} {ds : List D} {i : Int} {d : D} (h : DpAll K H vs ds) (q : atI ds i = some d) : ∃ v, atI vs i = some v ∧ Dp K H v d := by
  unfold L2.atI at q ⊢
  rw [DpAll.len h]
  cases e : ixN ds.length i with
  | none => rw [e] at q; cases q
  | some j =>
    rw [e] at q
    exact DpAll.get h q
theorem DpAll.dropLast {vs : List V} {ds : List D} (h : DpAll K H vs ds) : DpAll K H vs.dropLast ds.dropLast := by
  rw [List.dropLast_eq_take, List.dropLast_eq_take, DpAll.len h]
  exact DpAll.take _ h
theorem DpAll.rev : ∀ {vs : List V} {ds : List D}, DpAll K H vs ds → DpAll K H vs.reverse ds.reverse
  | _, _, .nil => .nil
  | _, _, .cons a t => by
    rw [List.reverse_cons, List.reverse_cons]
    exact DpAll.app (DpAll.rev t) (.cons a .nil)
end
/-! ### slots -/
inductive KvAll (K : PySem.W.Frag) (F : Hp) : List (Key × V) → List (Key × D) → Prop
  | nil : KvAll K F [] []
  | cons {k : Key} {v : V} {d : D} {ks : List (Key × V)} {kvs : List (Key × D)} : Dp K F v d → KvAll K F ks kvs → KvAll K F ((k, v) :: ks) ((k, d) :: kvs)
theorem KvAll.mono {K : PySem.W.Frag} {F F' : Hp} (s : Same F F') : ∀ {ks : List (Key × V)} {kvs : List (Key × D)}, KvAll K F ks kvs → KvAll K F' ks kvs
  | _, _, .nil => .nil
  | _, _, .cons a t => .cons (dpMono s _ a) (KvAll.mono s t)
def OCat (K : PySem.W.Frag) (F H : Hp) (a : Addr) : OC → Prop
  | .lst xs => ∃ vs, H a = some (.lst vs) ∧ DpAll K F vs xs
  | .dic kvs => ∃ ks, H a = some (.dK ks) ∧ KvAll K F ks kvs
theorem OCat.mono {K : PySem.W.Frag} {F F' H H' : Hp} {a : Addr} {o : OC} (s : Same F F') (h : ∀ x, H a = some x → H' a = some x) (q : OCat K F H a o) : OCat K F' H' a o := by
  cases o with
  | lst xs =>
    obtain ⟨vs, q1, q2⟩ := q
    exact ⟨vs, h _ q1, dpAllMono s xs q2⟩
  | dic kvs =>
    obtain ⟨ks, q1, q2⟩ := q
    exact ⟨ks, h _ q1, q2.mono s⟩
theorem OCat.some {K : PySem.W.Frag} {F H : Hp} {a : Addr} {o : OC} (q : OCat K F H a o) : ∃ x, H a = some x := by
  cases o with
  | lst xs => exact ⟨_, q.choose_spec.1⟩
  | dic kvs => exact ⟨_, q.choose_spec.1⟩
/-- a dict that stands (locked) -/
def StdOk (K : PySem.W.Frag) (F : Hp) (v : V) (a : Addr) (kvs : List (Key × D)) : Prop := v = .ref a ∧ ∃ o ks, F a = some (.frz o (.dK ks)) ∧ KvAll K F ks kvs
theorem StdOk.mono {K : PySem.W.Frag} {F F' : Hp} {v : V} {a : Addr} {kvs : List (Key × D)} (s : Same F F') (h : StdOk K F v a kvs) : StdOk K F' v a kvs := by
  obtain ⟨h1, o, ks, h2, h3⟩ := h
  exact ⟨h1, o, ks, s _ _ h2, h3.mono s⟩
/-- the entry of a def -/
structure Ent extends Dl where
  F0 : Hp
  H0 : Hp
def SlotOk (K : PySem.W.Frag) (e : Ent) (F H : Hp) (v : V) : PV → Prop
  | .imm d => Dp K F v d
  | .own o => ∃ a, v = .ref a ∧ OCat K F H a o ∧ F a = none ∧ e.H0 a = none ∧ ¬ e.M a
  | .raw w => v = w
  | .std a kvs => StdOk K F v a kvs
  | .two _ _ => False
structure Rp (K : PySem.W.Frag) (e : Ent) (ρ : Ev) (F : Hp) (σ : L2.St) (H : Hp) : Prop where
  len : σ.length = ρ.length
  ok0 : e.toDl.Ok e.F0 e.H0
  gr : Gr e.toDl e.F0 e.H0 F H
  stay : e.toDl.Stay
  slots : ∀ (i : Nat) (p : PV), ρ[i]? = some (some p) → ∃ v, σ[i]? = some (some v) ∧ SlotOk K e F H v p
  apart : ∀ (i j : Nat) (x y : OC) (a : Addr), i ≠ j → ρ[i]? = some (some (.own x)) → ρ[j]? = some (some (.own y)) → σ[i]? = some (some (.ref a)) → σ[j]? ≠ some (some (.ref a))
section
variable {K : PySem.W.Frag} {e : Ent} {ρ : Ev} {σ : L2.St} {F H F' H' : Hp} {p : Addr} {o : HO}
theorem Rp.ok (r : Rp K e ρ F σ H) : e.toDl.Ok F H := r.gr.ok
theorem Rp.sub (r : Rp K e ρ F σ H) : Same F H := r.gr.ok.sub
theorem SlotOk.step {v : V} {pv : PV} (g : Gr e.toDl F H F' H') (q : SlotOk K e F H v pv) : SlotOk K e F' H' v pv := by
  cases pv with
  | imm d => exact dpMono g.fz d q
  | own oc =>
    obtain ⟨a, e1, e2, e3, e4, e5⟩ := q
    refine ⟨a, e1, e2.mono g.fz fun x h => g.st a x h e5, ?_, e4, e5⟩
    cases z : F' a with
    | none => rfl
    | some u =>
      obtain ⟨x, h⟩ := e2.some
      rw [g.new a u z e3] at h
      cases h
  | raw w => exact q
  | std a kvs => exact q.mono g.fz
  | two _ _ => exact q.elim
theorem Rp.step (r : Rp K e ρ F σ H) (g : Gr e.toDl F H F' H') : Rp K e ρ F' σ H' where
  len := r.len
  ok0 := r.ok0
  gr := r.gr.trans r.ok0 g
  stay := r.stay
  slots := fun i pv q => by
    obtain ⟨v, q1, q2⟩ := r.slots i pv q
    exact ⟨v, q1, q2.step g⟩
  apart := r.apart
theorem Rp.f0 (r : Rp K e ρ F σ H) (h : H p = none) : e.H0 p = none := by
  cases q : e.H0 p with
  | none => rfl
  | some o =>
    by_cases m : e.M p
    · obtain ⟨_, o, q⟩ := r.ok.mu p m
      rw [h] at q
      cases q
    · have := r.gr.st p o q m
      rw [h] at this
      cases this
theorem Dl.Ok.fM {e : Dl} (r : e.Ok F H) (h : H p = none) : ¬ e.M p := fun m => by
  obtain ⟨_, o, q⟩ := r.mu p m
  rw [h] at q
  cases q
theorem sameNew {H : Hp} {p : Addr} {o : HO} (h : H p = none) : Same H (upd H p o) := fun b x q => by
  rw [upd_ne (ne_of_none q h)]
  exact q
/-- a new thing that no one holds yet -/
theorem Gr.newO {e : Dl} (r : e.Ok F H) (s : e.Stay) (h : H p = none) : Gr e F H F (upd H p o) where
  fz := Same.refl _
  new := fun b u q z => by rw [z] at q; cases q
  st := fun b u q _ => sameNew h b u q
  ok := ⟨r.sub.trans (sameNew h), fun b m => ⟨(r.mu b m).1, by
    obtain ⟨_, x, q⟩ := r.mu b m
    exact ⟨x, sameNew h b x q⟩⟩, s _ _ r.inv fun b m => by
    obtain ⟨_, x, q⟩ := r.mu b m
    rw [upd_ne (ne_of_none q h)]⟩
/-- a thing that came since then is frozen -/
theorem Gr.freeze {e : Dl} (r : e.Ok F H) (g : Gr e F H F' H') (h : H' p = some o) (hn : H p = none) (hF : F' p = none) (hm : ¬ e.M p) : Gr e F H (upd F' p o) H' where
  fz := g.fz.trans (sameNew hF)
  new := fun b u q z => by
    by_cases hb : b = p
    · rw [hb]
      exact hn
    · rw [upd_ne hb] at q
      exact g.new b u q z
  st := g.st
  ok := ⟨fun b x q => by
      by_cases hb : b = p
      · subst hb
        rw [upd_same] at q
        rw [← q]
        exact h
      · rw [upd_ne hb] at q
        exact g.ok.sub b x q, fun b m => ⟨by
      rw [upd_ne (fun z => hm (by rw [← z]; exact m))]
      exact (g.ok.mu b m).1, (g.ok.mu b m).2⟩, g.ok.inv⟩
/-- a new frozen thing -/
theorem Gr.newF {e : Dl} (r : e.Ok F H) (s : e.Stay) (h : H p = none) : Gr e F H (upd F p o) (upd H p o) :=
  Gr.freeze r (Gr.newO r s h) upd_same h (r.sub.free h) (r.fM h)
end
/-- a sequence that is to be read -/
def SeqOk (K : PySem.W.Frag) (M : Addr → Prop) (F H : Hp) (v : V) (isT : Bool) (xs : List D) : Prop := ∃ a vs, v = .ref a ∧ (if isT = true then SqT K (Msk M H) a vs else SqL K (Msk M H) a vs) ∧ DpAll K F vs xs
theorem imp {X : Cx} {x : Expr} {t t' : TE} (h : PE X x t) (k : ∀ σ H Q, t' σ H Q → t σ H Q) : PE X x t' := ⟨fun pins s σ H Q I q => h.run pins s σ H Q I (k σ H Q q)⟩
theorem impT {X : Cx} {x : Expr} {t t' : TT} (h : L2.PT X x t) (k : ∀ σ H Q, t' σ H Q → t σ H Q) : L2.PT X x t' := ⟨fun pins s σ H Q I q => h.run pins s σ H Q I (k σ H Q q)⟩
theorem impA {X : Cx} {x : List Expr} {t t' : TA} (h : PA X x t) (k : ∀ σ H Q, t' σ H Q → t σ H Q) : PA X x t' := ⟨fun pos pins s σ H Q I q => h.run pos pins s σ H Q I (k σ H Q q)⟩
theorem impS {X : Cx} {x : Stmt} {t t' : TS} (h : PS X x t) (k : ∀ D σ H, t' D σ H → t D σ H) : PS X x t' := ⟨fun pins s σ H D I q => h.run pins s σ H D I (k D σ H q)⟩
theorem impSs {X : Cx} {x : List Stmt} {t t' : TS} (h : PSs X x t) (k : ∀ D σ H, t' D σ H → t D σ H) : PSs X x t' := ⟨fun pins s σ H D I q => h.run pins s σ H D I (k D σ H q)⟩
end PL
set_option Elab.async false
set_option linter.all false
set_option maxRecDepth 100000
set_option maxHeartbeats 4000000
namespace PL
open PySem PySem.Spec PyProof.Rows L2
/-! ### kinds of worths -/
structure Kd (e : Ent) (α : Type) where
  Ok : Hp → Hp → Hp → V → α → Prop
  step : ∀ {H F' H' F'' H'' : Hp} {v : V} {x : α}, Gr e.toDl F' H' F'' H'' → Ok H F' H' v x → Ok H F'' H'' v x
  weak : ∀ {F0 H0 F H F' H' : Hp} {v : V} {x : α}, Gr e.toDl F0 H0 F H → Ok H F' H' v x → Ok H0 F' H' v x
theorem SeqOk.step {K : PySem.W.Frag} {e : Dl} {F H F' H' : Hp} {v : V} {b : Bool} {xs : List D} (g : Gr e F H F' H') (q : SeqOk K e.M F H v b xs) : SeqOk K e.M F' H' v b xs := by
  obtain ⟨a, vs, e1, e2, e3⟩ := q
  refine ⟨a, vs, e1, ?_, dpAllMono g.fz xs e3⟩
  cases b with
  | true =>
    rw [if_pos rfl] at e2 ⊢
    exact SqTmono g.msk e2
  | false =>
    rw [if_neg Bool.false_ne_true] at e2 ⊢
    exact SqLmono g.msk e2
def kD (K : PySem.W.Frag) (e : Ent) : Kd e D := ⟨fun _ F' _ v d => Dp K F' v d, fun g q => dpMono g.fz _ q, fun _ q => q⟩
def kQ (K : PySem.W.Frag) (e : Ent) : Kd e (Bool × List D) := ⟨fun _ F' H' v x => SeqOk K e.M F' H' v x.1 x.2, fun g q => SeqOk.step g q, fun _ q => q⟩
def NOk (K : PySem.W.Frag) (e : Ent) (H F' H' : Hp) (v : V) (oc : OC) : Prop := ∃ a, v = .ref a ∧ OCat K F' H' a oc ∧ F' a = none ∧ H a = none ∧ ¬ e.M a
theorem NOk.step {K : PySem.W.Frag} {e : Ent} {H F' H' F'' H'' : Hp} {v : V} {oc : OC} (g : Gr e.toDl F' H' F'' H'') (q : NOk K e H F' H' v oc) : NOk K e H F'' H'' v oc := by
  obtain ⟨a, e1, e2, e3, e4, e5⟩ := q
  refine ⟨a, e1, e2.mono g.fz fun x h => g.st a x h e5, ?_, e4, e5⟩
  cases z : F'' a with
  | none => rfl
  | some u =>
    obtain ⟨x, h⟩ := e2.some
    rw [g.new a u z e3] at h
    cases h
theorem NOk.weak {K : PySem.W.Frag} {e : Ent} {F0 H0 F H F' H' : Hp} {v : V} {oc : OC} (g : Gr e.toDl F0 H0 F H) (q : NOk K e H F' H' v oc) : NOk K e H0 F' H' v oc := by
  obtain ⟨a, e1, e2, e3, e4, e5⟩ := q
  refine ⟨a, e1, e2, e3, ?_, e5⟩
  cases z : H0 a with
  | none => rfl
  | some u =>
    have := g.st a u z e5
    rw [e4] at this
    cases this
def kN (K : PySem.W.Frag) (e : Ent) : Kd e OC := ⟨NOk K e, fun g q => q.step g, fun g q => q.weak g⟩
def kR (e : Ent) : Kd e V := ⟨fun _ _ _ v w => v = w, fun _ q => q, fun _ q => q⟩
abbrev TX (α : Type) := Ev → (α → Prop) → Prop
def MonoX {α : Type} (t : TX α) : Prop := ∀ ρ (Q Q' : α → Prop), (∀ d, Q d → Q' d) → t ρ Q → t ρ Q'
def lift (K : PySem.W.Frag) (e : Ent) {α : Type} (k : Kd e α) (t : TX α) : TE := fun σ H Q => ∃ F ρ, Rp K e ρ F σ H ∧ t ρ fun d => ∀ v F' H', Gr e.toDl F H F' H' → k.Ok H F' H' v d → Q v H'
structure PX (X : Cx) (e : Ent) {α : Type} (k : Kd e α) (x : Expr) (t : TX α) : Prop where
  mono : MonoX t
  pe : PE X x (lift X.K e k t)
abbrev PD (X : Cx) (e : Ent) := PX X e (kD X.K e)
abbrev PQ (X : Cx) (e : Ent) := PX X e (kQ X.K e)
abbrev PN (X : Cx) (e : Ent) := PX X e (kN X.K e)
abbrev PR (X : Cx) (e : Ent) := PX X e (kR e)
def liftT (K : PySem.W.Frag) (e : Ent) (t : TX Bool) : TT := fun σ H Q => ∃ F ρ, Rp K e ρ F σ H ∧ t ρ fun b => ∀ F' H', Gr e.toDl F H F' H' → Q b H'
structure PB (X : Cx) (e : Ent) (x : Expr) (t : TX Bool) : Prop where
  mono : MonoX t
  pt : L2.PT X x (liftT X.K e t)
structure PBw (X : Cx) (e : Ent) (x : Expr) (t : TX Bool) : Prop where
  mono : MonoX t
  pw : PW X x (liftT X.K e t)
def liftA (K : PySem.W.Frag) (e : Ent) (t : TX (List D)) : TA := fun σ H Q => ∃ F ρ, Rp K e ρ F σ H ∧ t ρ fun ds => ∀ vs F' H', Gr e.toDl F H F' H' → DpAll K F' vs ds → Q vs H'
structure PAd (X : Cx) (e : Ent) (x : List Expr) (t : TX (List D)) : Prop where
  mono : MonoX t
  pa : PA X x (liftA X.K e t)
section
variable {X : Cx} {e : Ent} {α β γ : Type} {k1 : Kd e α} {k2 : Kd e β} {k3 : Kd e γ} {a b : Expr} {ta : TX α} {tb : TX β} {pos : Pos}
abbrev RX (α β γ : Type) := α → β → (γ → Prop) → Prop
def Mono2 (r : RX α β γ) : Prop := ∀ x y (Q Q' : γ → Prop), (∀ d, Q d → Q' d) → r x y Q → r x y Q'
def xBin (r : RX α β γ) (ta : TX α) (tb : TX β) : TX γ := fun ρ Q => ta ρ fun x => tb ρ fun y => r x y Q
theorem xBin_mono {r : RX α β γ} (mr : Mono2 r) (ma : MonoX ta) (mb : MonoX tb) : MonoX (xBin r ta tb) := fun ρ Q Q' h q => ma ρ _ _ (fun x hx => mb ρ _ _ (fun y hy => mr x y Q Q' h hy) hx) q
/-- what is wanted behind an expression, over data -/
abbrev Fin (k : Kd e γ) (F H : Hp) (Q : VK) : γ → Prop := fun d => ∀ v F' H', Gr e.toDl F H F' H' → k.Ok H F' H' v d → Q v H'
theorem Fin.step {k : Kd e γ} {F H F1 H1 : Hp} {Q : VK} {d : γ} (r : e.toDl.Ok F H) (g : Gr e.toDl F H F1 H1) (h : Fin k F H Q d) : Fin k F1 H1 Q d := fun v F' H' g' q => h v F' H' (g.trans r g') (k.weak g q)
theorem seq2 {K : PySem.W.Frag} {r : RX α β γ} (mr : Mono2 r) (ma : MonoX ta) (mb : MonoX tb) {σ : L2.St} {H : Hp} {Q : VK}
    (h : lift K e k3 (xBin r ta tb) σ H Q) {R : V → V → Hp → Prop}
    (k : ∀ ρ F H0 H1 H2 v w x y, Rp K e ρ F σ H2 → k1.Ok H0 F H2 v x → k2.Ok H1 F H2 w y → r x y (Fin k3 F H2 Q) → R v w H2) :
    lift K e k1 ta σ H fun v H1 => lift K e k2 tb σ H1 fun w H2 => R v w H2 := by
  obtain ⟨F, ρ, rp, q⟩ := h
  refine ⟨F, ρ, rp, ma ρ _ _ (fun x hx v F1 H1 s1 d1 => ?_) q⟩
  refine ⟨F1, ρ, rp.step s1, mb ρ _ _ (fun y hy w F2 H2 s2 d2 => ?_) hx⟩
  exact k ρ F2 H H1 H2 v w x y ((rp.step s1).step s2) (k1.step s2 d1) d2 (mr x y _ _ (fun d hd => Fin.step rp.ok (s1.trans rp.ok s2) hd) hy)
theorem px_op {op : Operator} {r : R2} {rd : RX α β γ} (ho : OpR X (binaryOp op) r) (mr : Mono2 rd) (ha : PX X e k1 a ta) (hb : PX X e k2 b tb)
    (k : ∀ ρ F σ H0 H1 H v w x y Q, Rp X.K e ρ F σ H → k1.Ok H0 F H v x → k2.Ok H1 F H w y → rd x y (Fin k3 F H Q) → r v w H Q) : PX X e k3 (.BinOp a op b pos) (xBin rd ta tb) :=
  ⟨xBin_mono mr ha.mono hb.mono, imp (pe_op ho ha.pe hb.pe) fun σ H Q h => seq2 mr ha.mono hb.mono h fun ρ F H0 H1 H2 v w x y rp dv dw q => k ρ F σ H0 H1 H2 v w x y Q rp dv dw q⟩
/-- a comparison -/
structure PCx (X : Cx) (e : Ent) (op : CmpOp) (a b : Expr) (t : TX D) : Prop where
  mono : MonoX t
  pc : PC X op a b (lift X.K e (kD X.K e) t)
theorem px_cmp {op : CmpOp} {r : R2} {rd : RX α β D} (ho : OpR X (compareOp op) r) (mr : Mono2 rd) (ha : PX X e k1 a ta) (hb : PX X e k2 b tb)
    (k : ∀ ρ F σ H0 H1 H v w x y Q, Rp X.K e ρ F σ H → k1.Ok H0 F H v x → k2.Ok H1 F H w y → rd x y (Fin (kD X.K e) F H Q) → r v w H Q) : PCx X e op a b (xBin rd ta tb) :=
  ⟨xBin_mono mr ha.mono hb.mono, ⟨fun pins s σ H Q I h => binT ha.pe hb.pe I (seq2 (k3 := kD X.K e) (R := fun v w H2 => r v w H2 Q) mr ha.mono hb.mono h fun ρ F H0 H1 H2 v w x y rp dv dw q => k ρ F σ H0 H1 H2 v w x y Q rp dv dw q) fun v u s2 x y H2 I2 rx ry q => ho pins s2 σ H2 x y v u Q I2 rx ry q⟩⟩
theorem pd_c {op : CmpOp} {t : TX D} (h : PCx X e op a b t) (hm : behindInMarks op b = false) : PD X e (.Compare a [op] [b] pos) t := ⟨h.mono, pe_cmp h.pc hm⟩
def boolOf (d : D) (Q : Bool → Prop) : Prop := match d with | .bool c => Q c | _ => False
def xB (t : TX D) : TX Bool := fun ρ Q => t ρ fun d => boolOf d Q
theorem boolOf_mono {d : D} {Q Q' : Bool → Prop} (h : ∀ c, Q c → Q' c) (q : boolOf d Q) : boolOf d Q' := by
  unfold boolOf at q ⊢
  split at q
  · exact h _ q
  · exact q.elim
theorem xB_mono {t : TX D} (m : MonoX t) : MonoX (xB t) := fun ρ Q Q' h q => m ρ _ _ (fun d hd => boolOf_mono h hd) q
theorem px_ix {r : R2} {rd : RX α β γ} (ho : IxR X r) (mr : Mono2 rd) (ha : PX X e k1 a ta) (hb : PX X e k2 b tb) (hs : PlainIx b)
    (k : ∀ ρ F σ H0 H1 H v w x y Q, Rp X.K e ρ F σ H → k1.Ok H0 F H v x → k2.Ok H1 F H w y → rd x y (Fin k3 F H Q) → r v w H Q) : PX X e k3 (.Subscript a b pos) (xBin rd ta tb) :=
  ⟨xBin_mono mr ha.mono hb.mono, imp (pe_ix ho ha.pe hb.pe hs) fun σ H Q h => seq2 mr ha.mono hb.mono h fun ρ F H0 H1 H2 v w x y rp dv dw q => k ρ F σ H0 H1 H2 v w x y Q rp dv dw q⟩
abbrev R1 (α γ : Type) := α → (γ → Prop) → Prop
def Mono1 (r : R1 α γ) : Prop := ∀ x (Q Q' : γ → Prop), (∀ d, Q d → Q' d) → r x Q → r x Q'
def xUn (r : R1 α γ) (ta : TX α) : TX γ := fun ρ Q => ta ρ fun x => r x Q
theorem xUn_mono {r : R1 α γ} (mr : Mono1 r) (ma : MonoX ta) : MonoX (xUn r ta) := fun ρ Q Q' h q => ma ρ _ _ (fun x hx => mr x Q Q' h hx) q
theorem seq1 {K : PySem.W.Frag} {r : R1 α γ} (mr : Mono1 r) (ma : MonoX ta) {σ : L2.St} {H : Hp} {Q : VK} (h : lift K e k3 (xUn r ta) σ H Q) {R : V → Hp → Prop}
    (k : ∀ ρ F H0 H2 v x, Rp K e ρ F σ H2 → k1.Ok H0 F H2 v x → r x (Fin k3 F H2 Q) → R v H2) : lift K e k1 ta σ H R := by
  obtain ⟨F, ρ, rp, q⟩ := h
  refine ⟨F, ρ, rp, ma ρ _ _ (fun x hx v F1 H1 s1 d1 => ?_) q⟩
  exact k ρ F1 H H1 v x (rp.step s1) d1 (mr x _ _ (fun d hd => Fin.step rp.ok s1 hd) hx)
theorem px_un {op : UnaryOp} {r : V → Hp → VK → Prop} {rd : R1 α γ} (ho : UnR X (unaryOp op) r) (mr : Mono1 rd) (ha : PX X e k1 a ta)
    (k : ∀ ρ F σ H0 H v x Q, Rp X.K e ρ F σ H → k1.Ok H0 F H v x → rd x (Fin k3 F H Q) → r v H Q) : PX X e k3 (.UnaryOp op a pos) (xUn rd ta) :=
  ⟨xUn_mono mr ha.mono, imp (pe_un ho ha.pe) fun σ H Q h => seq1 mr ha.mono h fun ρ F H0 H2 v x rp dv q => k ρ F σ H0 H2 v x Q rp dv q⟩
/-- an argument list of one -/
theorem seqA1 {K : PySem.W.Frag} {r : R1 α γ} (mr : Mono1 r) (ma : MonoX ta) {σ : L2.St} {H : Hp} {Q : VK} (h : lift K e k3 (xUn r ta) σ H Q) {R : List V → Hp → Prop}
    (k : ∀ ρ F H0 H2 v x, Rp K e ρ F σ H2 → k1.Ok H0 F H2 v x → r x (Fin k3 F H2 Q) → R [v] H2) : tCons (lift K e k1 ta) tNil σ H R :=
  seq1 (R := fun v H1 => R [v] H1) mr ma h k
theorem px_b1 {id : String} {x : Str} {p : Pos} {r : List V → Hp → VK → Prop} {rd : R1 α γ} (hc : CallR X (.builtin id) r) (hg : Gl X x) (hm : X.mg x = none) (hv : bootBuiltins x = some (.builtin id)) (mr : Mono1 rd) (ha : PX X e k1 a ta)
    (k : ∀ ρ F σ H0 H v x Q, Rp X.K e ρ F σ H → k1.Ok H0 F H v x → rd x (Fin k3 F H Q) → r [v] H Q) (hn : x ≠ "__name__" := by decide) (hd : (x == ("__debug__" : Str)) = false := by decide)
    (he : starEach [a] X.env = (false, eval a X.env) :: starEach [] X.env := by rfl) (hpl : (backTo pos (starEach [] X.env)).any (·.1) = false := by rfl) : PX X e k3 (.Call (.Name x p) [a] [] pos) (xUn rd ta) :=
  ⟨xUn_mono mr ha.mono, imp (pe_callB hc hg hm hv (pa_cons ha.pe pa_nil he) hn hd he hpl) fun σ H Q h => seqA1 mr ha.mono h fun ρ F H0 H2 v x rp dv q => k ρ F σ H0 H2 v x Q rp dv q⟩
theorem px_ty1 {T : String} {x : Str} {p : Pos} {r : List V → Hp → VK → Prop} {rd : R1 α γ} (hc : CallR X (.type T) r) (hg : Gl X x) (hm : X.mg x = none) (hv : bootBuiltins x = some (.type T)) (mr : Mono1 rd) (ha : PX X e k1 a ta)
    (k : ∀ ρ F σ H0 H v x Q, Rp X.K e ρ F σ H → k1.Ok H0 F H v x → rd x (Fin k3 F H Q) → r [v] H Q) (hn : x ≠ "__name__" := by decide) (hd : (x == ("__debug__" : Str)) = false := by decide)
    (he : starEach [a] X.env = (false, eval a X.env) :: starEach [] X.env := by rfl) (hpl : (backTo pos (starEach [] X.env)).any (·.1) = false := by rfl) : PX X e k3 (.Call (.Name x p) [a] [] pos) (xUn rd ta) :=
  ⟨xUn_mono mr ha.mono, imp (pe_callTy hc hg hm hv (pa_cons ha.pe pa_nil he) hn hd he hpl) fun σ H Q h => seqA1 mr ha.mono h fun ρ F H0 H2 v x rp dv q => k ρ F σ H0 H2 v x Q rp dv q⟩
end
end PL
set_option Elab.async false
set_option linter.all false
set_option maxRecDepth 100000
set_option maxHeartbeats 4000000
namespace PL
open PySem PySem.Spec PyProof.Rows L2
section
variable {X : Cx} {e : Ent} {α β γ : Type} {k1 : Kd e α} {k2 : Kd e β} {k3 : Kd e γ} {a b : Expr} {pos : Pos}
/-- not, if it is asked -/
def ng : Bool → Bool → Bool
  | true, b => !b
  | false, b => b
/-! ### names and constants -/
def xC {α : Type} (d : α) : TX α := fun _ Q => Q d
theorem xC_mono {α : Type} {d : α} : MonoX (xC d) := fun _ _ _ h q => h _ q
theorem lift_now {K : PySem.W.Frag} {k : Kd e α} {d : α} {v : V} {σ : L2.St} {H : Hp} {Q : VK} {t : TX α} (h : lift K e k t σ H Q) (k' : ∀ F ρ, Rp K e ρ F σ H → t ρ (Fin k F H Q) → Q v H) : Q v H := by
  obtain ⟨F, ρ, rp, q⟩ := h
  exact k' F ρ rp q
theorem pd_int {i j} : PD X e (.Constant (.int i) j pos) (xC (.int i)) := ⟨xC_mono, imp pe_int fun σ H Q ⟨F, ρ, rp, q⟩ => q _ F H (.refl rp.ok) (.int _)⟩
theorem pd_bl {i j} : PD X e (.Constant (.bool i) j pos) (xC (.bool i)) := ⟨xC_mono, imp pe_bl fun σ H Q ⟨F, ρ, rp, q⟩ => q _ F H (.refl rp.ok) (.bl _)⟩
theorem pd_non {j} : PD X e (.Constant .none j pos) (xC .none) := ⟨xC_mono, imp pe_non fun σ H Q ⟨F, ρ, rp, q⟩ => q _ F H (.refl rp.ok) .non⟩
theorem pd_str {i j} : PD X e (.Constant (.str i) j pos) (xC (.str i)) := ⟨xC_mono, imp pe_str fun σ H Q ⟨F, ρ, rp, q⟩ => q _ F H (.refl rp.ok) (.str _)⟩
theorem pd_k {v : V} {d : D} (h : PE X a (tC v)) (hd : ∀ F, Dp X.K F v d) : PD X e a (xC d) := ⟨xC_mono, imp h fun σ H Q ⟨F, ρ, rp, q⟩ => q _ F H (.refl rp.ok) (hd F)⟩
theorem pr_k {v : V} (h : PE X a (tC v)) : PR X e a (xC v) := ⟨xC_mono, imp h fun σ H Q ⟨F, ρ, rp, q⟩ => q _ F H (.refl rp.ok) rfl⟩
def xV (i : Nat) : TX D := fun ρ Q => match ρ[i]? with | some (some (.imm d)) => Q d | _ => False
theorem xV_mono {i : Nat} : MonoX (xV i) := fun ρ Q Q' h q => by
  unfold xV at q ⊢
  split at q
  · exact h _ q
  · exact q.elim
theorem xV_of {i : Nat} {ρ : Ev} {Q : D → Prop} (q : xV i ρ Q) : ∃ d, ρ[i]? = some (some (.imm d)) ∧ Q d := by
  unfold xV at q
  split at q
  · rename_i d h
    exact ⟨d, h, q⟩
  · exact q.elim
theorem pd_v {i : Nat} (h : PE X a (tVar i)) : PD X e a (xV i) := ⟨xV_mono, imp h fun σ H Q ⟨F, ρ, rp, q⟩ => by
  obtain ⟨d, h1, q⟩ := xV_of q
  obtain ⟨v, h2, h3⟩ := rp.slots i _ h1
  exact ⟨v, h2, q v F H (.refl rp.ok) h3⟩⟩
def xVR (i : Nat) : TX V := fun ρ Q => match ρ[i]? with | some (some (.raw d)) => Q d | _ => False
theorem pr_v {i : Nat} (h : PE X a (tVar i)) : PR X e a (xVR i) := ⟨fun ρ Q Q' h q => by
  unfold xVR at q ⊢
  split at q
  · exact h _ q
  · exact q.elim, imp h fun σ H Q ⟨F, ρ, rp, q⟩ => by
  unfold xVR at q
  split at q
  · rename_i d h1
    obtain ⟨v, h2, h3⟩ := rp.slots i _ h1
    exact ⟨v, h2, q v F H (.refl rp.ok) h3⟩
  · exact q.elim⟩
/-! ### sequences to be read -/
/-- one's own list by its slot -/
def xVQ (i : Nat) : TX (Bool × List D) := fun ρ Q => match ρ[i]? with | some (some (.own (.lst xs))) => Q (false, xs) | _ => False
theorem pq_v {i : Nat} (h : PE X a (tVar i)) : PQ X e a (xVQ i) := ⟨fun ρ Q Q' h q => by
  unfold xVQ at q ⊢
  split at q
  · exact h _ q
  · exact q.elim, imp h fun σ H Q ⟨F, ρ, rp, q⟩ => by
  unfold xVQ at q
  split at q
  · rename_i xs h1
    obtain ⟨v, h2, a, e1, ⟨vs, e2, e3⟩, e4, e5, e6⟩ := rp.slots i _ h1
    refine ⟨v, h2, q v F H (.refl rp.ok) ⟨a, vs, e1, ?_, e3⟩⟩
    rw [if_neg Bool.false_ne_true]
    exact SqL.of (msk_some.mpr ⟨e6, e2⟩)
  · exact q.elim⟩
def seqOf (d : D) (Q : Bool × List D → Prop) : Prop := match d with | .tuple xs => Q (true, xs) | .list xs => Q (false, xs) | _ => False
def xQ (ta : TX D) : TX (Bool × List D) := fun ρ Q => ta ρ fun d => seqOf d Q
theorem seqOf_mono {d : D} {Q Q' : Bool × List D → Prop} (h : ∀ d, Q d → Q' d) (q : seqOf d Q) : seqOf d Q' := by
  unfold seqOf at q ⊢
  split at q
  · exact h _ q
  · exact h _ q
  · exact q.elim
theorem seqOk_dp {K : PySem.W.Frag} {e : Dl} {F H : Hp} {v : V} {d : D} {Q : Bool × List D → Prop} (ok : e.Ok F H) (h : Dp K F v d) (q : seqOf d Q) : ∃ b xs, SeqOk K e.M F H v b xs ∧ Q (b, xs) := by
  unfold seqOf at q
  split at q
  · cases h with
    | tup h1 h2 => exact ⟨true, _, ⟨_, _, rfl, by rw [if_pos rfl]; exact SqTmono ok.msk h1, h2⟩, q⟩
  · cases h with
    | lst h1 h2 => exact ⟨false, _, ⟨_, _, rfl, by rw [if_neg Bool.false_ne_true]; exact SqLmono ok.msk h1, h2⟩, q⟩
  · exact q.elim
theorem pq_d {ta : TX D} (h : PD X e a ta) : PQ X e a (xQ ta) := ⟨fun ρ Q Q' k q => h.mono ρ _ _ (fun d hd => seqOf_mono k hd) q, imp h.pe fun σ H Q ⟨F, ρ, rp, q⟩ => ⟨F, ρ, rp, h.mono ρ _ _ (fun d hd v F' H' g dv => by
    obtain ⟨b, xs, h1, h2⟩ := seqOk_dp (K := X.K) g.ok dv hd
    exact h2 v F' H' g h1) q⟩⟩
def lstOf (o : OC) (Q : List D → Prop) : Prop := match o with | .lst xs => Q xs | _ => False
theorem lstOf_mono {o : OC} {Q Q' : List D → Prop} (h : ∀ d, Q d → Q' d) (q : lstOf o Q) : lstOf o Q' := by
  cases o with
  | lst xs => exact h _ q
  | dic kvs => exact q
def xNQ (ta : TX OC) : TX (Bool × List D) := fun ρ Q => ta ρ fun d => lstOf d fun xs => Q (false, xs)
theorem pq_n {ta : TX OC} (h : PN X e a ta) : PQ X e a (xNQ ta) := ⟨fun ρ Q Q' k q => h.mono ρ _ _ (fun d hd => lstOf_mono (fun xs => k _) hd) q, imp h.pe fun σ H Q ⟨F, ρ, rp, q⟩ => ⟨F, ρ, rp, h.mono ρ _ _ (fun d hd v F' H' g dv => by
    cases d with
    | dic kvs => exact (show False from hd).elim
    | lst xs =>
      obtain ⟨a, e1, ⟨vs, e2, e3⟩, e4, e5, e6⟩ := dv
      exact (show Fin (kQ X.K e) F H Q (false, xs) from hd) v F' H' g ⟨a, vs, e1, by rw [if_neg Bool.false_ne_true]; exact SqL.of (msk_some.mpr ⟨e6, e2⟩), e3⟩) q⟩⟩
/-- a fresh list is frozen -/
def xND (ta : TX OC) : TX D := fun ρ Q => ta ρ fun d => lstOf d fun xs => Q (.list xs)
theorem pd_n {ta : TX OC} (h : PN X e a ta) : PD X e a (xND ta) := ⟨fun ρ Q Q' k q => h.mono ρ _ _ (fun d hd => lstOf_mono (fun xs => k _) hd) q, imp h.pe fun σ H Q ⟨F, ρ, rp, q⟩ => ⟨F, ρ, rp, h.mono ρ _ _ (fun d hd v F' H' g dv => by
    cases d with
    | dic kvs => exact (show False from hd).elim
    | lst xs =>
      obtain ⟨a, e1, ⟨vs, e2, e3⟩, e4, e5, e6⟩ := dv
      subst e1
      exact (show Fin (kD X.K e) F H Q (.list xs) from hd) _ (upd F' a (.lst vs)) H' (Gr.freeze rp.ok g e2 e5 e4 e6) (.lst (SqL.of upd_same) (dpAllMono (sameNew e4) xs e3))) q⟩⟩
theorem SeqOk.list {K : PySem.W.Frag} {M : Addr → Prop} {F H : Hp} {v : V} {xs : List D} (h : SeqOk K M F H v false xs) : ∃ a vs, v = .ref a ∧ SqL K H a vs ∧ DpAll K F vs xs := by
  obtain ⟨a, vs, e1, e2, e3⟩ := h
  rw [if_neg Bool.false_ne_true] at e2
  exact ⟨a, vs, e1, SqLmono msk_sub e2, e3⟩
theorem SeqOk.tup {K : PySem.W.Frag} {M : Addr → Prop} {F H : Hp} {v : V} {xs : List D} (h : SeqOk K M F H v true xs) : ∃ a vs, v = .ref a ∧ SqT K H a vs ∧ DpAll K F vs xs := by
  obtain ⟨a, vs, e1, e2, e3⟩ := h
  rw [if_pos rfl] at e2
  exact ⟨a, vs, e1, SqTmono msk_sub e2, e3⟩
theorem SeqOk.both {K : PySem.W.Frag} {M : Addr → Prop} {F H : Hp} {v : V} {b : Bool} {xs : List D} (h : SeqOk K M F H v b xs) : ∃ a vs, v = .ref a ∧ (SqL K H a vs ∨ SqT K H a vs) ∧ DpAll K F vs xs := by
  cases b with
  | true =>
    obtain ⟨a, vs, e1, e2, e3⟩ := h.tup
    exact ⟨a, vs, e1, .inr e2, e3⟩
  | false =>
    obtain ⟨a, vs, e1, e2, e3⟩ := h.list
    exact ⟨a, vs, e1, .inl e2, e3⟩
/-! ### ints -/
def CMod (_ j : Int) : Prop := 0 < j
def CShr0 (_ j : Int) : Prop := 0 ≤ j
theorem cm {i j : Int} (h : 0 < j) : CMod i j := h
theorem csh {i j : Int} (h : 0 ≤ j) : CShr0 i j := h
def rdI (C : Int → Int → Prop) (g : Int → Int → D) : RX D D D := fun x y Q => match x, y with | .int i, .int j => C i j ∧ Q (g i j) | _, _ => False
theorem rdI_mono (C g) : Mono2 (rdI C g) := fun x y Q Q' h q => by
  unfold rdI at q ⊢
  split at q
  · exact ⟨q.1, h _ q.2⟩
  · exact q.elim
theorem rdI_of {C g} {x y : D} {Q : D → Prop} (q : rdI C g x y Q) : ∃ i j, x = .int i ∧ y = .int j ∧ C i j ∧ Q (g i j) := by
  unfold rdI at q
  split at q
  · exact ⟨_, _, rfl, rfl, q⟩
  · exact q.elim
variable {ta tb : TX D}
theorem pd_i {op : Operator} {C : Int → Int → Prop} {g : Int → Int → Int} (ho : OpR X (binaryOp op) (rI C fun i j => .int (g i j))) (ha : PD X e a ta) (hb : PD X e b tb) : PD X e (.BinOp a op b pos) (xBin (rdI C fun i j => .int (g i j)) ta tb) :=
  px_op ho (rdI_mono _ _) ha hb fun ρ F σ H0 H1 H v w x y Q rp dv dw q => by
    obtain ⟨i, j, rfl, rfl, c, q⟩ := rdI_of q
    cases dv
    cases dw
    exact ⟨i, j, rfl, rfl, c, q _ F H (.refl rp.ok) (.int _)⟩
def rd0 (g : Int → Int → D) : RX D D D := fun x y Q => match x, y with | .int i, .int j => Q (g i j) | _, _ => False
theorem rd0_mono (g) : Mono2 (rd0 g) := fun x y Q Q' h q => by
  unfold rd0 at q ⊢
  split at q
  · exact h _ q
  · exact q.elim
theorem rd0_of {g} {x y : D} {Q : D → Prop} (q : rd0 g x y Q) : ∃ i j, x = .int i ∧ y = .int j ∧ Q (g i j) := by
  unfold rd0 at q
  split at q
  · exact ⟨_, _, rfl, rfl, q⟩
  · exact q.elim
theorem pd_i0 {op : Operator} {g : Int → Int → Int} (ho : OpR X (binaryOp op) (rI0 fun i j => .int (g i j))) (ha : PD X e a ta) (hb : PD X e b tb) : PD X e (.BinOp a op b pos) (xBin (rd0 fun i j => .int (g i j)) ta tb) :=
  px_op ho (rd0_mono _) ha hb fun ρ F σ H0 H1 H v w x y Q rp dv dw q => by
    obtain ⟨i, j, rfl, rfl, q⟩ := rd0_of q
    cases dv
    cases dw
    exact ⟨i, j, rfl, rfl, q _ F H (.refl rp.ok) (.int _)⟩
theorem pc_0 {op : CmpOp} {g : Int → Int → Bool} (ho : OpR X (compareOp op) (rI0 fun i j => .bl (g i j))) (ha : PD X e a ta) (hb : PD X e b tb) : PCx X e op a b (xBin (rd0 fun i j => .bool (g i j)) ta tb) :=
  px_cmp ho (rd0_mono _) ha hb fun ρ F σ H0 H1 H v w x y Q rp dv dw q => by
    obtain ⟨i, j, rfl, rfl, q⟩ := rd0_of q
    cases dv
    cases dw
    exact ⟨i, j, rfl, rfl, q _ F H (.refl rp.ok) (.bl _)⟩
theorem pd_add (ha : PD X e a ta) (hb : PD X e b tb) : PD X e (.BinOp a .Add b pos) (xBin (rd0 fun i j => .int (i + j)) ta tb) := pd_i0 op_add ha hb
theorem pd_sub (ha : PD X e a ta) (hb : PD X e b tb) : PD X e (.BinOp a .Sub b pos) (xBin (rd0 fun i j => .int (i - j)) ta tb) := pd_i0 op_sub ha hb
theorem pd_mul (ha : PD X e a ta) (hb : PD X e b tb) : PD X e (.BinOp a .Mult b pos) (xBin (rdI CMul fun i j => .int (i * j)) ta tb) := pd_i op_mul ha hb
theorem pd_mulW (ha : PD X e a ta) (hb : PD X e b tb) : PD X e (.BinOp a .Mult b pos) (xBin (rdI CMulW fun i j => .int (i * j)) ta tb) := pd_i op_mulW ha hb
theorem pd_fdiv (ha : PD X e a ta) (hb : PD X e b tb) : PD X e (.BinOp a .FloorDiv b pos) (xBin (rdI CDiv fun i j => .int (i / j)) ta tb) := pd_i op_fdiv ha hb
theorem pd_fdivW (ha : PD X e a ta) (hb : PD X e b tb) : PD X e (.BinOp a .FloorDiv b pos) (xBin (rdI CDivW fun i j => .int (i / j)) ta tb) := pd_i op_fdivW ha hb
theorem pd_mod (ha : PD X e a ta) (hb : PD X e b tb) : PD X e (.BinOp a .Mod b pos) (xBin (rdI CMod fun i j => .int (i % j)) ta tb) := pd_i (C := CMod) op_mod ha hb
theorem pd_pow (ha : PD X e a ta) (hb : PD X e b tb) : PD X e (.BinOp a .Pow b pos) (xBin (rdI CPow fun i j => .int (i ^ j.toNat)) ta tb) := pd_i op_pow ha hb
theorem pd_shr (ha : PD X e a ta) (hb : PD X e b tb) : PD X e (.BinOp a .RShift b pos) (xBin (rdI CShr0 fun i j => .int (i / 2 ^ j.toNat)) ta tb) := pd_i (C := CShr0) op_shr ha hb
theorem pc_lt (ha : PD X e a ta) (hb : PD X e b tb) : PCx X e .Lt a b (xBin (rd0 fun i j => .bool (decide (i < j))) ta tb) := pc_0 op_lt ha hb
theorem pc_le (ha : PD X e a ta) (hb : PD X e b tb) : PCx X e .LtE a b (xBin (rd0 fun i j => .bool (decide (i ≤ j))) ta tb) := pc_0 op_le ha hb
theorem pc_gt (ha : PD X e a ta) (hb : PD X e b tb) : PCx X e .Gt a b (xBin (rd0 fun i j => .bool (decide (j < i))) ta tb) := pc_0 op_gt ha hb
theorem pc_ge (ha : PD X e a ta) (hb : PD X e b tb) : PCx X e .GtE a b (xBin (rd0 fun i j => .bool (decide (j ≤ i))) ta tb) := pc_0 op_ge ha hb
def rdNeg : R1 D D := fun x Q => match x with | .int i => Q (.int (-i)) | _ => False
theorem rdNeg_mono : Mono1 rdNeg := fun x Q Q' h q => by
  unfold rdNeg at q ⊢
  split at q
  · exact h _ q
  · exact q.elim
theorem pd_neg (ha : PD X e a ta) : PD X e (.UnaryOp .USub a pos) (xUn rdNeg ta) :=
  px_un un_neg rdNeg_mono ha fun ρ F σ H0 H v x Q rp dv q => by
    unfold rdNeg at q
    split at q
    · cases dv
      exact ⟨_, rfl, q _ F H (.refl rp.ok) (.int _)⟩
    · exact q.elim
/-! ### == and != -/
def rdEq (neg : Bool) : RX D D D := fun x y Q => SeqAt.shaped x = true ∧ SeqAt.shaped y = true ∧ Q (.bool (ng neg (PyData.eqv x y)))
theorem rdEq_mono (neg : Bool) : Mono2 (rdEq neg) := fun x y Q Q' h q => ⟨q.1, q.2.1, h _ q.2.2⟩
theorem pc_eqD (hu : X.A.units + 64 < cLine) (ha : PD X e a ta) (hb : PD X e b tb) : PCx X e .Eq a b (xBin (rdEq false) ta tb) :=
  px_cmp (op_eqD hu) (rdEq_mono _) ha hb fun ρ F σ H0 H1 H v w x y Q rp dv dw q => by
    obtain ⟨s1, s2, q⟩ := q
    refine ⟨x, y, dpMono rp.sub x dv, dpMono rp.sub y dw, s1, s2, ?_⟩
    have := q _ F H (.refl rp.ok) (.bl _)
    simpa [ng] using this
theorem pc_neD (hu : X.A.units + 64 < cLine) (ha : PD X e a ta) (hb : PD X e b tb) : PCx X e .NotEq a b (xBin (rdEq true) ta tb) :=
  px_cmp (op_neD hu) (rdEq_mono _) ha hb fun ρ F σ H0 H1 H v w x y Q rp dv dw q => by
    obtain ⟨s1, s2, q⟩ := q
    refine ⟨x, y, dpMono rp.sub x dv, dpMono rp.sub y dw, s1, s2, ?_⟩
    have := q _ F H (.refl rp.ok) (.bl _)
    simpa [ng] using this
/-- == and != of plain values -/
def plainD : D → Option V
  | .none => some .non
  | .bool b => some (.bl b)
  | .int i => some (.int i)
  | .str x => some (.str x)
  | _ => none
theorem plainD_of {K : PySem.W.Frag} {F : Hp} {v w : V} {x : D} (h : plainD x = some w) (d : Dp K F v x) : v = w := by
  cases d <;> simp [plainD] at h <;> exact h
def eqP : D → D → Option Bool
  | .none, .none => some true | .none, .int _ => some false | .int _, .none => some false | .none, .bool _ => some false | .bool _, .none => some false | .none, .str _ => some false | .str _, .none => some false
  | .int i, .int j => some (decide (i = j)) | .bool i, .bool j => some (decide (i = j)) | .str i, .str j => some (decide (i = j))
  | .int _, .str _ => some false | .str _, .int _ => some false | .bool _, .str _ => some false | .str _, .bool _ => some false
  | _, _ => none
theorem eqP_of {K : PySem.W.Frag} {F : Hp} {v w : V} {x y : D} {b : Bool} (h : eqP x y = some b) (d : Dp K F v x) (d' : Dp K F w y) : scal v w = true ∧ b = decide (v = w) := by
  cases d <;> cases d' <;> simp [eqP] at h <;> first | (subst h; simp [scal]) | skip
def rdEqP (neg : Bool) : RX D D D := fun x y Q => match eqP x y with
  | some b => Q (.bool (ng neg b))
  | _ => False
theorem rdEqP_mono (neg : Bool) : Mono2 (rdEqP neg) := fun x y Q Q' h q => by
  unfold rdEqP at q ⊢
  split at q
  · exact h _ q
  · exact q.elim
theorem rdEqP_of {neg : Bool} {x y : D} {Q : D → Prop} (q : rdEqP neg x y Q) : ∃ b, eqP x y = some b ∧ Q (.bool (ng neg b)) := by
  unfold rdEqP at q
  split at q
  · rename_i b h1
    exact ⟨b, h1, q⟩
  · exact q.elim
theorem pc_eq (ha : PD X e a ta) (hb : PD X e b tb) : PCx X e .Eq a b (xBin (rdEqP false) ta tb) :=
  px_cmp op_eq (rdEqP_mono _) ha hb fun ρ F σ H0 H1 H v w x y Q rp dv dw q => by
    obtain ⟨c, h1, q⟩ := rdEqP_of q
    obtain ⟨s1, rfl⟩ := eqP_of h1 dv dw
    refine ⟨s1, ?_⟩
    have := q _ F H (.refl rp.ok) (.bl _)
    simpa [ng] using this
theorem pc_ne (ha : PD X e a ta) (hb : PD X e b tb) : PCx X e .NotEq a b (xBin (rdEqP true) ta tb) :=
  px_cmp op_ne (rdEqP_mono _) ha hb fun ρ F σ H0 H1 H v w x y Q rp dv dw q => by
    obtain ⟨c, h1, q⟩ := rdEqP_of q
    obtain ⟨s1, rfl⟩ := eqP_of h1 dv dw
    refine ⟨s1, ?_⟩
    have := q _ F H (.refl rp.ok) (.bl _)
    simpa [ng] using this
/-- x is None -/
def isNone : D → Bool
  | .none => true
  | _ => false
def rdIs (neg : Bool) : RX D D D := fun x y Q => match y with | .none => Q (.bool (ng neg (isNone x))) | _ => False
theorem rdIs_mono (neg : Bool) : Mono2 (rdIs neg) := fun x y Q Q' h q => by
  unfold rdIs at q ⊢
  split at q
  · exact h _ q
  · exact q.elim
theorem isNone_of {K : PySem.W.Frag} {F : Hp} {v : V} {x : D} (d : Dp K F v x) : isNone x = decide (v = .non) := by
  cases d <;> simp [isNone]
theorem pc_is (ha : PD X e a ta) (hb : PD X e b tb) : PCx X e .Is a b (xBin (rdIs false) ta tb) :=
  px_cmp op_isN (rdIs_mono _) ha hb fun ρ F σ H0 H1 H v w x y Q rp dv dw q => by
    unfold rdIs at q
    split at q
    · cases dw
      refine ⟨rfl, ?_⟩
      have := q _ F H (.refl rp.ok) (.bl _)
      simpa [ng, isNone_of dv] using this
    · exact q.elim
theorem pc_isnt (ha : PD X e a ta) (hb : PD X e b tb) : PCx X e .IsNot a b (xBin (rdIs true) ta tb) :=
  px_cmp op_notN (rdIs_mono _) ha hb fun ρ F σ H0 H1 H v w x y Q rp dv dw q => by
    unfold rdIs at q
    split at q
    · cases dw
      refine ⟨rfl, ?_⟩
      have := q _ F H (.refl rp.ok) (.bl _)
      simpa [ng, isNone_of dv] using this
    · exact q.elim
/-! ### subscripts -/
def someOf {α : Type} (o : Option α) (Q : α → Prop) : Prop := match o with | some x => Q x | none => False
theorem someOf_mono {α : Type} {o : Option α} {Q Q' : α → Prop} (h : ∀ k, Q k → Q' k) (q : someOf o Q) : someOf o Q' := by
  cases o with
  | none => exact q
  | some x => exact h _ q
theorem someOf_of {α : Type} {o : Option α} {Q : α → Prop} (q : someOf o Q) : ∃ x, o = some x ∧ Q x := by
  cases o with
  | none => exact q.elim
  | some x => exact ⟨x, rfl, q⟩
theorem someTo {α : Type} {o : Option α} {d : α} {Q : α → Prop} (h : o = some d) (q : Q d) : someOf o Q := by
  rw [h]
  exact q
def rdIx : RX (Bool × List D) D D := fun x y Q => match y with | .int i => someOf (atI x.2 i) Q | _ => False
theorem rdIx_mono : Mono2 rdIx := fun x y Q Q' h q => by
  cases y with
  | int i => exact someOf_mono h q
  | _ => exact q
theorem rdIx_of {x : Bool × List D} {y : D} {Q : D → Prop} (q : rdIx x y Q) : ∃ i d, y = .int i ∧ atI x.2 i = some d ∧ Q d := by
  cases y with
  | int i =>
    obtain ⟨d, h, q⟩ := someOf_of (show someOf (atI x.2 i) Q from q)
    exact ⟨i, d, rfl, h, q⟩
  | _ => exact (show False from q).elim
def ixB (X : Cx) : R2 := fun x y H Q => rIxL X.K x y H Q ∨ rIxT X.K x y H Q
theorem ix_both : IxR X (ixB X) := IxR.or ix_list ix_tup
theorem pd_ix {tq : TX (Bool × List D)} (ha : PQ X e a tq) (hb : PD X e b tb) (hs : PlainIx b) : PD X e (.Subscript a b pos) (xBin rdIx tq tb) :=
  px_ix ix_both rdIx_mono ha hb hs fun ρ F σ H0 H1 H v w x y Q rp dv dw q => by
    obtain ⟨i, d, rfl, h, q⟩ := rdIx_of q
    cases dw
    obtain ⟨p, vs, e1, e2, e3⟩ := SeqOk.both dv
    obtain ⟨u, h1, h2⟩ := DpAll.atI e3 h
    rcases e2 with e2 | e2
    · exact .inl ⟨p, vs, i, u, e1, rfl, e2, h1, q _ F H (.refl rp.ok) h2⟩
    · exact .inr ⟨p, vs, i, u, e1, rfl, e2, h1, q _ F H (.refl rp.ok) h2⟩
def rdIxS : RX D D D := fun x y Q => match x, y with | .str z, .int i => z.length ≤ sizeLine ∧ (match atI z.cps.toList i with | some c => Q (.str ⟨#[c]⟩) | none => False) | _, _ => False
theorem rdIxS_mono : Mono2 rdIxS := fun x y Q Q' h q => by
  unfold rdIxS at q ⊢
  split at q
  · refine ⟨q.1, ?_⟩
    have q := q.2
    split at q
    · exact h _ q
    · exact q.elim
  · exact q.elim
theorem pd_ixS (ha : PD X e a ta) (hb : PD X e b tb) (hs : PlainIx b) : PD X e (.Subscript a b pos) (xBin rdIxS ta tb) :=
  px_ix ix_str rdIxS_mono ha hb hs fun ρ F σ H0 H1 H v w x y Q rp dv dw q => by
    unfold rdIxS at q
    split at q
    · obtain ⟨q1, q⟩ := q
      split at q
      · rename_i c hc
        cases dv
        cases dw
        exact ⟨_, _, c, rfl, rfl, q1, hc, q _ F H (.refl rp.ok) (.str _)⟩
      · exact q.elim
    · exact q.elim
end
end PL
set_option Elab.async false
set_option linter.all false
set_option maxRecDepth 100000
set_option maxHeartbeats 4000000
namespace PL
open PySem PySem.Spec PyProof.Rows L2
section
variable {X : Cx} {e : Ent} {α β γ : Type} {k1 : Kd e α} {k2 : Kd e β} {k3 : Kd e γ} {a b c : Expr} {rest : List Expr} {pos : Pos} {ta tb : TX D} {sa sb sc : TX Bool} {tq tq2 : TX (Bool × List D)}
/-! ### tests -/
abbrev FinB (e : Ent) (F H : Hp) (Q : Bool → Hp → Prop) : Bool → Prop := fun b => ∀ F' H', Gr e.toDl F H F' H' → Q b H'
theorem FinB.step {F H F1 H1 : Hp} {Q : Bool → Hp → Prop} {c : Bool} (r : e.toDl.Ok F H) (g : Gr e.toDl F H F1 H1) (h : FinB e F H Q c) : FinB e F1 H1 Q c := fun F' H' g' => h F' H' (g.trans r g')
theorem pb_c {op : CmpOp} {t : TX D} (h : PCx X e op a b t) (hm : behindInMarks op b = false) : PB X e (.Compare a [op] [b] pos) (xB t) :=
  ⟨xB_mono h.mono, impT (pt_cmp h.pc hm) fun σ H Q ⟨F, ρ, rp, q⟩ => ⟨F, ρ, rp, h.mono ρ _ _ (fun d hd v F' H' g dv => by
    cases d with
    | bool c =>
      cases dv
      exact ⟨c, rfl, (show FinB e F H Q c from hd) F' H' g⟩
    | _ => exact (show False from hd).elim) q⟩⟩
theorem pb_val (h : PD X e a ta) (he : ∀ whole, isTrue a X.env whole = (do let v ← whole; standAt a.pos; holding [v] (truthy v)) := by intro _; rfl) : PB X e a (xB ta) :=
  ⟨xB_mono h.mono, impT (pt_val h.pe he) fun σ H Q ⟨F, ρ, rp, q⟩ => ⟨F, ρ, rp, h.mono ρ _ _ (fun d hd v F' H' g dv => by
    cases d with
    | bool c =>
      cases dv
      exact ⟨c, rfl, (show FinB e F H Q c from hd) F' H' g⟩
    | _ => exact (show False from hd).elim) q⟩⟩
def truthD : D → Option Bool
  | .none => some false
  | .bool b => some b
  | .int i => some (i != 0)
  | .str z => if z.length ≤ sizeLine then some ((z.length : Int) != 0) else none
  | .list xs => some (!xs.isEmpty)
  | .tuple xs => some (!xs.isEmpty)
  | .dict _ => none
theorem isEmpty_dp {K : PySem.W.Frag} {F : Hp} {vs : List V} {xs : List D} (h : DpAll K F vs xs) : (!vs.isEmpty) = !xs.isEmpty := by
  cases h <;> rfl
theorem truthD_of {K : PySem.W.Frag} {F H : Hp} {v : V} {d : D} {k : Bool} (s : Same F H) (h : truthD d = some k) (dp : Dp K F v d) : TruV K v H k := by
  cases dp with
  | non => exact (Option.some.inj h).symm
  | bl b => exact (Option.some.inj h).symm
  | int i => exact (Option.some.inj h).symm
  | str x =>
    have h : (if x.length ≤ sizeLine then some ((x.length : Int) != 0) else none) = some k := h
    by_cases hz : x.length ≤ sizeLine
    · rw [if_pos hz] at h
      exact ⟨hz, (Option.some.inj h).symm⟩
    · rw [if_neg hz] at h
      cases h
  | lst h1 h2 => exact .inl ⟨_, SqLmono s h1, by rw [isEmpty_dp h2]; exact (Option.some.inj h).symm⟩
  | tup h1 h2 => exact .inr (.inl ⟨_, SqTmono s h1, by rw [isEmpty_dp h2]; exact (Option.some.inj h).symm⟩)
def truOf (d : D) (Q : Bool → Prop) : Prop := match truthD d with | some k => Q k | none => False
def xTr (t : TX D) : TX Bool := fun ρ Q => t ρ fun d => truOf d Q
theorem truOf_mono {d : D} {Q Q' : Bool → Prop} (h : ∀ c, Q c → Q' c) (q : truOf d Q) : truOf d Q' := by
  unfold truOf at q ⊢
  split at q
  · exact h _ q
  · exact q.elim
theorem truOf_of {d : D} {Q : Bool → Prop} (q : truOf d Q) : ∃ k, truthD d = some k ∧ Q k := by
  unfold truOf at q
  split at q
  · rename_i k h
    exact ⟨k, h, q⟩
  · exact q.elim
theorem pb_tr (h : PD X e a ta) (he : ∀ whole, isTrue a X.env whole = (do let v ← whole; standAt a.pos; holding [v] (truthy v))) : PB X e a (xTr ta) :=
  ⟨fun ρ Q Q' k q => h.mono ρ _ _ (fun d hd => truOf_mono k hd) q, impT (pt_truth h.pe he) fun σ H Q ⟨F, ρ, rp, q⟩ => ⟨F, ρ, rp, h.mono ρ _ _ (fun d hd v F' H' g dv => by
    obtain ⟨k, h1, h2⟩ := truOf_of hd
    exact ⟨k, truthD_of g.ok.sub h1 dv, h2 F' H' g⟩) q⟩⟩
def xTrQ (t : TX (Bool × List D)) : TX Bool := fun ρ Q => t ρ fun x => Q (!x.2.isEmpty)
theorem pb_trq (h : PQ X e a tq) (he : ∀ whole, isTrue a X.env whole = (do let v ← whole; standAt a.pos; holding [v] (truthy v))) : PB X e a (xTrQ tq) :=
  ⟨fun ρ Q Q' k q => h.mono ρ _ _ (fun d hd => k _ hd) q, impT (pt_truth h.pe he) fun σ H Q ⟨F, ρ, rp, q⟩ => ⟨F, ρ, rp, h.mono ρ _ _ (fun d hd v F' H' g dv => by
    obtain ⟨p, vs, e1, e2, e3⟩ := SeqOk.both dv
    subst e1
    refine ⟨!vs.isEmpty, ?_, by rw [isEmpty_dp e3]; exact hd F' H' g⟩
    rcases e2 with e2 | e2
    · exact .inl ⟨_, e2, rfl⟩
    · exact .inr (.inl ⟨_, e2, rfl⟩)) q⟩⟩
def xNot (s : TX Bool) : TX Bool := fun ρ Q => s ρ fun k => Q (!k)
theorem pb_not (h : PB X e a sa) : PB X e (.UnaryOp .Not a pos) (xNot sa) :=
  ⟨fun ρ Q Q' k q => h.mono ρ _ _ (fun d hd => k _ hd) q, impT (pt_not h.pt) fun σ H Q ⟨F, ρ, rp, q⟩ => ⟨F, ρ, rp, h.mono ρ _ _ (fun d hd F' H' g => hd F' H' g) q⟩⟩
def xAnd (s t : TX Bool) : TX Bool := fun ρ Q => s ρ fun k => if k = true then t ρ Q else Q false
def xOr (s t : TX Bool) : TX Bool := fun ρ Q => s ρ fun k => if k = true then Q true else t ρ Q
theorem xAnd_mono (ma : MonoX sa) (mb : MonoX sb) : MonoX (xAnd sa sb) := fun ρ Q Q' h q => ma ρ _ _ (fun k hk => by
  cases k with
  | true => rw [if_pos rfl] at hk ⊢; exact mb ρ Q Q' h hk
  | false => rw [if_neg Bool.false_ne_true] at hk ⊢; exact h _ hk) q
theorem xOr_mono (ma : MonoX sa) (mb : MonoX sb) : MonoX (xOr sa sb) := fun ρ Q Q' h q => ma ρ _ _ (fun k hk => by
  cases k with
  | false => rw [if_neg Bool.false_ne_true] at hk ⊢; exact mb ρ Q Q' h hk
  | true => rw [if_pos rfl] at hk ⊢; exact h _ hk) q
theorem impW {x : Expr} {t t' : TT} (h : PW X x t) (k : ∀ σ H Q, t' σ H Q → t σ H Q) : PW X x t' := ⟨fun wh pins s σ H Q I q => h.run wh pins s σ H Q I (k σ H Q q)⟩
theorem pb_w {t : TX Bool} (h : PBw X e a t) : PB X e a t := ⟨h.mono, h.pw.pt⟩
theorem pw_a1 (h : PB X e a sa) : PBw X e (.BoolOp .And [a] pos) sa := ⟨h.mono, pw_and1 h.pt⟩
theorem pw_o1 (h : PB X e a sa) : PBw X e (.BoolOp .Or [a] pos) sa := ⟨h.mono, pw_or1 h.pt⟩
theorem pw_a (h : PB X e a sa) (h2 : PBw X e (.BoolOp .And (b :: rest) pos) sb) : PBw X e (.BoolOp .And (a :: b :: rest) pos) (xAnd sa sb) :=
  ⟨xAnd_mono h.mono h2.mono, impW (pw_and h.pt h2.pw) fun σ H Q ⟨F, ρ, rp, q⟩ => ⟨F, ρ, rp, h.mono ρ _ _ (fun k hk F' H' g => by
    cases k with
    | true =>
      rw [if_pos rfl] at hk
      exact if_pos rfl ▸ ⟨F', ρ, rp.step g, h2.mono ρ _ _ (fun d hd => FinB.step rp.ok g hd) hk⟩
    | false =>
      rw [if_neg Bool.false_ne_true] at hk
      exact if_neg Bool.false_ne_true ▸ hk F' H' g) q⟩⟩
theorem pw_o (h : PB X e a sa) (h2 : PBw X e (.BoolOp .Or (b :: rest) pos) sb) : PBw X e (.BoolOp .Or (a :: b :: rest) pos) (xOr sa sb) :=
  ⟨xOr_mono h.mono h2.mono, impW (pw_or h.pt h2.pw) fun σ H Q ⟨F, ρ, rp, q⟩ => ⟨F, ρ, rp, h.mono ρ _ _ (fun k hk F' H' g => by
    cases k with
    | false =>
      rw [if_neg Bool.false_ne_true] at hk
      exact if_neg Bool.false_ne_true ▸ ⟨F', ρ, rp.step g, h2.mono ρ _ _ (fun d hd => FinB.step rp.ok g hd) hk⟩
    | true =>
      rw [if_pos rfl] at hk
      exact if_pos rfl ▸ hk F' H' g) q⟩⟩
/-! ### and, or, not, a if t else b as values -/
def xAndV (s t : TX D) : TX D := fun ρ Q => s ρ fun d => truOf d fun k => if k = true then t ρ Q else Q d
def xOrV (s t : TX D) : TX D := fun ρ Q => s ρ fun d => truOf d fun k => if k = true then Q d else t ρ Q
theorem pd_one {op} (h : PD X e a ta) : PD X e (.BoolOp op [a] pos) ta := ⟨h.mono, pe_one h.pe⟩
theorem pd_and (h : PD X e a ta) (h2 : PD X e (.BoolOp .And (b :: rest) pos) tb) : PD X e (.BoolOp .And (a :: b :: rest) pos) (xAndV ta tb) :=
  ⟨fun ρ Q Q' h' q => h.mono ρ _ _ (fun d hd => by
    unfold truOf at hd ⊢
    split at hd
    · rename_i k hk
      cases k with
      | true => rw [if_pos rfl] at hd ⊢; exact h2.mono ρ Q Q' h' hd
      | false => rw [if_neg Bool.false_ne_true] at hd ⊢; exact h' _ hd
    · exact hd.elim) q, imp (pe_andT h.pe h2.pe) fun σ H Q ⟨F, ρ, rp, q⟩ => ⟨F, ρ, rp, h.mono ρ _ _ (fun d hd v F' H' g dv => by
    obtain ⟨k, h1, hk⟩ := truOf_of hd
    refine ⟨k, truthD_of g.ok.sub h1 dv, ?_⟩
    cases k with
    | true =>
      rw [if_pos rfl] at hk ⊢
      exact ⟨F', ρ, rp.step g, h2.mono ρ _ _ (fun d hd => Fin.step rp.ok g hd) hk⟩
    | false =>
      rw [if_neg Bool.false_ne_true] at hk ⊢
      exact (show Fin (kD X.K e) F H Q d from hk) v F' H' g dv) q⟩⟩
theorem pd_or (h : PD X e a ta) (h2 : PD X e (.BoolOp .Or (b :: rest) pos) tb) : PD X e (.BoolOp .Or (a :: b :: rest) pos) (xOrV ta tb) :=
  ⟨fun ρ Q Q' h' q => h.mono ρ _ _ (fun d hd => by
    unfold truOf at hd ⊢
    split at hd
    · rename_i k hk
      cases k with
      | false => rw [if_neg Bool.false_ne_true] at hd ⊢; exact h2.mono ρ Q Q' h' hd
      | true => rw [if_pos rfl] at hd ⊢; exact h' _ hd
    · exact hd.elim) q, imp (pe_orT h.pe h2.pe) fun σ H Q ⟨F, ρ, rp, q⟩ => ⟨F, ρ, rp, h.mono ρ _ _ (fun d hd v F' H' g dv => by
    obtain ⟨k, h1, hk⟩ := truOf_of hd
    refine ⟨k, truthD_of g.ok.sub h1 dv, ?_⟩
    cases k with
    | false =>
      rw [if_neg Bool.false_ne_true] at hk ⊢
      exact ⟨F', ρ, rp.step g, h2.mono ρ _ _ (fun d hd => Fin.step rp.ok g hd) hk⟩
    | true =>
      rw [if_pos rfl] at hk ⊢
      exact (show Fin (kD X.K e) F H Q d from hk) v F' H' g dv) q⟩⟩
def xNotV (s : TX D) : TX D := fun ρ Q => s ρ fun d => truOf d fun k => Q (.bool (!k))
theorem pd_not (h : PD X e a ta) : PD X e (.UnaryOp .Not a pos) (xNotV ta) :=
  ⟨fun ρ Q Q' h' q => h.mono ρ _ _ (fun d hd => truOf_mono (fun _ z => h' _ z) hd) q, imp (pe_notT h.pe) fun σ H Q ⟨F, ρ, rp, q⟩ => ⟨F, ρ, rp, h.mono ρ _ _ (fun d hd v F' H' g dv => by
    obtain ⟨k, h1, hk⟩ := truOf_of hd
    exact ⟨k, truthD_of g.ok.sub h1 dv, hk _ F' H' g (.bl _)⟩) q⟩⟩
def xNotQ (s : TX (Bool × List D)) : TX D := fun ρ Q => s ρ fun x => Q (.bool x.2.isEmpty)
theorem pd_notQ (h : PQ X e a tq) : PD X e (.UnaryOp .Not a pos) (xNotQ tq) :=
  ⟨fun ρ Q Q' h' q => h.mono ρ _ _ (fun d hd => h' _ hd) q, imp (pe_notT h.pe) fun σ H Q ⟨F, ρ, rp, q⟩ => ⟨F, ρ, rp, h.mono ρ _ _ (fun d hd v F' H' g dv => by
    obtain ⟨p, vs, e1, e2, e3⟩ := SeqOk.both dv
    subst e1
    refine ⟨!vs.isEmpty, ?_, ?_⟩
    · rcases e2 with e2 | e2
      · exact .inl ⟨_, e2, rfl⟩
      · exact .inr (.inl ⟨_, e2, rfl⟩)
    · rw [isEmpty_dp e3, Bool.not_not]
      exact hd _ F' H' g (.bl _)) q⟩⟩
def xIf {α : Type} (s : TX Bool) (t u : TX α) : TX α := fun ρ Q => s ρ fun k => if k = true then t ρ Q else u ρ Q
theorem px_if {k : Kd e α} {t u : TX α} (hc : PB X e c sc) (h : PX X e k a t) (h2 : PX X e k b u) : PX X e k (.IfExp c a b pos) (xIf sc t u) :=
  ⟨fun ρ Q Q' h' q => hc.mono ρ _ _ (fun k hk => by
    cases k with
    | true => rw [if_pos rfl] at hk ⊢; exact h.mono ρ Q Q' h' hk
    | false => rw [if_neg Bool.false_ne_true] at hk ⊢; exact h2.mono ρ Q Q' h' hk) q, imp (pe_ifExp hc.pt h.pe h2.pe) fun σ H Q ⟨F, ρ, rp, q⟩ => ⟨F, ρ, rp, hc.mono ρ _ _ (fun k hk F' H' g => by
    cases k with
    | true =>
      rw [if_pos rfl] at hk ⊢
      exact ⟨F', ρ, rp.step g, h.mono ρ _ _ (fun d hd => Fin.step rp.ok g hd) hk⟩
    | false =>
      rw [if_neg Bool.false_ne_true] at hk ⊢
      exact ⟨F', ρ, rp.step g, h2.mono ρ _ _ (fun d hd => Fin.step rp.ok g hd) hk⟩) q⟩⟩
/-! ### displays -/
abbrev FinA (K : PySem.W.Frag) (e : Ent) (F H : Hp) (Q : List V → Hp → Prop) : List D → Prop := fun ds => ∀ vs F' H', Gr e.toDl F H F' H' → DpAll K F' vs ds → Q vs H'
variable {es : List Expr} {tl : TX (List D)}
theorem pad_nil : PAd X e [] (xC []) := ⟨xC_mono, impA pa_nil fun σ H Q ⟨F, ρ, rp, q⟩ => q [] F H (.refl rp.ok) .nil⟩
def xCons (t : TX D) (r : TX (List D)) : TX (List D) := fun ρ Q => t ρ fun d => r ρ fun ds => Q (d :: ds)
theorem pad_cons (h : PD X e a ta) (hr : PAd X e es tl) (hs : starEach (a :: es) X.env = (false, eval a X.env) :: starEach es X.env := by rfl) : PAd X e (a :: es) (xCons ta tl) :=
  ⟨fun ρ Q Q' k q => h.mono ρ _ _ (fun d hd => hr.mono ρ _ _ (fun ds hds => k _ hds) hd) q, impA (pa_cons h.pe hr.pa hs) fun σ H Q ⟨F, ρ, rp, q⟩ => ⟨F, ρ, rp, h.mono ρ _ _ (fun d hd v F1 H1 g dv =>
    ⟨F1, ρ, rp.step g, hr.mono ρ _ _ (fun ds hds vs F2 H2 g2 dvs => (show FinA X.K e F H Q (d :: ds) from hds) (v :: vs) F2 H2 (g.trans rp.ok g2) (.cons (dpMono g2.fz d dv) dvs)) hd⟩) q⟩⟩
def xTup (t : TX (List D)) : TX D := fun ρ Q => t ρ fun ds => ds.length ≤ sizeLine ∧ Q (.tuple ds)
theorem pd_tup {x1} (h : PAd X e es tl) : PD X e (.Tuple es x1 pos) (xTup tl) :=
  ⟨fun ρ Q Q' k q => h.mono ρ _ _ (fun d hd => ⟨hd.1, k _ hd.2⟩) q, imp (pe_tup h.pa) fun σ H Q ⟨F, ρ, rp, q⟩ => ⟨F, ρ, rp, h.mono ρ _ _ (fun ds hd vs F1 H1 g dv =>
    ⟨by rw [DpAll.len dv]; exact hd.1, fun p hp => (show Fin (kD X.K e) F H Q (.tuple ds) from hd.2) _ (upd F1 p (.tup vs)) _ (g.trans rp.ok (Gr.newF g.ok rp.stay hp)) (.tup (SqT.of upd_same) (dpAllMono (sameNew (g.ok.sub.free hp)) ds dv))⟩) q⟩⟩
def xLst (t : TX (List D)) : TX OC := fun ρ Q => t ρ fun ds => ds.length ≤ sizeLine ∧ Q (.lst ds)
theorem pn_lst (h : PAd X e es tl) : PN X e (.List es pos) (xLst tl) :=
  ⟨fun ρ Q Q' k q => h.mono ρ _ _ (fun d hd => ⟨hd.1, k _ hd.2⟩) q, imp (pe_lst h.pa) fun σ H Q ⟨F, ρ, rp, q⟩ => ⟨F, ρ, rp, h.mono ρ _ _ (fun ds hd vs F1 H1 g dv =>
    ⟨by rw [DpAll.len dv]; exact hd.1, fun p hp => by
      have g2 := Gr.newO (o := .lst vs) g.ok rp.stay hp
      have g3 := g.trans rp.ok g2
      refine (show Fin (kN X.K e) F H Q (.lst ds) from hd.2) _ F1 _ g3 ⟨p, rfl, ⟨vs, upd_same, dv⟩, g.ok.sub.free hp, ?_, g.ok.fM hp⟩
      cases z : H p with
      | none => rfl
      | some u =>
        have := g.st p u z (g.ok.fM hp)
        rw [hp] at this
        cases this⟩) q⟩⟩
/-! ### + of sequences and texts -/
theorem nOk_new {K : PySem.W.Frag} {ρ : Ev} {F H : Hp} {σ : L2.St} {p : Addr} {vs : List V} {ds : List D} (rp : Rp K e ρ F σ H) (hp : H p = none) (dv : DpAll K F vs ds) : Gr e.toDl F H F (upd H p (.lst vs)) ∧ NOk K e H F (upd H p (.lst vs)) (.ref p) (.lst ds) :=
  ⟨Gr.newO rp.ok rp.stay hp, p, rfl, ⟨vs, upd_same, dv⟩, rp.sub.free hp, hp, rp.ok.fM hp⟩
theorem dOk_new {K : PySem.W.Frag} {ρ : Ev} {F H : Hp} {σ : L2.St} {p : Addr} {vs : List V} {ds : List D} (rp : Rp K e ρ F σ H) (hp : H p = none) (dv : DpAll K F vs ds) : Gr e.toDl F H (upd F p (.tup vs)) (upd H p (.tup vs)) ∧ Dp K (upd F p (.tup vs)) (.ref p) (.tuple ds) :=
  ⟨Gr.newF rp.ok rp.stay hp, .tup (SqT.of upd_same) (dpAllMono (sameNew (rp.sub.free hp)) ds dv)⟩
/-- list + list, any that is read -/
def rCatL (K : PySem.W.Frag) : R2 := fun x y H Q => ∃ l b xs zs, x = .ref l ∧ y = .ref b ∧ SqL K H l xs ∧ SqL K H b zs ∧ xs.length + zs.length ≤ sizeLine ∧ ∀ p, H p = none → Q (.ref p) (upd H p (.lst (xs ++ zs)))
theorem op_catL : OpR X (binaryOp .Add) (rCatL X.K) := by
  intro pins s σ H x y v u Q I rx ry h
  obtain ⟨l, b, xs, zs, rfl, rfl, hH, hB, hz, q⟩ := h
  cases rx
  cases ry
  obtain ⟨its, r, ⟨o1, n1, q1, q2, q3, q4⟩, _⟩ := I.list hH
  obtain ⟨its2, r2, ⟨o2, n2, p1, p2, p3, p4⟩, _⟩ := I.list hB
  have l1 := r.length
  have l2 := r2.length
  obtain ⟨c1, d1, da1, sl1⟩ := o1
  obtain ⟨c2, d2, da2, sl2⟩ := o2
  simp only at q2 q3 q4 p2 p3 p4
  subst q2 q3 q4 p2 p3 p4
  have ea : its.toArray ++ its2.toArray = (its ++ its2).toArray := by simp
  refine concat_meets ⟨_, q1, rfl⟩ ⟨_, p1, rfl⟩ noFill_list_add seq_list_add PySem.F.slot_list_add PySem.F.entry_list_add (PySem.F.args_list_add_2 _ _) (list_addW l b its.toArray its2.toArray n1 n2 none none sl1 sl2 (by rw [List.size_toArray, List.size_toArray]; omega)) ⟨q1, p1, ?_⟩
  rw [ea]
  exact ⟨.ref _, _, I.lnew (t' := s.toks) (r.append r2) (by rw [List.length_append]; omega), rfl, q _ I.fresh⟩
end
end PL
set_option Elab.async false
set_option linter.all false
set_option maxRecDepth 100000
set_option maxHeartbeats 4000000
namespace PL
open PySem PySem.Spec PyProof.Rows L2
section
variable {X : Cx} {e : Ent} {α β γ : Type} {k1 : Kd e α} {k2 : Kd e β} {k3 : Kd e γ} {a b c : Expr} {rest : List Expr} {pos p2 pf : Pos} {ta tb : TX D} {sa sb sc : TX Bool} {tq tq2 : TX (Bool × List D)}
/-! ### + -/
def rdCatL : RX (Bool × List D) (Bool × List D) OC := fun x y Q => x.1 = false ∧ y.1 = false ∧ x.2.length + y.2.length ≤ sizeLine ∧ Q (.lst (x.2 ++ y.2))
theorem pn_cat (ha : PQ X e a tq) (hb : PQ X e b tq2) : PN X e (.BinOp a .Add b pos) (xBin rdCatL tq tq2) :=
  px_op op_catL (fun x y Q Q' h q => ⟨q.1, q.2.1, q.2.2.1, h _ q.2.2.2⟩) ha hb fun ρ F σ H0 H1 H v w x y Q rp dv dw q => by
    obtain ⟨b1, xs⟩ := x
    obtain ⟨b2, ys⟩ := y
    obtain ⟨q1, q2, q3, q⟩ := q
    simp only at q1 q2 q3 q
    subst q1 q2
    obtain ⟨p, vs, rfl, e2, e3⟩ := SeqOk.list dv
    obtain ⟨p', ws, rfl, e2', e3'⟩ := SeqOk.list dw
    refine ⟨p, p', vs, ws, rfl, rfl, e2, e2', by rw [DpAll.len e3, DpAll.len e3']; exact q3, fun n hn => ?_⟩
    obtain ⟨g, k⟩ := nOk_new rp hn (DpAll.app e3 e3')
    exact q _ _ _ g k
def rdCatT : RX D D D := fun x y Q => match x, y with | .tuple xs, .tuple ys => xs.length + ys.length ≤ sizeLine ∧ Q (.tuple (xs ++ ys)) | _, _ => False
theorem pd_cat (ha : PD X e a ta) (hb : PD X e b tb) : PD X e (.BinOp a .Add b pos) (xBin rdCatT ta tb) :=
  px_op op_catA (fun x y Q Q' h q => by
    unfold rdCatT at q ⊢
    split at q
    · exact ⟨q.1, h _ q.2⟩
    · exact q.elim) ha hb fun ρ F σ H0 H1 H v w x y Q rp dv dw q => by
    unfold rdCatT at q
    split at q
    · rename_i xs ys
      cases dv with
      | tup h1 h2 =>
        cases dw with
        | tup h3 h4 =>
          refine ⟨_, _, _, _, rfl, rfl, SqTmono rp.sub h1, SqTmono rp.sub h3, by rw [DpAll.len h2, DpAll.len h4]; exact q.1, fun z => ?_, fun _ z => ?_, fun _ _ p hp => ?_⟩
          · subst z
            have := DpAll.len h2
            have z : xs = [] := List.length_eq_zero_iff.mp this.symm
            subst z
            exact q.2 _ F H (.refl rp.ok) (.tup h3 h4)
          · subst z
            have := DpAll.len h4
            have z : ys = [] := List.length_eq_zero_iff.mp this.symm
            subst z
            refine q.2 _ F H (.refl rp.ok) ?_
            rw [List.append_nil]
            exact .tup h1 h2
          · obtain ⟨g, k⟩ := dOk_new rp hp (DpAll.app h2 h4)
            exact q.2 _ _ _ g k
    · exact q.elim
def rdAddS : RX D D D := fun x y Q => match x, y with | .str u, .str w => u.length + w.length ≤ sizeLine ∧ Q (.str (u ++ w)) | _, _ => False
theorem pd_addS (ha : PD X e a ta) (hb : PD X e b tb) : PD X e (.BinOp a .Add b pos) (xBin rdAddS ta tb) :=
  px_op op_add_str (fun x y Q Q' h q => by
    unfold rdAddS at q ⊢
    split at q
    · exact ⟨q.1, h _ q.2⟩
    · exact q.elim) ha hb fun ρ F σ H0 H1 H v w x y Q rp dv dw q => by
    unfold rdAddS at q
    split at q
    · cases dv
      cases dw
      exact ⟨_, _, rfl, rfl, q.1, q.2 _ F H (.refl rp.ok) (.str _)⟩
    · exact q.elim
def rdRep : RX OC D OC := fun x y Q => match x, y with | .lst xs, .int k => -(2 ^ 63) ≤ k ∧ k < 2 ^ 63 ∧ xs.length * k.toNat ≤ sizeLine ∧ Q (.lst (List.replicate k.toNat xs).flatten) | _, _ => False
theorem pn_rep {tn : TX OC} (ha : PN X e a tn) (hb : PD X e b tb) : PN X e (.BinOp a .Mult b pos) (xBin rdRep tn tb) :=
  px_op op_rep (fun x y Q Q' h q => by
    unfold rdRep at q ⊢
    split at q
    · exact ⟨q.1, q.2.1, q.2.2.1, h _ q.2.2.2⟩
    · exact q.elim) ha hb fun ρ F σ H0 H1 H v w x y Q rp dv dw q => by
    unfold rdRep at q
    split at q
    · cases dw
      obtain ⟨p, rfl, ⟨vs, e2, e3⟩, e4, e5, e6⟩ := dv
      obtain ⟨q1, q2, q3, q⟩ := q
      refine ⟨p, _, vs, rfl, rfl, e2, q1, q2, by rw [DpAll.len e3]; exact q3, fun n hn => ?_⟩
      obtain ⟨g, k⟩ := nOk_new rp hn (DpAll.rep e3 _)
      exact q _ _ _ g k
    · exact q.elim
/-! ### slices -/
structure POd (X : Cx) (e : Ent) (o : Option Expr) (t : TX (Option Int)) : Prop where
  mono : MonoX t
  po : PO X o (fun σ H Q => ∃ F ρ, Rp X.K e ρ F σ H ∧ t ρ fun d => ∀ F' H', Gr e.toDl F H F' H' → Q d H')
theorem pod_none : POd X e none (xC none) := ⟨xC_mono, ⟨fun pins s σ H Q I ⟨F, ρ, rp, q⟩ => po_none.run pins s σ H Q I (q F H (.refl rp.ok))⟩⟩
def xPart (t : TX D) : TX (Option Int) := fun ρ Q => t ρ fun d => match d with | .int i => Q (some i) | _ => False
theorem pod_some (h : PD X e a ta) : POd X e (some a) (xPart ta) := ⟨fun ρ Q Q' k q => h.mono ρ _ _ (fun d hd => by
    cases d with
    | int i => exact k _ hd
    | _ => exact (show False from hd).elim) q, ⟨fun pins s σ H Q I ⟨F, ρ, rp, q⟩ => (po_some h.pe).run pins s σ H Q I ⟨F, ρ, rp, h.mono ρ _ _ (fun d hd v F' H' g dv => by
    cases d with
    | int i =>
      cases dv
      exact ⟨i, rfl, (show ∀ F' H', Gr e.toDl F H F' H' → Q (some i) H' from hd) F' H' g⟩
    | _ => exact (show False from hd).elim) q⟩⟩⟩
def xSl {α γ : Type} (r : α → Option Int → Option Int → (γ → Prop) → Prop) (t : TX α) (l u : TX (Option Int)) : TX γ := fun ρ Q => t ρ fun x => l ρ fun lo => u ρ fun hi => r x lo hi Q
theorem px_sl {r : V → Option Int → Option Int → Hp → VK → Prop} {rd : α → Option Int → Option Int → (γ → Prop) → Prop} {t : TX α} {tl tu : TX (Option Int)} {lo hi : Option Expr} (hr : SlR X r) (mr : ∀ x l u (Q Q' : γ → Prop), (∀ d, Q d → Q' d) → rd x l u Q → rd x l u Q')
    (h : PX X e k1 a t) (hl : POd X e lo tl) (hu : POd X e hi tu) (k : ∀ ρ F σ H0 H v x l u Q, Rp X.K e ρ F σ H → k1.Ok H0 F H v x → rd x l u (Fin k3 F H Q) → r v l u H Q) : PX X e k3 (.Subscript a (.Slice lo hi none p2) pos) (xSl rd t tl tu) :=
  ⟨fun ρ Q Q' k q => h.mono ρ _ _ (fun x hx => hl.mono ρ _ _ (fun l hl' => hu.mono ρ _ _ (fun u hu' => mr x l u Q Q' k hu') hl') hx) q, imp (pe_slice hr h.pe hl.po hu.po) fun σ H Q ⟨F, ρ, rp, q⟩ =>
    ⟨F, ρ, rp, h.mono ρ _ _ (fun x hx v F1 H1 g1 dv => ⟨F1, ρ, rp.step g1, hl.mono ρ _ _ (fun l hl' F2 H2 g2 => ⟨F2, ρ, (rp.step g1).step g2, hu.mono ρ _ _ (fun u hu' F3 H3 g3 =>
      k ρ F3 σ H H3 v x l u Q (((rp.step g1).step g2).step g3) (k1.step g3 (k1.step g2 dv)) (mr x l u _ _ (fun d hd => Fin.step rp.ok ((g1.trans rp.ok g2).trans rp.ok g3) hd) hu')) hl'⟩) hx⟩) q⟩⟩
def cutD (xs : List D) (lo hi : Option Int) : List D := (xs.drop (HT.sIx xs.length 0 lo)).take (HT.sIx xs.length xs.length hi - HT.sIx xs.length 0 lo)
theorem cut_dp {K : PySem.W.Frag} {F : Hp} {vs : List V} {xs : List D} {lo hi : Option Int} (h : DpAll K F vs xs) : DpAll K F (cutV vs lo hi) (cutD xs lo hi) := by
  unfold cutV cutD
  rw [DpAll.len h]
  exact DpAll.take _ (DpAll.drop _ h)
def rdSlT (x : D) (lo hi : Option Int) (Q : D → Prop) : Prop := match x with | .tuple xs => Q (.tuple (cutD xs lo hi)) | _ => False
variable {tl tu : TX (Option Int)} {lo hi : Option Expr}
theorem cut_whole {xs : List D} {lo hi : Option Int} (h : HT.sIx xs.length 0 lo = 0 ∧ HT.sIx xs.length xs.length hi = xs.length) : cutD xs lo hi = xs := by
  unfold cutD
  rw [h.1, h.2]
  simp
theorem pd_slT (h : PD X e a ta) (hl : POd X e lo tl) (hu : POd X e hi tu) : PD X e (.Subscript a (.Slice lo hi none p2) pos) (xSl rdSlT ta tl tu) :=
  px_sl sl_tupA (fun x l u Q Q' k q => by
    unfold rdSlT at q ⊢
    split at q
    · exact k _ q
    · exact q.elim) h hl hu fun ρ F σ H0 H v x l u Q rp dv q => by
    unfold rdSlT at q
    split at q
    · cases dv with
      | tup h1 h2 =>
        refine ⟨_, _, rfl, SqTmono rp.sub h1, fun z => ?_, fun _ p hp => ?_⟩
        · refine q _ F H (.refl rp.ok) ?_
          rw [DpAll.len h2] at z
          rw [cut_whole z]
          exact .tup h1 h2
        · obtain ⟨g, k⟩ := dOk_new rp hp (cut_dp (lo := l) (hi := u) h2)
          exact q _ _ _ g k
    · exact q.elim
def rdSlL (x : Bool × List D) (lo hi : Option Int) (Q : OC → Prop) : Prop := x.1 = false ∧ Q (.lst (cutD x.2 lo hi))
theorem pn_slL (h : PQ X e a tq) (hl : POd X e lo tl) (hu : POd X e hi tu) : PN X e (.Subscript a (.Slice lo hi none p2) pos) (xSl rdSlL tq tl tu) :=
  px_sl sl_list (fun x l u Q Q' k q => ⟨q.1, k _ q.2⟩) h hl hu fun ρ F σ H0 H v x l u Q rp dv q => by
    obtain ⟨b, xs⟩ := x
    obtain ⟨q1, q⟩ := q
    simp only at q1 q
    subst q1
    obtain ⟨p, vs, rfl, e2, e3⟩ := SeqOk.list dv
    refine ⟨p, vs, rfl, e2, fun n hn => ?_⟩
    obtain ⟨g, k⟩ := nOk_new rp hn (cut_dp (lo := l) (hi := u) e3)
    exact q _ _ _ g k
def rdSlS (x : D) (lo hi : Option Int) (Q : D → Prop) : Prop := match x with | .str z => z.length ≤ sizeLine ∧ Q (.str (cutS z lo hi)) | _ => False
theorem pd_slS (h : PD X e a ta) (hl : POd X e lo tl) (hu : POd X e hi tu) : PD X e (.Subscript a (.Slice lo hi none p2) pos) (xSl rdSlS ta tl tu) :=
  px_sl sl_str (fun x l u Q Q' k q => by
    unfold rdSlS at q ⊢
    split at q
    · exact ⟨q.1, k _ q.2⟩
    · exact q.elim) h hl hu fun ρ F σ H0 H v x l u Q rp dv q => by
    unfold rdSlS at q
    split at q
    · cases dv
      exact ⟨_, rfl, q.1, q.2 _ F H (.refl rp.ok) (.str _)⟩
    · exact q.elim
/-! ### in -/
def flatD : D → Bool
  | .none => true
  | .bool _ => true
  | .int _ => true
  | .str _ => true
  | _ => false
def eqF : D → D → Bool
  | .none, .none => true
  | .bool a, .bool b => a == b
  | .bool a, .int b => (if a then 1 else 0) == b
  | .int a, .bool b => a == (if b then 1 else 0)
  | .int a, .int b => a == b
  | .str a, .str b => decide (a = b)
  | _, _ => false
def inF (x : D) (xs : List D) : Bool := xs.any fun y => eqF y x
theorem flat_of {K : PySem.W.Frag} {F : Hp} {v : V} {d : D} (h : flatD d = true) (dp : Dp K F v d) : flatV v = true := by
  cases dp <;> first | rfl | cases h
theorem flat_all {K : PySem.W.Frag} {F : Hp} : ∀ {vs : List V} {ds : List D}, ds.all flatD = true → DpAll K F vs ds → vs.all flatV = true
  | _, _, _, .nil => rfl
  | v :: vs, d :: ds, h, .cons a t => by
    rw [List.all_cons, Bool.and_eq_true] at h ⊢
    exact ⟨flat_of h.1 a, flat_all h.2 t⟩
theorem eqF_of {K : PySem.W.Frag} {F : Hp} {v w : V} {d d' : D} (h : flatD d = true) (h' : flatD d' = true) (dp : Dp K F v d) (dp' : Dp K F w d') : eqV v w = eqF d d' := by
  cases dp <;> cases dp' <;> first | rfl | cases h | cases h' | skip
theorem inF_of {K : PySem.W.Frag} {F : Hp} {v : V} {d : D} (h : flatD d = true) (dp : Dp K F v d) : ∀ {vs : List V} {ds : List D}, ds.all flatD = true → DpAll K F vs ds → inV v vs = inF d ds
  | _, _, _, .nil => rfl
  | w :: vs, d' :: ds, h2, .cons a t => by
    rw [List.all_cons, Bool.and_eq_true] at h2
    have ih := inF_of h dp h2.2 t
    unfold inV inF at ih ⊢
    rw [List.any_cons, List.any_cons, ih, eqF_of h2.1 h a dp]
def rdIn (neg : Bool) : RX D (Bool × List D) D := fun x y Q => flatD x = true ∧ y.2.all flatD = true ∧ Q (.bool (ng neg (inF x y.2)))
theorem pc_in (ha : PD X e a ta) (hb : PQ X e b tq) : PCx X e .In a b (xBin (rdIn false) ta tq) :=
  px_cmp op_in_seq (fun x y Q Q' h q => ⟨q.1, q.2.1, h _ q.2.2⟩) ha hb fun ρ F σ H0 H1 H v w x y Q rp dv dw q => by
    obtain ⟨q1, q2, q⟩ := q
    obtain ⟨p, vs, e1, e2, e3⟩ := SeqOk.both dw
    refine ⟨p, vs, e1, e2, flat_of q1 dv, flat_all q2 e3, ?_⟩
    rw [if_neg Bool.false_ne_true, inF_of q1 dv q2 e3]
    have := q _ F H (.refl rp.ok) (.bl _)
    simpa [ng] using this
theorem pc_nin (ha : PD X e a ta) (hb : PQ X e b tq) : PCx X e .NotIn a b (xBin (rdIn true) ta tq) :=
  px_cmp op_notIn_seq (fun x y Q Q' h q => ⟨q.1, q.2.1, h _ q.2.2⟩) ha hb fun ρ F σ H0 H1 H v w x y Q rp dv dw q => by
    obtain ⟨q1, q2, q⟩ := q
    obtain ⟨p, vs, e1, e2, e3⟩ := SeqOk.both dw
    refine ⟨p, vs, e1, e2, flat_of q1 dv, flat_all q2 e3, ?_⟩
    rw [if_pos rfl, inF_of q1 dv q2 e3]
    have := q _ F H (.refl rp.ok) (.bl _)
    simpa [ng] using this
/-! ### built-ins -/
def rdLen : R1 (Bool × List D) D := fun x Q => Q (.int x.2.length)
theorem pd_len (hg : Gl X "len") (hm : X.mg "len" = none) (ha : PQ X e a tq) (he : starEach [a] X.env = (false, eval a X.env) :: starEach [] X.env := by rfl) (hpl : (backTo pos (starEach [] X.env)).any (·.1) = false := by rfl) : PD X e (.Call (.Name "len" pf) [a] [] pos) (xUn rdLen tq) :=
  px_b1 call_len_seq hg hm PySem.boot_len (fun x Q Q' h q => h _ q) ha (fun ρ F σ H0 H v x Q rp dv q => by
    obtain ⟨p, vs, e1, e2, e3⟩ := SeqOk.both dv
    subst e1
    exact ⟨p, vs, rfl, e2, by rw [DpAll.len e3]; exact q _ F H (.refl rp.ok) (.int _)⟩) (by decide) (by decide) he hpl
def rdLenS : R1 D D := fun x Q => match x with | .str z => z.length ≤ sizeLine ∧ Q (.int z.length) | _ => False
theorem pd_lenS (hg : Gl X "len") (hm : X.mg "len" = none) (ha : PD X e a ta) (he : starEach [a] X.env = (false, eval a X.env) :: starEach [] X.env := by rfl) (hpl : (backTo pos (starEach [] X.env)).any (·.1) = false := by rfl) : PD X e (.Call (.Name "len" pf) [a] [] pos) (xUn rdLenS ta) :=
  px_b1 call_len_str hg hm PySem.boot_len (fun x Q Q' h q => by
    unfold rdLenS at q ⊢
    split at q
    · exact ⟨q.1, h _ q.2⟩
    · exact q.elim) ha (fun ρ F σ H0 H v x Q rp dv q => by
    unfold rdLenS at q
    split at q
    · cases dv
      exact ⟨_, rfl, q.1, q.2 _ F H (.refl rp.ok) (.int _)⟩
    · exact q.elim) (by decide) (by decide) he hpl
def rdList : R1 (Bool × List D) OC := fun x Q => Q (.lst x.2)
theorem pn_list (hg : Gl X "list") (hm : X.mg "list" = none) (ha : PQ X e a tq) (he : starEach [a] X.env = (false, eval a X.env) :: starEach [] X.env := by rfl) (hpl : (backTo pos (starEach [] X.env)).any (·.1) = false := by rfl) : PN X e (.Call (.Name "list" pf) [a] [] pos) (xUn rdList tq) :=
  px_ty1 call_list_of hg hm boot_list (fun x Q Q' h q => h _ q) ha (fun ρ F σ H0 H v x Q rp dv q => by
    obtain ⟨p, vs, e1, e2, e3⟩ := SeqOk.both dv
    subst e1
    refine ⟨p, vs, rfl, e2, fun n hn => ?_⟩
    obtain ⟨g, k⟩ := nOk_new rp hn e3
    exact q _ _ _ g k) (by decide) (by decide) he hpl
def rdTuple : R1 (Bool × List D) D := fun x Q => x.1 = false ∧ Q (.tuple x.2)
theorem pd_tuple (hg : Gl X "tuple") (hm : X.mg "tuple" = none) (ha : PQ X e a tq) (he : starEach [a] X.env = (false, eval a X.env) :: starEach [] X.env := by rfl) (hpl : (backTo pos (starEach [] X.env)).any (·.1) = false := by rfl) : PD X e (.Call (.Name "tuple" pf) [a] [] pos) (xUn rdTuple tq) :=
  px_ty1 call_tuple_of hg hm boot_tuple (fun x Q Q' h q => ⟨q.1, h _ q.2⟩) ha (fun ρ F σ H0 H v x Q rp dv q => by
    obtain ⟨b, xs⟩ := x
    obtain ⟨q1, q⟩ := q
    simp only at q1 q
    subst q1
    obtain ⟨p, vs, e1, e2, e3⟩ := SeqOk.list dv
    subst e1
    refine ⟨p, vs, rfl, .inl ⟨e2, fun n hn => ?_⟩⟩
    obtain ⟨g, k⟩ := dOk_new rp hn e3
    exact q _ _ _ g k) (by decide) (by decide) he hpl
def rdTupleD : R1 D D := fun x Q => match x with | .tuple xs => Q (.tuple xs) | _ => False
theorem pd_tupleD (hg : Gl X "tuple") (hm : X.mg "tuple" = none) (ha : PD X e a ta) (he : starEach [a] X.env = (false, eval a X.env) :: starEach [] X.env := by rfl) (hpl : (backTo pos (starEach [] X.env)).any (·.1) = false := by rfl) : PD X e (.Call (.Name "tuple" pf) [a] [] pos) (xUn rdTupleD ta) :=
  px_ty1 call_tuple_of hg hm boot_tuple (fun x Q Q' h q => by
    unfold rdTupleD at q ⊢
    split at q
    · exact h _ q
    · exact q.elim) ha (fun ρ F σ H0 H v x Q rp dv q => by
    unfold rdTupleD at q
    split at q
    · cases dv with
      | tup h1 h2 => exact ⟨_, _, rfl, .inr ⟨SqTmono rp.sub h1, q _ F H (.refl rp.ok) (.tup h1 h2)⟩⟩
    · exact q.elim) (by decide) (by decide) he hpl
def rdInt : R1 D D := fun x Q => match x with | .int i => Q (.int i) | .bool k => Q (.int (if k then 1 else 0)) | _ => False
theorem pd_toInt (hg : Gl X "int") (hm : X.mg "int" = none) (ha : PD X e a ta) (he : starEach [a] X.env = (false, eval a X.env) :: starEach [] X.env := by rfl) (hpl : (backTo pos (starEach [] X.env)).any (·.1) = false := by rfl) : PD X e (.Call (.Name "int" pf) [a] [] pos) (xUn rdInt ta) :=
  px_ty1 call_int1 hg hm boot_int (fun x Q Q' h q => by
    unfold rdInt at q ⊢
    split at q
    · exact h _ q
    · exact h _ q
    · exact q.elim) ha (fun ρ F σ H0 H v x Q rp dv q => by
    unfold rdInt at q
    split at q
    · cases dv
      exact .inl ⟨_, rfl, q _ F H (.refl rp.ok) (.int _)⟩
    · cases dv
      exact .inr ⟨_, rfl, q _ F H (.refl rp.ok) (.int _)⟩
    · exact q.elim) (by decide) (by decide) he hpl
def rdStr : R1 D D := fun x Q => match x with | .int i => i.natAbs.log2 < 1920 ∧ Q (.str (toString i)) | _ => False
theorem pd_strI (hg : Gl X "str") (hm : X.mg "str" = none) (ha : PD X e a ta) (he : starEach [a] X.env = (false, eval a X.env) :: starEach [] X.env := by rfl) (hpl : (backTo pos (starEach [] X.env)).any (·.1) = false := by rfl) : PD X e (.Call (.Name "str" pf) [a] [] pos) (xUn rdStr ta) :=
  px_ty1 call_str_int hg hm boot_str (fun x Q Q' h q => by
    unfold rdStr at q ⊢
    split at q
    · exact ⟨q.1, h _ q.2⟩
    · exact q.elim) ha (fun ρ F σ H0 H v x Q rp dv q => by
    unfold rdStr at q
    split at q
    · cases dv
      exact ⟨_, rfl, q.1, q.2 _ F H (.refl rp.ok) (.str _)⟩
    · exact q.elim) (by decide) (by decide) he hpl
def rdAbs : R1 D D := fun x Q => match x with | .int i => Q (.int (if i < 0 then -i else i)) | _ => False
theorem pd_abs (hg : Gl X "abs") (hm : X.mg "abs" = none) (ha : PD X e a ta) (he : starEach [a] X.env = (false, eval a X.env) :: starEach [] X.env := by rfl) (hpl : (backTo pos (starEach [] X.env)).any (·.1) = false := by rfl) : PD X e (.Call (.Name "abs" pf) [a] [] pos) (xUn rdAbs ta) :=
  px_b1 call_abs hg hm boot_abs (fun x Q Q' h q => by
    unfold rdAbs at q ⊢
    split at q
    · exact h _ q
    · exact q.elim) ha (fun ρ F σ H0 H v x Q rp dv q => by
    unfold rdAbs at q
    split at q
    · cases dv
      exact ⟨_, rfl, q _ F H (.refl rp.ok) (.int _)⟩
    · exact q.elim) (by decide) (by decide) he hpl
/-- the ints of a list -/
def intsOf : List D → Option (List Int)
  | [] => some []
  | .int i :: r => (intsOf r).map (i :: ·)
  | _ => none
theorem intsOf_dp {K : PySem.W.Frag} {F : Hp} : ∀ {vs : List V} {ds : List D} {ns : List Int}, intsOf ds = some ns → DpAll K F vs ds → vs = ns.map V.int
  | _, _, _, h, .nil => by
    cases h
    rfl
  | v :: vs, d :: ds, ns, h, .cons a t => by
    cases a with
    | int i =>
      have h : (intsOf ds).map (i :: ·) = some ns := h
      cases q : intsOf ds with
      | none => rw [q] at h; cases h
      | some ms =>
        rw [q] at h
        cases h
        rw [intsOf_dp q t]
        rfl
    | _ => cases h
def rdSum : R1 (Bool × List D) D := fun x Q => x.1 = false ∧ someOf (intsOf x.2) fun ns => Q (.int ns.sum)
theorem pd_sum (hc : X.calm = true) (hg : Gl X "sum") (hm : X.mg "sum" = none) (hv : bootBuiltins "sum" = some (.builtin "sum")) (ha : PQ X e a tq) (he : starEach [a] X.env = (false, eval a X.env) :: starEach [] X.env := by rfl) (hpl : (backTo pos (starEach [] X.env)).any (·.1) = false := by rfl) : PD X e (.Call (.Name "sum" pf) [a] [] pos) (xUn rdSum tq) :=
  px_b1 (cr_sum hc) hg hm hv (fun x Q Q' h q => ⟨q.1, someOf_mono (fun _ => h _) q.2⟩) ha (fun ρ F σ H0 H v x Q rp dv q => by
    obtain ⟨b, xs⟩ := x
    obtain ⟨q1, q⟩ := q
    simp only at q1 q
    subst q1
    obtain ⟨ns, hns, q⟩ := someOf_of q
    obtain ⟨p, vs, e1, e2, e3⟩ := SeqOk.list dv
    subst e1
    rw [intsOf_dp hns e3] at e2
    exact ⟨p, ns, rfl, e2, q _ F H (.refl rp.ok) (.int _)⟩) (by decide) (by decide) he hpl
/-! ### isinstance -/
def tyN : D → String
  | .none => "NoneType"
  | .bool _ => "bool"
  | .int _ => "int"
  | .str _ => "str"
  | .list _ => "list"
  | .tuple _ => "tuple"
  | .dict _ => "dict"
theorem tyN_of {K : PySem.W.Frag} {F H : Hp} {v : V} {d : D} (s : Same F H) (dp : Dp K F v d) : TyX K H v (.type (tyN d)) := by
  cases dp with
  | non => exact .base .non
  | bl b => exact .base (.bl b)
  | int i => exact .base (.int i)
  | str x => exact .base (.str x)
  | lst h1 h2 =>
    rcases SqLmono s h1 with (h | ⟨o, h⟩) | ⟨o, its, n, h, hc, _⟩
    · exact .base (.lst h)
    · exact .base (.frz h)
    · exact .kList h hc
  | tup h1 h2 =>
    rcases SqTmono s h1 with (h | ⟨o, h⟩) | ⟨o, its, n, h, hc, _⟩
    · exact .base (.tup h)
    · exact .fTuple h
    · exact .kTuple h hc
/-- the answer, told by the type's name -/
def rdIsi (T : String) : R1 D D := fun x Q => match kitB (tyN x) T with | some b => Q (.bool b) | none => False
theorem pd_isi {T : String} (hg : Gl X "isinstance") (hm : X.mg "isinstance" = none) (hv : bootBuiltins "isinstance" = some (.builtin "isinstance")) (ha : PD X e a ta) (hb : PE X b (tC (.ty T)))
    (he : starEach [a, b] X.env = (false, eval a X.env) :: starEach [b] X.env := by rfl) (he2 : starEach [b] X.env = (false, eval b X.env) :: starEach [] X.env := by rfl) (hpl : (backTo pos (starEach [b] X.env)).any (·.1) = false := by rfl) :
    PD X e (.Call (.Name "isinstance" pf) [a, b] [] pos) (xUn (rdIsi T) ta) :=
  ⟨xUn_mono (fun x Q Q' h q => by
    unfold rdIsi at q ⊢
    split at q
    · exact h _ q
    · exact q.elim) ha.mono, imp (pe_callB call_isi hg hm hv (pa_cons ha.pe (pa_cons hb pa_nil he2) he) (by decide) (by decide) he hpl) fun σ H Q ⟨F, ρ, rp, q⟩ => ⟨F, ρ, rp, ha.mono ρ _ _ (fun d hd v F' H' g dv => by
      unfold rdIsi at hd
      split at hd
      · rename_i r hr
        exact ⟨v, _, _, _, r, rfl, .ty T, tyN_of g.ok.sub dv, kit_ty hr, hd _ F' H' g (.bl _)⟩
      · exact hd.elim) q⟩⟩
/-- isinstance(x, (T, U)) -/
def rdIsi2 (T U : String) : R1 D D := fun x Q => match kitB (tyN x) T, kitB (tyN x) U with | some b, some b' => Q (.bool (b || b')) | _, _ => False
theorem pd_isi2 {T U : String} {p3 : Pos} {x1} (hg : Gl X "isinstance") (hm : X.mg "isinstance" = none) (hv : bootBuiltins "isinstance" = some (.builtin "isinstance")) (ha : PD X e a ta) (hb : PE X b (tC (.ty T))) (hc : PE X c (tC (.ty U)))
    (he : starEach [a, .Tuple [b, c] x1 p3] X.env = (false, eval a X.env) :: starEach [.Tuple [b, c] x1 p3] X.env := by rfl) (he2 : starEach [.Tuple [b, c] x1 p3] X.env = (false, eval (.Tuple [b, c] x1 p3) X.env) :: starEach [] X.env := by rfl) (hpl : (backTo pos (starEach [.Tuple [b, c] x1 p3] X.env)).any (·.1) = false := by rfl)
    (hs : starEach [b, c] X.env = (false, eval b X.env) :: starEach [c] X.env := by rfl) (hs2 : starEach [c] X.env = (false, eval c X.env) :: starEach [] X.env := by rfl) :
    PD X e (.Call (.Name "isinstance" pf) [a, .Tuple [b, c] x1 p3] [] pos) (xUn (rdIsi2 T U) ta) :=
  ⟨xUn_mono (fun x Q Q' h q => by
    unfold rdIsi2 at q ⊢
    split at q
    · exact h _ q
    · exact q.elim) ha.mono, imp (pe_callB call_isiT hg hm hv (pa_cons ha.pe (pa_cons (pe_tup (pa_cons hb (pa_cons hc pa_nil hs2) hs)) pa_nil he2) he) (by decide) (by decide) he hpl) fun σ H Q ⟨F, ρ, rp, q⟩ => ⟨F, ρ, rp, ha.mono ρ _ _ (fun d hd v F' H' g dv => by
      unfold rdIsi2 at hd
      split at hd
      · rename_i r r' hr hr'
        refine ⟨by show 2 ≤ sizeLine; decide, fun p hp => ⟨v, p, _, _, [.type T, .type U], r || r', rfl, upd_same, .cons (.ty T) (.cons (.ty U) .nil), tyN_of (g.ok.sub.trans (sameNew hp)) dv, ?_, ?_⟩⟩
        · refine kitAny_cons (kit_ty hr) (fun z => ?_) (fun z => by rw [z]; rfl)
          rw [z, Bool.false_or]
          exact kitAny_cons (kit_ty hr') (fun z => by rw [z]; exact kitAny_nil) (fun z => z)
        · exact hd _ F' _ (g.trans rp.ok (Gr.newO g.ok rp.stay hp)) (.bl _)
      · exact hd.elim) q⟩⟩
end
end PL
set_option Elab.async false
set_option linter.all false
set_option maxRecDepth 100000
set_option maxHeartbeats 4000000
namespace PL
open PySem PySem.Spec PyProof.Rows L2
/-! ### slots that are set -/
section
variable {K : PySem.W.Frag} {e : Ent} {ρ : Ev} {σ : L2.St} {F H F' H' : Hp} {i : Nat} {v : V} {pv : PV}
theorem getSet {α : Type} {l : List (Option α)} {i j : Nat} {v x : α} (h : (l.set i (some v))[j]? = some (some x)) : (i = j ∧ v = x) ∨ (i ≠ j ∧ l[j]? = some (some x)) := by
  by_cases hij : i = j
  · subst hij
    rw [List.getElem?_set] at h
    simp at h
    exact .inl ⟨rfl, by have := h.2; simpa using this⟩
  · rw [List.getElem?_set_ne hij] at h
    exact .inr ⟨hij, h⟩
theorem setSelf {α : Type} {l : List (Option α)} {i : Nat} {v : α} (h : i < l.length) : (l.set i (some v))[i]? = some (some v) := by
  rw [List.getElem?_set_self h]
/-- the slot i gets v; no other slot holds it as its own -/
theorem Rp.set (r : Rp K e ρ F σ H) (h : SlotOk K e F H v pv) (hs : ∀ oc, pv = .own oc → ∀ (j : Nat) (o : OC) (a : Addr), j ≠ i → ρ[j]? = some (some (.own o)) → v = .ref a → σ[j]? ≠ some (some (.ref a))) : Rp K e (ρ.set i (some pv)) F (σ.set i (some v)) H where
  len := by rw [List.length_set, List.length_set]; exact r.len
  ok0 := r.ok0
  gr := r.gr
  stay := r.stay
  slots := fun j q hq => by
    rcases getSet hq with ⟨rfl, rfl⟩ | ⟨hij, hq⟩
    · refine ⟨v, ?_, h⟩
      have : i < ρ.length := by
        by_cases z : i < ρ.length
        · exact z
        · rw [List.getElem?_eq_none (by rw [List.length_set]; omega)] at hq
          cases hq
      exact setSelf (by rw [r.len]; exact this)
    · obtain ⟨u, h1, h2⟩ := r.slots j q hq
      exact ⟨u, by rw [List.getElem?_set_ne hij]; exact h1, h2⟩
  apart := fun j k x y a hjk hx hy hj hk => by
    rcases getSet hx with ⟨rfl, ex⟩ | ⟨h1, hx⟩
    · rcases getSet hy with ⟨rfl, _⟩ | ⟨h2, hy⟩
      · exact hjk rfl
      · rw [List.getElem?_set_ne h2] at hk
        rcases getSet hj with ⟨_, ev⟩ | ⟨h3, _⟩
        · exact hs x ex k y a (Ne.symm h2) hy ev hk
        · exact h3 rfl
    · rw [List.getElem?_set_ne h1] at hj
      rcases getSet hy with ⟨rfl, ey⟩ | ⟨h2, hy⟩
      · rcases getSet hk with ⟨_, ev⟩ | ⟨h3, _⟩
        · exact hs y ey j x a (Ne.symm h1) hx ev hj
        · exact h3 rfl
      · rw [List.getElem?_set_ne h2] at hk
        exact r.apart j k x y a hjk hx hy hj hk
theorem Rp.setD {d : D} (r : Rp K e ρ F σ H) (h : Dp K F v d) : Rp K e (ρ.set i (some (.imm d))) F (σ.set i (some v)) H := r.set h fun _ z => nomatch z
theorem Rp.noOwn {p : Addr} (r : Rp K e ρ F σ H) (h : H p = none) : ∀ (j : Nat) (o : OC), ρ[j]? = some (some (.own o)) → σ[j]? ≠ some (some (.ref p)) := fun j o q z => by
  obtain ⟨v, q1, a, e1, e2, _⟩ := r.slots j _ q
  rw [q1, e1] at z
  have : a = p := V.ref.inj (Option.some.inj (Option.some.inj z))
  obtain ⟨x, hx⟩ := e2.some
  rw [this, h] at hx
  cases hx
/-- kinds that may lie in a slot -/
structure Kv {e : Ent} {α : Type} (K : PySem.W.Frag) (k : Kd e α) (pv : α → PV) : Prop where
  set : ∀ {ρ : Ev} {F H : Hp} {σ : L2.St} {F' H' : Hp} {v : V} {x : α} (i : Nat), Rp K e ρ F σ H → Gr e.toDl F H F' H' → k.Ok H F' H' v x → Rp K e (ρ.set i (some (pv x))) F' (σ.set i (some v)) H'
  slot : ∀ {F0 H0 F H : Hp} {v : V} {x : α}, (∀ p, H0 p = none → e.H0 p = none) → k.Ok H0 F H v x → SlotOk K e F H v (pv x)
theorem kvD : Kv K (kD K e) PV.imm := ⟨fun i r g h => (r.step g).setD h, fun _ h => h⟩
theorem NOk.slot {H0 : Hp} {oc : OC} (hn : ∀ p, H0 p = none → e.H0 p = none) (h : NOk K e H0 F H v oc) : SlotOk K e F H v (.own oc) := by
  obtain ⟨a, e1, e2, e3, e4, e5⟩ := h
  exact ⟨a, e1, e2, e3, hn a e4, e5⟩
theorem setN {σ : L2.St} {ρ : Ev} {F H F' H' : Hp} {v : V} {oc : OC} (i : Nat) (r : Rp K e ρ F σ H) (g : Gr e.toDl F H F' H') (h : NOk K e H F' H' v oc) : Rp K e (ρ.set i (some (.own oc))) F' (σ.set i (some v)) H' :=
  (r.step g).set (NOk.slot (fun p hp => r.f0 hp) h) fun _ _ j o a hj hq ev => by
    obtain ⟨a', e1, e2, e3, e4, e5⟩ := h
    subst e1
    cases ev
    exact r.noOwn e4 j o hq
theorem kvN : Kv K (kN K e) PV.own := ⟨fun i r g h => setN i r g h, fun hn h => NOk.slot hn h⟩
theorem kvR : Kv K (kR e) PV.raw := ⟨fun i r g h => (r.step g).set h (fun _ z => nomatch z), fun _ h => h⟩
end
/-! ### statements -/
structure Es where
  nx : Ev → Prop
  rt : PV → Prop
  bk : Ev → Prop := fun _ => False
  ct : Ev → Prop := fun _ => False
/-- what a def hands back -/
def RSl (K : PySem.W.Frag) (e : Ent) (F H : Hp) (v : V) : PV → Prop
  | .two d o => ∃ t u p, v = .ref t ∧ SqT K H t [u, .ref p] ∧ Dp K F u d ∧ OCat K F H p o ∧ F p = none ∧ e.H0 p = none ∧ ¬ e.M p
  | .imm d => SlotOk K e F H v (.imm d)
  | .own d => SlotOk K e F H v (.own d)
  | .raw d => SlotOk K e F H v (.raw d)
  | .std a d => SlotOk K e F H v (.std a d)
theorem RSl.of {K : PySem.W.Frag} {e : Ent} {F H : Hp} {v : V} {pv : PV} (h : SlotOk K e F H v pv) : RSl K e F H v pv := by
  cases pv with
  | two d o => exact (show False from h).elim
  | imm d => exact h
  | own d => exact h
  | raw d => exact h
  | std a d => exact h
def RetOk (K : PySem.W.Frag) (e : Ent) (F H : Hp) (v : V) (pv : PV) : Prop := Gr e.toDl e.F0 e.H0 F H ∧ RSl K e F H v pv
structure Lk (K : PySem.W.Frag) (e : Ent) (Fl : Hp) (P : Es) (Dd : Ends) : Prop where
  nx : ∀ ρ σ F H, Same Fl F → Rp K e ρ F σ H → P.nx ρ → Dd.nx σ H
  rt : ∀ pv v F H, RetOk K e F H v pv → P.rt pv → Dd.rt v H
  bk : ∀ ρ σ F H, Same Fl F → Rp K e ρ F σ H → P.bk ρ → Dd.bk σ H
  ct : ∀ ρ σ F H, Same Fl F → Rp K e ρ F σ H → P.ct ρ → Dd.ct σ H
theorem Lk.up {K : PySem.W.Frag} {e : Ent} {F F' : Hp} {P : Es} {Dd : Ends} (l : Lk K e F P Dd) (s : Same F F') : Lk K e F' P Dd := ⟨fun ρ σ G H z => l.nx ρ σ G H (s.trans z), l.rt, fun ρ σ G H z => l.bk ρ σ G H (s.trans z), fun ρ σ G H z => l.ct ρ σ G H (s.trans z)⟩
abbrev TSt := Es → Ev → Prop
def liftS (K : PySem.W.Frag) (e : Ent) (t : TSt) : TS := fun Dd σ H => ∃ F ρ P, Rp K e ρ F σ H ∧ t P ρ ∧ Lk K e F P Dd
structure PSx (X : Cx) (e : Ent) (s : Stmt) (t : TSt) : Prop where
  ps : PS X s (liftS X.K e t)
structure PSxs (X : Cx) (e : Ent) (s : List Stmt) (t : TSt) : Prop where
  pss : PSs X s (liftS X.K e t)
section
variable {X : Cx} {e : Ent} {α β γ : Type} {k1 : Kd e α} {k2 : Kd e β} {a b c : Expr} {st : Stmt} {sts sts2 : List Stmt} {pos p2 pf : Pos} {ta tb : TX D} {sc : TX Bool} {tq tq2 : TX (Bool × List D)} {t u : TSt}
def zNil : TSt := fun P ρ => P.nx ρ
def zSeq (t u : TSt) : TSt := fun P ρ => t { P with nx := u P } ρ
theorem zs_nil : PSxs X e [] zNil := ⟨impSs pss_nil fun Dd σ H ⟨F, ρ, P, rp, q, lk⟩ => lk.nx ρ σ F H (Same.refl _) rp q⟩
theorem zs_cons (h : PSx X e st t) (h2 : PSxs X e sts u) : PSxs X e (st :: sts) (zSeq t u) := ⟨impSs (pss_cons h.ps h2.pss) fun Dd σ H ⟨F, ρ, P, rp, q, lk⟩ =>
  ⟨F, ρ, { P with nx := u P }, rp, q, ⟨fun ρ' σ' F' H' z rp' q' => ⟨F', ρ', P, rp', q', lk.up z⟩, lk.rt, lk.bk, lk.ct⟩⟩⟩
theorem zs_one (h : PSx X e st t) : PSxs X e [st] t := ⟨pss_one h.ps⟩
def zIf (s : TX Bool) (t u : TSt) : TSt := fun P ρ => s ρ fun k => if k = true then t P ρ else u P ρ
theorem z_if (hc : PB X e c sc) (h : PSxs X e sts t) (h2 : PSxs X e sts2 u) : PSx X e (.If c sts sts2 pos) (zIf sc t u) := ⟨impS (ps_if hc.pt h.pss h2.pss) fun Dd σ H ⟨F, ρ, P, rp, q, lk⟩ =>
  ⟨F, ρ, rp, hc.mono ρ _ _ (fun k hk F' H' g => by
    cases k with
    | true =>
      rw [if_pos rfl] at hk ⊢
      exact ⟨F', ρ, P, rp.step g, hk, lk.up g.fz⟩
    | false =>
      rw [if_neg Bool.false_ne_true] at hk ⊢
      exact ⟨F', ρ, P, rp.step g, hk, lk.up g.fz⟩) q⟩⟩
theorem z_pass : PSx X e (.Pass pos) zNil := ⟨impS ps_pass fun Dd σ H ⟨F, ρ, P, rp, q, lk⟩ => lk.nx ρ σ F H (Same.refl _) rp q⟩
def zBreak : TSt := fun P ρ => P.bk ρ
theorem z_break : PSx X e (.Break pos) zBreak := ⟨impS ps_break fun Dd σ H ⟨F, ρ, P, rp, q, lk⟩ => lk.bk ρ σ F H (Same.refl _) rp q⟩
def zCont : TSt := fun P ρ => P.ct ρ
theorem z_continue : PSx X e (.Continue pos) zCont := ⟨impS ps_continue fun Dd σ H ⟨F, ρ, P, rp, q, lk⟩ => lk.ct ρ σ F H (Same.refl _) rp q⟩
/-- name = e -/
def zSet {α : Type} (pv : α → PV) (i : Nat) (ta : TX α) : TSt := fun P ρ => ta ρ fun d => P.nx (ρ.set i (some (pv d)))
theorem z_set {i : Nat} {x : Str} {p' : Pos} {tx : TX α} {pv : α → PV} (kv : Kv X.K k1 pv) (hN : X.N.Nodup) (hi : X.N[i]? = some x) (hx : Loc X.env.scope x) (h : PX X e k1 a tx) (hs : swapsWith a (some (.Name x p')) pos.line X.env = pure false := by rfl) (hf : X.fn x = true ∨ X.env.scope.names.lookup x = some .local := by first | exact .inl rfl | exact .inr rfl | assumption) :
    PSx X e (.Assign [.Name x p'] a pos) (zSet pv i tx) := ⟨impS (ps_set hN hi hx h.pe hs hf) fun Dd σ H ⟨F, ρ, P, rp, q, lk⟩ =>
  ⟨F, ρ, rp, h.mono ρ _ _ (fun d hd v F' H' g dv => lk.nx _ _ F' H' g.fz (kv.set i rp g dv) hd) q⟩⟩
/-- return e -/
def zRet {α : Type} (pv : α → PV) (ta : TX α) : TSt := fun P ρ => ta ρ fun d => P.rt (pv d)
theorem z_ret {tx : TX α} {pv : α → PV} (kv : Kv X.K k1 pv) (h : PX X e k1 a tx) : PSx X e (.Return (some a) pos) (zRet pv tx) := ⟨impS (ps_ret h.pe) fun Dd σ H ⟨F, ρ, P, rp, q, lk⟩ =>
  ⟨F, ρ, rp, h.mono ρ _ _ (fun d hd v F' H' g dv => lk.rt _ v F' H' ⟨(rp.step g).gr, RSl.of (kv.slot (F0 := F) (fun p hp => rp.f0 hp) dv)⟩ hd) q⟩⟩
def zRetO (i : Nat) : TSt := fun P ρ => match ρ[i]? with | some (some (.own o)) => P.rt (.own o) | _ => False
theorem z_retO {i : Nat} (h : PE X a (tVar i)) : PSx X e (.Return (some a) pos) (zRetO i) := ⟨impS (ps_ret h) fun Dd σ H ⟨F, ρ, P, rp, q, lk⟩ => by
  unfold zRetO at q
  split at q
  · rename_i o h1
    obtain ⟨v, h2, h3⟩ := rp.slots i _ h1
    exact ⟨v, h2, lk.rt _ v F H ⟨rp.gr, RSl.of h3⟩ q⟩
  · exact q.elim⟩
def zRetN : TSt := fun P ρ => P.rt (.imm .none)
theorem z_retN : PSx X e (.Return none pos) zRetN := ⟨impS ps_retN fun Dd σ H ⟨F, ρ, P, rp, q, lk⟩ => lk.rt (.imm .none) .non F H ⟨rp.gr, (Dp.non : Dp X.K F .non .none)⟩ q⟩
/-- an expression whose worth is dropped -/
def zDrop {α : Type} (ta : TX α) : TSt := fun P ρ => ta ρ fun _ => P.nx ρ
theorem z_expr {tx : TX α} (h : PX X e k1 a tx) (hs : swapsWith a none pos.line X.env = pure false := by rfl) : PSx X e (.Expr a pos) (zDrop tx) := ⟨impS (ps_expr h.pe hs) fun Dd σ H ⟨F, ρ, P, rp, q, lk⟩ =>
  ⟨F, ρ, rp, h.mono ρ _ _ (fun d hd v F' H' g dv => lk.nx _ _ F' H' g.fz (rp.step g) hd) q⟩⟩
/-! one's own lists are changed -/
section
variable {K : PySem.W.Frag} {ρ : Ev} {σ : L2.St} {F H : Hp} {i : Nat} {p : Addr} {o o' : OC} {x : HO}
/-- the thing of the slot i is written anew -/
theorem Rp.write (r : Rp K e ρ F σ H) (hi : ρ[i]? = some (some (.own o))) (hp : σ[i]? = some (some (.ref p))) (h : OCat K F (upd H p x) p o') : Rp K e (ρ.set i (some (.own o'))) F σ (upd H p x) := by
  obtain ⟨v, h1, a, e1, e2, e3, e4, e5⟩ := r.slots i _ hi
  rw [hp] at h1
  have e0 : V.ref p = v := Option.some.inj (Option.some.inj h1)
  rw [← e0] at e1
  have e1 : p = a := V.ref.inj e1
  subst e1
  have ne : ∀ b u, F b = some u → b ≠ p := fun b u q z => by rw [z, e3] at q; cases q
  refine ⟨by rw [List.length_set]; exact r.len, r.ok0, ⟨r.gr.fz, r.gr.new, fun b u q m => ?_, ⟨fun b u q => ?_, fun b m => ⟨(r.ok.mu b m).1, ?_⟩, r.stay _ _ r.ok.inv fun b m => ?_⟩⟩, r.stay, fun j q hq => ?_, fun j k y z b hjk hy hz hj => ?_⟩
  · rw [upd_ne (fun z => by rw [z, e4] at q; cases q)]
    exact r.gr.st b u q m
  · rw [upd_ne (ne b u q)]
    exact r.sub b u q
  · obtain ⟨_, u, q⟩ := r.ok.mu b m
    exact ⟨u, by rw [upd_ne (fun z => e5 (by rw [← z]; exact m))]; exact q⟩
  · rw [upd_ne (fun z => e5 (by rw [← z]; exact m))]
  · rcases getSet hq with ⟨rfl, rfl⟩ | ⟨hij, hq⟩
    · exact ⟨_, hp, p, rfl, h, e3, e4, e5⟩
    · obtain ⟨w, q1, q2⟩ := r.slots j q hq
      refine ⟨w, q1, ?_⟩
      cases q with
      | imm d => exact q2
      | raw d => exact q2
      | std _ d => exact q2
      | two _ _ => exact q2.elim
      | own oc =>
        obtain ⟨b, f1, f2, f3, f4, f5⟩ := q2
        refine ⟨b, f1, f2.mono (Same.refl _) fun y hy => ?_, f3, f4, f5⟩
        rw [upd_ne (fun z => ?_)]
        · exact hy
        · subst z
          subst f1
          exact r.apart i j _ _ _ hij hi hq hp q1
  · rcases getSet hy with ⟨rfl, _⟩ | ⟨h1, hy⟩
    · rcases getSet hz with ⟨rfl, _⟩ | ⟨h2, hz⟩
      · exact absurd rfl hjk
      · exact r.apart i k _ _ b hjk hi hz hj
    · rcases getSet hz with ⟨rfl, _⟩ | ⟨h2, hz⟩
      · exact r.apart j i _ _ b hjk hy hi hj
      · exact r.apart j k _ _ b hjk hy hz hj
theorem Rp.ownL {xs : List D} (r : Rp K e ρ F σ H) (hi : ρ[i]? = some (some (.own (.lst xs)))) : ∃ p vs, σ[i]? = some (some (.ref p)) ∧ H p = some (.lst vs) ∧ DpAll K F vs xs ∧ ¬ e.M p := by
  obtain ⟨v, h1, a, e1, ⟨vs, e2, e2'⟩, e3, e4, e5⟩ := r.slots i _ hi
  subst e1
  exact ⟨a, vs, h1, e2, e2', e5⟩
end
def ownL (i : Nat) (ρ : Ev) (Q : List D → Prop) : Prop := match ρ[i]? with | some (some (.own (.lst xs))) => Q xs | _ => False
theorem ownL_of {i : Nat} {ρ : Ev} {Q : List D → Prop} (q : ownL i ρ Q) : ∃ xs, ρ[i]? = some (some (.own (.lst xs))) ∧ Q xs := by
  unfold ownL at q
  split at q
  · rename_i xs h
    exact ⟨xs, h, q⟩
  · exact q.elim
theorem ownL_mono {i : Nat} {ρ : Ev} {Q Q' : List D → Prop} (h : ∀ x, Q x → Q' x) (q : ownL i ρ Q) : ownL i ρ Q' := by
  unfold ownL at q ⊢
  split at q
  · exact h _ q
  · exact q.elim
theorem ownL_there {K : PySem.W.Frag} {i : Nat} {ρ : Ev} {F H : Hp} {σ : L2.St} {xs : List D} (rp : Rp K e ρ F σ H) (hi : ρ[i]? = some (some (.own (.lst xs)))) : ∃ p, σ[i]? = some (some (.ref p)) ∧ tyV K "list" (.ref p) H := by
  obtain ⟨p, vs, h1, h2, h3, h4⟩ := rp.ownL hi
  exact ⟨p, h1, .inl ⟨rfl, vs, SqL.of h2⟩⟩
variable {apos : Pos}
/-- the receiver comes first: the list must stand then -/
def zAppG (i : Nat) (ta : TX D) : TSt := fun P ρ => ownL i ρ fun xs => ta ρ fun d => xs.length < sizeLine ∧ P.nx (ρ.set i (some (.own (.lst (xs ++ [d])))))
theorem z_app {i : Nat} (ho : PE X a (tVar i)) (h : PD X e b ta) (hb0 : attributeBase a "append" X.env (eval a X.env) = eval a X.env := by rfl)
    (hfew : ((backTo p2 (starEach [b] X.env)).all (fun x => !x.1) && (backToKw p2 (keywordEach [] X.env)).all (fun x => x.1.isSome) && decide ([b].length + ([] : List Keyword).length + (if ([] : List Keyword).isEmpty then 0 else 1) < 30)) = true := by rfl)
    (hline : (apos.endLine == p2.line) = true := by rfl) (hst : starEach [b] X.env = (false, eval b X.env) :: starEach [] X.env := by rfl) (hpl : (backTo p2 (starEach [] X.env)).any (·.1) = false := by rfl)
    (hs : swapsWith (.Call (.Attribute a "append" apos) [b] [] p2) none pos.line X.env = pure false := by rfl) : PSx X e (.Expr (.Call (.Attribute a "append" apos) [b] [] p2) pos) (zAppG i ta) :=
  ⟨impS (ps_expr (pe_bm PySem.F.plainAttrs_list PySem.F.slot_list_append PySem.F.type_list_append mt_append ho (pa_cons h.pe pa_nil hst) hb0 hfew hline hst hpl) hs) fun Dd σ H ⟨F, ρ, P, rp, q, lk⟩ => by
    obtain ⟨xs, h1, q⟩ := ownL_of q
    obtain ⟨p, vs, g1, g2, g3, g4⟩ := rp.ownL h1
    refine ⟨.ref p, g1, .inl ⟨rfl, vs, SqL.of g2⟩, F, ρ, rp, h.mono ρ _ _ (fun d hd v F' H' g dv => ?_) q⟩
    have g2' := g.st p _ g2 g4
    refine ⟨p, vs, v, rfl, rfl, g2', by rw [DpAll.len g3]; exact hd.1, ?_⟩
    exact lk.nx _ _ F' _ g.fz ((rp.step g).write (o' := .lst (xs ++ [d])) h1 g1 ⟨_, upd_same, DpAll.app (dpAllMono g.fz xs g3) (.cons dv .nil)⟩) hd.2⟩
/-- the worth of l.pop() as a reading that changes the slot -/
theorem pop_ok {K : PySem.W.Frag} {i : Nat} {ρ : Ev} {F H : Hp} {σ : L2.St} {xs : List D} {d : D} (rp : Rp K e ρ F σ H) (h1 : ρ[i]? = some (some (.own (.lst xs)))) (hd : xs[xs.length - 1]? = some d) :
    ∃ p vs v, σ[i]? = some (some (.ref p)) ∧ H p = some (.lst vs) ∧ vs[vs.length - 1]? = some v ∧ Dp K F v d ∧ Rp K e (ρ.set i (some (.own (.lst xs.dropLast)))) F σ (upd H p (.lst vs.dropLast)) := by
  obtain ⟨p, vs, g1, g2, g3, g4⟩ := rp.ownL h1
  obtain ⟨v, g5, g6⟩ := DpAll.get g3 hd
  exact ⟨p, vs, v, g1, g2, by rw [DpAll.len g3]; exact g5, g6, rp.write (o' := .lst xs.dropLast) h1 g1 ⟨_, upd_same, DpAll.dropLast g3⟩⟩
/-! targets -/
theorem wipe_put {σ : L2.St} {i : Nat} {x : Option V} : ∀ {vs : List Nat}, i ∈ vs → wipe (σ.set i x) vs = wipe σ vs
  | [], h => by cases h
  | v :: vs, h => by
    unfold wipe
    by_cases hv : i = v
    · subst hv
      by_cases hm : i ∈ vs
      · rw [wipe_put hm]
      · clear h
        have : ∀ ws : List Nat, i ∉ ws → wipe (σ.set i x) ws = (wipe σ ws).set i x := fun ws => by
          induction ws with
          | nil => intro _; rfl
          | cons w ws ih =>
            intro hn
            unfold wipe
            rw [ih (fun z => hn (List.mem_cons_of_mem _ z))]
            exact List.set_comm _ _ (fun z => hn (by rw [z]; exact List.mem_cons_self ..))
        rw [this vs hm, List.set_set]
    · have hm : i ∈ vs := by
        rcases List.mem_cons.mp h with z | z
        · exact absurd z hv
        · exact z
      rw [wipe_put hm]
/-- only the slots of is have turned; nothing is owned that was not -/
structure Only (is : List Nat) (ρ : Ev) (σ : L2.St) (ρ' : Ev) (σ' : L2.St) : Prop where
  w : ∀ vs : List Nat, (∀ i ∈ is, i ∈ vs) → wipe σ' vs = wipe σ vs
  o : ∀ (j : Nat) (oc : OC), ρ'[j]? = some (some (.own oc)) → ρ[j]? = some (some (.own oc)) ∧ σ'[j]? = σ[j]?
def liftG (K : PySem.W.Frag) (e : Ent) (is : List Nat) (t : D → Ev → (Ev → Prop) → Prop) : TG := fun v σ H Q => ∃ F ρ d, Rp K e ρ F σ H ∧ Dp K F v d ∧ t d ρ fun ρ' => ∀ σ', Rp K e ρ' F σ' H → Only is ρ σ ρ' σ' → Q σ' H
structure PGx (X : Cx) (e : Ent) (is : List Nat) (a : Expr) (t : D → Ev → (Ev → Prop) → Prop) : Prop where
  mono : ∀ d ρ (Q Q' : Ev → Prop), (∀ x, Q x → Q' x) → t d ρ Q → t d ρ Q'
  pg : PG X a (liftG X.K e is t)
def liftGs (K : PySem.W.Frag) (e : Ent) (is : List Nat) (t : List D → Ev → (Ev → Prop) → Prop) : TGs := fun vs σ H Q => ∃ F ρ ds, Rp K e ρ F σ H ∧ DpAll K F vs ds ∧ t ds ρ fun ρ' => ∀ σ', Rp K e ρ' F σ' H → Only is ρ σ ρ' σ' → Q σ' H
structure PGxs (X : Cx) (e : Ent) (is : List Nat) (a : List Expr) (t : List D → Ev → (Ev → Prop) → Prop) : Prop where
  mono : ∀ d ρ (Q Q' : Ev → Prop), (∀ x, Q x → Q' x) → t d ρ Q → t d ρ Q'
  pgs : PGs X a (liftGs X.K e is t)
def yName (i : Nat) : D → Ev → (Ev → Prop) → Prop := fun d ρ Q => Q (ρ.set i (some (.imm d)))
theorem y_name {i : Nat} (h : PG X a (gName i)) : PGx X e [i] a (yName i) := ⟨fun d ρ Q Q' k q => k _ q, ⟨fun pins s σ H v u Q I r ⟨F, ρ, d, rp, dv, q⟩ => h.run pins s σ H v u Q I r (q _ (rp.setD dv) ⟨fun vs hv => wipe_put (hv i (List.mem_singleton.mpr rfl)), fun j oc hj => by
    rcases getSet hj with ⟨_, z⟩ | ⟨hij, hj⟩
    · cases z
    · exact ⟨hj, by rw [List.getElem?_set_ne hij]⟩⟩)⟩⟩
def yNil : List D → Ev → (Ev → Prop) → Prop := fun ds ρ Q => match ds with | [] => Q ρ | _ => False
def yCons (t : D → Ev → (Ev → Prop) → Prop) (u : List D → Ev → (Ev → Prop) → Prop) : List D → Ev → (Ev → Prop) → Prop := fun ds ρ Q => match ds with | d :: r => t d ρ fun ρ' => u r ρ' Q | [] => False
theorem ys_nil : PGxs X e [] [] yNil := ⟨fun d ρ Q Q' k q => by
  cases d with
  | nil => exact k _ q
  | cons d r => exact q, ⟨fun pins s σ H vs us Q I r ⟨F, ρ, ds, rp, dv, q⟩ => pgs_nil.run pins s σ H vs us Q I r (by
    cases ds with
    | cons d r => exact (show False from q).elim
    | nil =>
      cases dv
      exact ⟨rfl, (show ∀ σ', Rp X.K e ρ F σ' H → Only [] ρ σ ρ σ' → Q σ' H from q) σ rp ⟨fun _ _ => rfl, fun j oc hj => ⟨hj, rfl⟩⟩⟩)⟩⟩
theorem ys_cons {es : List Expr} {is js : List Nat} {t : D → Ev → (Ev → Prop) → Prop} {u : List D → Ev → (Ev → Prop) → Prop} (h1 : PGx X e is a t) (h2 : PGxs X e js es u) (hs : (assignEach (a :: es) X.env).map (·.2) = assign a X.env :: (assignEach es X.env).map (·.2) := by rfl) : PGxs X e (is ++ js) (a :: es) (yCons t u) :=
  ⟨fun d ρ Q Q' k q => by
    cases d with
    | nil => exact q
    | cons d r => exact h1.mono d ρ _ _ (fun x hx => h2.mono r x Q Q' k hx) q, ⟨fun pins s σ H vs us Q I rr ⟨F, ρ, ds, rp, dv, q⟩ => (pgs_cons h1.pg h2.pgs hs).run pins s σ H vs us Q I rr (by
    cases ds with
    | nil => exact (show False from q).elim
    | cons d r =>
      cases dv with
      | cons d1 d2 => exact ⟨_, _, rfl, F, ρ, d, rp, d1, h1.mono d ρ _ _ (fun x hx σ' rp' o1 => ⟨F, x, r, rp', d2, h2.mono r x _ _ (fun y hy σ2 rp2 o2 => hy σ2 rp2 ⟨fun vs hv => (o2.w vs fun i hi => hv i (List.mem_append_right _ hi)).trans (o1.w vs fun i hi => hv i (List.mem_append_left _ hi)), fun j oc hj => by
        obtain ⟨h1, h2⟩ := o2.o j oc hj
        obtain ⟨h3, h4⟩ := o1.o j oc h1
        exact ⟨h3, h2.trans h4⟩⟩) hx⟩) q⟩)⟩⟩
def yTup (n : Nat) (u : List D → Ev → (Ev → Prop) → Prop) : D → Ev → (Ev → Prop) → Prop := fun d ρ Q => match d with | .tuple ds => ds.length = n ∧ u ds ρ Q | _ => False
theorem y_tup {es : List Expr} {is : List Nat} {k n : Nat} {u : List D → Ev → (Ev → Prop) → Prop} (hc : X.calm = true) (h : PGxs X e is es u) (hn : (assignEach es X.env).length = n := by rfl) (hst : (assignEach es X.env).findIdx? (·.1) = none := by rfl) : PGx X e is (.Tuple es k pos) (yTup n u) :=
  ⟨fun d ρ Q Q' k q => by
    unfold yTup at q ⊢
    split at q
    · exact ⟨q.1, h.mono _ ρ Q Q' k q.2⟩
    · exact q.elim, ⟨fun pins s σ H v w Q I r ⟨F, ρ, d, rp, dv, q⟩ => (pg_tup hc h.pgs hn hst).run pins s σ H v w Q I r (by
    unfold yTup at q
    split at q
    · cases dv with
      | tup h1 h2 => exact ⟨_, _, rfl, SqTmono rp.sub h1, by rw [DpAll.len h2]; exact q.1, F, ρ, _, rp, h2, q.2⟩
    · exact q.elim)⟩⟩
/-- target = e -/
def zAsg (ta : TX D) (g : D → Ev → (Ev → Prop) → Prop) : TSt := fun P ρ => ta ρ fun d => g d ρ P.nx
theorem z_asg {tg : Expr} {is : List Nat} {g : D → Ev → (Ev → Prop) → Prop} (h : PD X e a ta) (hg : PGx X e is tg g) (hs : swapsWithSole [tg] a pos.line X.env = pure false := by rfl) (hw : swappedStores [tg] a X.env = pure none := by rfl)
    (h1 : (assignEach [tg] X.env).map (·.2) = [assign tg X.env] := by rfl) : PSx X e (.Assign [tg] a pos) (zAsg ta g) := ⟨impS (ps_asg h.pe hg.pg hs hw h1) fun Dd σ H ⟨F, ρ, P, rp, q, lk⟩ =>
  ⟨F, ρ, rp, h.mono ρ _ _ (fun d hd v F' H' g' dv => ⟨F', ρ, d, rp.step g', dv, hg.mono d ρ _ _ (fun x hx σ' rp' _ => lk.nx x σ' F' H' g'.fz rp' hx) hd⟩) q⟩⟩
/-- target = l.pop() -/
def zPop (i : Nat) (g : D → Ev → (Ev → Prop) → Prop) : TSt := fun P ρ => ownL i ρ fun xs => match xs[xs.length - 1]? with | some d => g d (ρ.set i (some (.own (.lst xs.dropLast)))) P.nx | none => False
theorem z_pop {i : Nat} {tg : Expr} {is : List Nat} {g : D → Ev → (Ev → Prop) → Prop} (ho : PE X a (tVar i)) (hg : PGx X e is tg g) (hb0 : attributeBase a "pop" X.env (eval a X.env) = eval a X.env := by rfl) (hline : (apos.endLine == p2.line) = true := by rfl)
    (hs : swapsWithSole [tg] (.Call (.Attribute a "pop" apos) [] [] p2) pos.line X.env = pure false := by rfl) (hw : swappedStores [tg] (.Call (.Attribute a "pop" apos) [] [] p2) X.env = pure none := by rfl)
    (h1 : (assignEach [tg] X.env).map (·.2) = [assign tg X.env] := by rfl) : PSx X e (.Assign [tg] (.Call (.Attribute a "pop" apos) [] [] p2) pos) (zPop i g) :=
  ⟨impS (ps_asg (pe_bm0 PySem.F.plainAttrs_list PySem.F.slot_list_pop PySem.F.type_list_pop mt_pop ho hb0 hline) hg.pg hs hw h1) fun Dd σ H ⟨F, ρ, P, rp, q, lk⟩ => by
    obtain ⟨xs, h1, q⟩ := ownL_of q
    split at q
    · rename_i d hd
      obtain ⟨p, vs, v, g1, g2, g3, g4, g5⟩ := pop_ok rp h1 hd
      exact ⟨.ref p, g1, .inl ⟨rfl, vs, SqL.of g2⟩, p, vs, v, rfl, rfl, g2, g3, F, _, d, g5, g4, hg.mono d _ _ _ (fun x hx σ' rp' _ => lk.nx x σ' F _ (Same.refl _) rp' hx) q⟩
    · exact q.elim⟩
theorem z_popN {i : Nat} {x : Str} {px : Pos} {g : D → Ev → (Ev → Prop) → Prop} {j : Nat} (hN : X.N.Nodup) (hi : X.N[j]? = some x) (hx : Loc X.env.scope x) (ho : PE X a (tVar i)) (hb0 : attributeBase a "pop" X.env (eval a X.env) = eval a X.env := by rfl) (hline : (apos.endLine == p2.line) = true := by rfl)
    (hs : swapsWith (.Call (.Attribute a "pop" apos) [] [] p2) (some (.Name x px)) pos.line X.env = pure false := by rfl) (hf : X.fn x = true ∨ X.env.scope.names.lookup x = some .local := by first | exact .inl rfl | exact .inr rfl | assumption) : PSx X e (.Assign [.Name x px] (.Call (.Attribute a "pop" apos) [] [] p2) pos) (zPop i (yName j)) :=
  ⟨impS (ps_set hN hi hx (pe_bm0 PySem.F.plainAttrs_list PySem.F.slot_list_pop PySem.F.type_list_pop mt_pop ho hb0 hline) hs hf) fun Dd σ H ⟨F, ρ, P, rp, q, lk⟩ => by
    obtain ⟨xs, h1, q⟩ := ownL_of q
    split at q
    · rename_i d hd
      obtain ⟨p, vs, v, g1, g2, g3, g4, g5⟩ := pop_ok rp h1 hd
      exact ⟨.ref p, g1, .inl ⟨rfl, vs, SqL.of g2⟩, p, vs, v, rfl, rfl, g2, g3, lk.nx _ _ F _ (Same.refl _) (g5.setD g4) q⟩
    · exact q.elim⟩
/-- l[i] = e, l one's own -/
def zStore (i : Nat) (tb ta : TX D) : TSt := fun P ρ => ta ρ fun d => ownL i ρ fun xs => tb ρ fun k => match k with | .int n => someOf (ixN xs.length n) fun j => P.nx (ρ.set i (some (.own (.lst (xs.set j d))))) | _ => False
theorem z_store {i : Nat} (h : PD X e a ta) (ho : PE X c (tVar i)) (hi : PD X e b tb)
    (ha : ∀ v, assign (.Subscript c b p2) X.env v = (do
      let ov ← holding [v] (eval c X.env)
      let iv ← holding [v, ov] (eval b X.env)
      standAt p2
      holding [v, ov, iv] (setItem ov iv v)
      release [v, ov, iv] []) := by intro _; rfl)
    (hs : swapsWithSole [.Subscript c b p2] a pos.line X.env = pure false := by rfl) (hw : swappedStores [.Subscript c b p2] a X.env = pure none := by rfl)
    (h1 : (assignEach [.Subscript c b p2] X.env).map (·.2) = [assign (.Subscript c b p2) X.env] := by rfl) : PSx X e (.Assign [.Subscript c b p2] a pos) (zStore i tb ta) :=
  ⟨impS (ps_asg h.pe (pg_sub ho hi.pe set_list ha) hs hw h1) fun Dd σ H ⟨F, ρ, P, rp, q, lk⟩ => ⟨F, ρ, rp, h.mono ρ _ _ (fun d hd v F1 H1 g1 dv => by
    have rp1 := rp.step g1
    obtain ⟨xs, hx, hd⟩ := ownL_of hd
    obtain ⟨p, vs, q1, q2, q3, q4⟩ := rp1.ownL hx
    refine ⟨.ref p, q1, F1, ρ, rp1, hi.mono ρ _ _ (fun k hk w F2 H2 g2 dw => ?_) hd⟩
    cases k with
    | int n =>
      obtain ⟨j, hj, hk⟩ := someOf_of (show someOf (ixN xs.length n) fun j => P.nx (ρ.set i (some (.own (.lst (xs.set j d))))) from hk)
      · cases dw
        have q3' := dpAllMono g2.fz xs q3
        refine ⟨p, vs, n, j, rfl, rfl, g2.st p _ q2 q4, by rw [DpAll.len q3]; exact hj, lk.nx _ _ F2 _ (g1.fz.trans g2.fz) ((rp1.step g2).write (o' := .lst (xs.set j d)) hx q1 ⟨_, upd_same, DpAll.set (dpMono g2.fz d dv) j q3'⟩) hk⟩
    | _ => exact (show False from hk).elim) q⟩⟩
end
end PL
set_option Elab.async false
set_option linter.all false
set_option maxRecDepth 100000
set_option maxHeartbeats 4000000
namespace PL
open PySem PySem.Spec PyProof.Rows L2
/-! ### what is walked -/
structure WalkOk (K : PySem.W.Frag) (e : Ent) (fz : Bool) (F H : Hp) (J : It) (xs : List D) : Prop where
  ex : ∃ G Y, Walk J xs.length G Y ∧ (∀ H' : Hp, (if fz = true then Same F H' else Same (Msk e.M H) (Msk e.M H')) → G H') ∧
    ∀ i H1 x H2 d F1, xs[i]? = some d → Same F F1 → e.toDl.Ok F1 H1 → e.toDl.Stay → Y i H1 x H2 → ∃ F2, Gr e.toDl F1 H1 F2 H2 ∧ Dp K F2 x d
def liftI (K : PySem.W.Frag) (e : Ent) (fz : Bool) (t : TX (List D)) : TI := fun σ H R => ∃ F ρ, Rp K e ρ F σ H ∧ t ρ fun xs => ∀ J F' H', Gr e.toDl F H F' H' → WalkOk K e fz F' H' J xs → R J H'
structure PIx (X : Cx) (e : Ent) (fz : Bool) (tg it : Expr) (t : TX (List D)) : Prop where
  mono : MonoX t
  pi : PI X tg it (liftI X.K e fz t)
theorem impI {X : Cx} {tg x : Expr} {t t' : TI} (h : PI X tg x t) (k : ∀ σ H Q, t' σ H Q → t σ H Q) : PI X tg x t' := ⟨fun pins s σ H R I q => h.run pins s σ H R I (k σ H R q)⟩
section
variable {X : Cx} {e : Ent} {α β γ : Type} {k1 : Kd e α} {k2 : Kd e β} {a b c tg : Expr} {fz : Bool} {pos p2 pf : Pos} {ta tb : TX D} {sc : TX Bool} {tq tq2 : TX (Bool × List D)}
theorem walkL {K : PySem.W.Frag} {F H : Hp} {p : Addr} {vs : List V} {xs : List D} (h : DpAll K F vs xs) (hG : ∀ H' : Hp, (if fz = true then Same F H' else Same (Msk e.M H) (Msk e.M H')) → SqL K H' p vs) : WalkOk K e fz F H (Itl K p) xs :=
  ⟨_, _, by rw [← DpAll.len h]; exact walk_list, hG, fun i H1 x H2 d F1 hd s ok st y => by
    obtain ⟨rfl, y⟩ := y
    obtain ⟨v, h1, h2⟩ := DpAll.get h hd
    rw [y] at h1
    cases h1
    exact ⟨F1, Gr.refl ok, dpMono s d h2⟩⟩
theorem walkT {K : PySem.W.Frag} {F H : Hp} {p : Addr} {vs : List V} {xs : List D} (h : DpAll K F vs xs) (hG : ∀ H' : Hp, (if fz = true then Same F H' else Same (Msk e.M H) (Msk e.M H')) → SqT K H' p vs) : WalkOk K e fz F H (Itt K p) xs :=
  ⟨_, _, by rw [← DpAll.len h]; exact walk_tup, hG, fun i H1 x H2 d F1 hd s ok st y => by
    obtain ⟨rfl, y⟩ := y
    obtain ⟨v, h1, h2⟩ := DpAll.get h hd
    rw [y] at h1
    cases h1
    exact ⟨F1, Gr.refl ok, dpMono s d h2⟩⟩
def listOf (d : D) (Q : List D → Prop) : Prop := match d with | .list xs => Q xs | _ => False
def tupOf (d : D) (Q : List D → Prop) : Prop := match d with | .tuple xs => Q xs | _ => False
theorem listOf_mono {d : D} {Q Q' : List D → Prop} (h : ∀ x, Q x → Q' x) (q : listOf d Q) : listOf d Q' := by
  unfold listOf at q ⊢
  split at q
  · exact h _ q
  · exact q.elim
theorem tupOf_mono {d : D} {Q Q' : List D → Prop} (h : ∀ x, Q x → Q' x) (q : tupOf d Q) : tupOf d Q' := by
  unfold tupOf at q ⊢
  split at q
  · exact h _ q
  · exact q.elim
def iL (ta : TX D) : TX (List D) := fun ρ Q => ta ρ fun d => listOf d Q
def iT (ta : TX D) : TX (List D) := fun ρ Q => ta ρ fun d => tupOf d Q
def iO (tq : TX (Bool × List D)) : TX (List D) := fun ρ Q => tq ρ fun x => x.1 = false ∧ Q x.2
theorem stabD {K : PySem.W.Frag} {F H H' : Hp} (ok : e.toDl.Ok F H) (h : if fz = true then Same F H' else Same (Msk e.M H) (Msk e.M H')) : Same F H' := by
  cases fz with
  | true =>
    rw [if_pos rfl] at h
    exact h
  | false =>
    rw [if_neg Bool.false_ne_true] at h
    exact (ok.msk.trans h).trans msk_sub
/-- over data that is a list -/
theorem pi_l (h : PD X e a ta) : PIx X e fz tg a (iL ta) := ⟨fun ρ Q Q' k q => h.mono ρ _ _ (fun d hd => listOf_mono k hd) q, impI (pi_list h.pe) fun σ H R ⟨F, ρ, rp, q⟩ => ⟨F, ρ, rp, h.mono ρ _ _ (fun d hd v F' H' g dv => by
    unfold listOf at hd
    split at hd
    · cases dv with
      | lst h1 h2 => exact ⟨_, rfl, ⟨_, SqLmono g.ok.sub h1⟩, hd _ F' H' g (walkL h2 fun H' z => SqLmono (stabD (K := X.K) g.ok z) h1)⟩
    · exact hd.elim) q⟩⟩
theorem pi_t (h : PD X e a ta) : PIx X e fz tg a (iT ta) := ⟨fun ρ Q Q' k q => h.mono ρ _ _ (fun d hd => tupOf_mono k hd) q, impI (pi_tup h.pe) fun σ H R ⟨F, ρ, rp, q⟩ => ⟨F, ρ, rp, h.mono ρ _ _ (fun d hd v F' H' g dv => by
    unfold tupOf at hd
    split at hd
    · cases dv with
      | tup h1 h2 => exact ⟨_, rfl, ⟨_, SqTmono g.ok.sub h1⟩, hd _ F' H' g (walkT h2 fun H' z => SqTmono (stabD (K := X.K) g.ok z) h1)⟩
    · exact hd.elim) q⟩⟩
/-- .. a list that is one's own, or fresh (in a comprehension) -/
theorem pi_o (h : PQ X e a tq) : PIx X e false tg a (iO tq) := ⟨fun ρ Q Q' k q => h.mono ρ _ _ (fun d hd => ⟨hd.1, k _ hd.2⟩) q, impI (pi_list h.pe) fun σ H R ⟨F, ρ, rp, q⟩ => ⟨F, ρ, rp, h.mono ρ _ _ (fun d hd v F' H' g dv => by
    obtain ⟨b, xs⟩ := d
    obtain ⟨e1, hd⟩ := hd
    simp only at e1
    subst e1
    obtain ⟨p, vs, e1, e2, e3⟩ := dv
    rw [if_neg Bool.false_ne_true] at e2
    exact ⟨p, e1, ⟨vs, SqLmono msk_sub e2⟩, hd _ F' H' g (walkL e3 fun H' z => by
      rw [if_neg Bool.false_ne_true] at z
      exact SqLmono (z.trans msk_sub) e2)⟩) q⟩⟩
def intsD (lo : Int) (n : Nat) : List D := (List.range n).map fun i => .int (lo + (i : Nat))
theorem walkR {K : PySem.W.Frag} {F H : Hp} {lo : Int} {n : Nat} : WalkOk K e fz F H (Itr lo n) (intsD lo n) :=
  ⟨_, _, by unfold intsD; rw [List.length_map, List.length_range]; exact walk_range, fun _ _ => trivial, fun i H1 x H2 d F1 hd s ok st y => by
    obtain ⟨rfl, y⟩ := y
    subst y
    unfold intsD at hd
    rw [List.getElem?_map] at hd
    obtain ⟨j, h1, h2⟩ := Option.map_eq_some_iff.mp hd
    rw [List.getElem?_range (by
      by_cases z : i < n
      · exact z
      · rw [List.getElem?_eq_none (by rw [List.length_range]; omega)] at h1
        cases h1)] at h1
    cases h1
    subst h2
    exact ⟨F1, Gr.refl ok, .int _⟩⟩
def iR1 (ta : TX D) : TX (List D) := fun ρ Q => ta ρ fun d => match d with | .int j => (-(2 ^ 62) ≤ j ∧ j < 2 ^ 62) ∧ Q (intsD 0 j.toNat) | _ => False
theorem pi_r1 (hg : Gl X "range") (hm : X.mg "range" = none) (h : PD X e a ta) (hs : starEach [a] X.env = [(false, eval a X.env)] := by rfl) : PIx X e fz tg (.Call (.Name "range" pf) [a] [] pos) (iR1 ta) :=
  ⟨fun ρ Q Q' k q => h.mono ρ _ _ (fun d hd => by
    cases d with
    | int j => exact ⟨hd.1, k _ hd.2⟩
    | _ => exact hd) q, impI (pi_range1 hg hm (pa_cons h.pe pa_nil hs) hs) fun σ H R ⟨F, ρ, rp, q⟩ => ⟨F, ρ, rp, h.mono ρ _ _ (fun d hd v F' H' g dv => by
    cases d with
    | int j =>
      cases dv
      exact ⟨j, rfl, hd.1.1, hd.1.2, (show ∀ J F' H', Gr e.toDl F H F' H' → WalkOk X.K e fz F' H' J (intsD 0 j.toNat) → R J H' from hd.2) _ F' H' g walkR⟩
    | _ => exact (show False from hd).elim) q⟩⟩
def iR2 (ta tb : TX D) : TX (List D) := fun ρ Q => ta ρ fun d => tb ρ fun d' => match d, d' with | .int i, .int j => (-(2 ^ 62) ≤ i ∧ i < 2 ^ 62 ∧ -(2 ^ 62) ≤ j ∧ j < 2 ^ 62) ∧ Q (intsD i (j - i).toNat) | _, _ => False
theorem pi_r2 (hg : Gl X "range") (hm : X.mg "range" = none) (h : PD X e a ta) (h2 : PD X e b tb) (hs : starEach [a, b] X.env = [(false, eval a X.env), (false, eval b X.env)] := by rfl) (hs2 : starEach [b] X.env = [(false, eval b X.env)] := by rfl) : PIx X e fz tg (.Call (.Name "range" pf) [a, b] [] pos) (iR2 ta tb) :=
  ⟨fun ρ Q Q' k q => h.mono ρ _ _ (fun d hd => h2.mono ρ _ _ (fun d' hd' => by
    split at hd' <;> first | exact ⟨hd'.1, k _ hd'.2⟩ | exact hd'.elim) hd) q, impI (pi_range2 hg hm (pa_cons h.pe (pa_cons h2.pe pa_nil hs2) (by rw [hs, hs2])) hs hs2) fun σ H R ⟨F, ρ, rp, q⟩ => ⟨F, ρ, rp, h.mono ρ _ _ (fun d hd v F1 H1 g1 dv => ⟨F1, ρ, rp.step g1, h2.mono ρ _ _ (fun d' hd' w F2 H2 g2 dw => by
    split at hd'
    · cases dv
      cases dw
      exact ⟨_, _, rfl, hd'.1, hd'.2 _ F2 H2 (g1.trans rp.ok g2) walkR⟩
    · exact hd'.elim) hd⟩) q⟩⟩
/-! ### for -/
variable {it : Expr} {is : List Nat} {sts : List Stmt} {tl : TX (List D)} {t u : TSt} {g : D → Ev → (Ev → Prop) → Prop}
def forT (g : D → Ev → (Ev → Prop) → Prop) (tb : TSt) (P : Es) : List D → Ev → Prop
  | [], ρ => P.nx ρ
  | d :: r, ρ => g d ρ fun ρ' => tb { P with nx := forT g tb P r, ct := forT g tb P r, bk := P.nx } ρ'
def zFor (tl : TX (List D)) (g : D → Ev → (Ev → Prop) → Prop) (tb : TSt) : TSt := fun P ρ => tl ρ fun xs => forT g tb P xs ρ
theorem z_for (hp : PassesOwn (model X.prog X.w) X.A X.env X.xe) (hc : X.calm = true) (hi : PIx X e true tg it tl) (hg : PGx X e is tg g) (hb : PSxs X e sts t) (hs : ∀ x, foldedSetIterable it X.env x = pure x := by intro _; rfl) : PSx X e (.For tg it sts [] pos) (zFor tl g t) :=
  ⟨impS (ps_for hp hc hi.pi hg.pg hb.pss hs) fun Dd σ H ⟨F, ρ, P, rp, q, lk⟩ => ⟨F, ρ, rp, hi.mono ρ _ _ (fun xs hxs J F1 H1 g1 ⟨G, Y, w, hG, hY⟩ => by
    refine for_it w (fun i σ H => ∃ F2 ρ2, Rp X.K e ρ2 F2 σ H ∧ Same F1 F2 ∧ forT g t P (xs.drop i) ρ2) ⟨F1, ρ, rp.step g1, Same.refl _, by rw [List.drop_zero]; exact hxs⟩ (fun i σ2 H2 _ ⟨F2, ρ2, rp2, s2, _⟩ => hG H2 (by rw [if_pos rfl]; exact s2.trans rp2.sub)) (fun i x σ2 H2 H3 hi' ⟨F2, ρ2, rp2, s2, q2⟩ y => ?_) (fun σ2 H2 ⟨F2, ρ2, rp2, s2, q2⟩ => ?_)
    · obtain ⟨d, hd⟩ : ∃ d, xs[i]? = some d := ⟨xs[i], by simp [hi']⟩
      obtain ⟨F3, g3, dv⟩ := hY i H2 x H3 d F2 hd s2 rp2.ok rp2.stay y
      have e1 : xs.drop i = d :: xs.drop (i + 1) := by
        rw [List.drop_eq_getElem_cons hi']
        congr 1
        have := List.getElem?_eq_some_iff.mp hd
        exact this.2
      rw [e1] at q2
      refine ⟨F3, ρ2, d, rp2.step g3, dv, hg.mono d ρ2 _ _ (fun ρ3 q3 σ3 rp3 _ => ⟨F3, ρ3, _, rp3, q3, ?_⟩) q2⟩
      have s3 := s2.trans g3.fz
      exact ⟨fun ρ4 σ4 F4 H4 z rp4 q4 => ⟨F4, ρ4, rp4, s3.trans z, q4⟩, lk.rt, fun ρ4 σ4 F4 H4 z rp4 q4 => lk.nx ρ4 σ4 F4 H4 (g1.fz.trans (s3.trans z)) rp4 q4, fun ρ4 σ4 F4 H4 z rp4 q4 => ⟨F4, ρ4, rp4, s3.trans z, q4⟩⟩
    · rw [List.drop_length] at q2
      exact lk.nx ρ2 σ2 F2 H2 (g1.fz.trans s2) rp2 q2) q⟩⟩
/-! ### while -/
def zWhile (s : TX Bool) (tb : TSt) : TSt := fun P ρ => ∃ W : Nat → Ev → Prop, (∃ m, W m ρ) ∧ ∀ m ρ, W m ρ → s ρ fun k => if k = true then tb { P with nx := fun ρ' => ∃ m', m' < m ∧ W m' ρ', ct := fun ρ' => ∃ m', m' < m ∧ W m' ρ', bk := P.nx } ρ else P.nx ρ
theorem z_while (hp : PassesOwn (model X.prog X.w) X.A X.env X.xe) (hc : PB X e c sc) (hb : PSxs X e sts t) : PSx X e (.While c sts [] pos) (zWhile sc t) :=
  ⟨impS (ps_while hp hc.pt hb.pss) fun Dd σ H ⟨F, ρ, P, rp, ⟨W, ⟨m0, w0⟩, turn⟩, lk⟩ => by
    refine ⟨fun m σ H => ∃ F2 ρ2, Rp X.K e ρ2 F2 σ H ∧ Same F F2 ∧ W m ρ2, ⟨m0, F, ρ, rp, Same.refl _, w0⟩, fun m σ2 H2 ⟨F2, ρ2, rp2, s2, w2⟩ => ⟨F2, ρ2, rp2, hc.mono ρ2 _ _ (fun k hk F3 H3 g3 => ?_) (turn m ρ2 w2)⟩⟩
    have s3 := s2.trans g3.fz
    cases k with
    | true =>
      rw [if_pos rfl] at hk
      refine iteT ⟨fun σ' H' => ∃ m', m' < m ∧ ∃ F2 ρ2, Rp X.K e ρ2 F2 σ' H' ∧ Same F F2 ∧ W m' ρ2, fun _ _ z => z, F3, ρ2, _, rp2.step g3, hk, ?_⟩
      exact ⟨fun ρ4 σ4 F4 H4 z rp4 ⟨m', hm, w4⟩ => ⟨m', hm, F4, ρ4, rp4, s3.trans z, w4⟩, lk.rt, fun ρ4 σ4 F4 H4 z rp4 q4 => lk.nx ρ4 σ4 F4 H4 (s3.trans z) rp4 q4, fun ρ4 σ4 F4 H4 z rp4 ⟨m', hm, w4⟩ => ⟨m', hm, F4, ρ4, rp4, s3.trans z, w4⟩⟩
    | false =>
      rw [if_neg Bool.false_ne_true] at hk
      exact iteF (lk.nx ρ2 σ2 F3 H3 s3 (rp2.step g3) hk)⟩
/-! ### comprehensions -/
def wipeE (ρ : Ev) : List Nat → Ev
  | [] => ρ
  | v :: vs => (wipeE ρ vs).set v none
theorem getNone {α : Type} {l : List (Option α)} {i j : Nat} {x : α} (h : (l.set i none)[j]? = some (some x)) : i ≠ j ∧ l[j]? = some (some x) := by
  by_cases hij : i = j
  · subst hij
    rw [List.getElem?_set] at h
    simp at h
  · rw [List.getElem?_set_ne hij] at h
    exact ⟨hij, h⟩
theorem Rp.wipe1 {K : PySem.W.Frag} {ρ : Ev} {σ : L2.St} {F H : Hp} {i : Nat} (r : Rp K e ρ F σ H) : Rp K e (ρ.set i none) F (σ.set i none) H where
  len := by rw [List.length_set, List.length_set]; exact r.len
  ok0 := r.ok0
  gr := r.gr
  stay := r.stay
  slots := fun j q hq => by
    obtain ⟨hij, hq⟩ := getNone hq
    obtain ⟨v, h1, h2⟩ := r.slots j q hq
    exact ⟨v, by rw [List.getElem?_set_ne hij]; exact h1, h2⟩
  apart := fun j k x y a hjk hx hy hj hk => by
    obtain ⟨h1, hx⟩ := getNone hx
    obtain ⟨h2, hy⟩ := getNone hy
    rw [List.getElem?_set_ne h1] at hj
    rw [List.getElem?_set_ne h2] at hk
    exact r.apart j k x y a hjk hx hy hj hk
theorem Rp.wipe {K : PySem.W.Frag} {ρ : Ev} {σ : L2.St} {F H : Hp} (r : Rp K e ρ F σ H) : ∀ vs : List Nat, Rp K e (wipeE ρ vs) F (wipe σ vs) H
  | [] => r
  | v :: vs => (Rp.wipe r vs).wipe1
def compT (g : D → Ev → (Ev → Prop) → Prop) (tt : TX Bool) (te : TX D) (ρ : Ev) : List D → List D → (List D → Prop) → Prop
  | [], acc, Q => Q acc
  | d :: r, acc, Q => g d ρ fun ρ' => tt ρ' fun k => if k = true then te ρ' fun y => acc.length < sizeLine ∧ compT g tt te ρ r (acc ++ [y]) Q else compT g tt te ρ r acc Q
structure PTx (X : Cx) (e : Ent) (ifs : List Expr) (t : TX Bool) : Prop where
  mono : MonoX t
  pts : PTs X ifs (liftT X.K e t)
theorem px_yes : PTx X e [] (xC true) := ⟨xC_mono, ⟨fun pins s σ H Q I ⟨F, ρ, rp, q⟩ => pts_nil.run pins s σ H Q I (q F H (.refl rp.ok))⟩⟩
theorem px_one (h : PB X e c sc) : PTx X e [c] sc := ⟨h.mono, pts_one h.pt⟩
theorem compT_mono {tt : TX Bool} {te : TX D} (mg : ∀ d ρ (Q Q' : Ev → Prop), (∀ x, Q x → Q' x) → g d ρ Q → g d ρ Q') (mt : MonoX tt) (me : MonoX te) {ρ : Ev} {Q Q' : List D → Prop} (k : ∀ x, Q x → Q' x) : ∀ (xs acc : List D), compT g tt te ρ xs acc Q → compT g tt te ρ xs acc Q'
  | [], acc, q => k _ q
  | d :: r, acc, q => mg d ρ _ _ (fun ρ' q => mt ρ' _ _ (fun b q => by
    cases b with
    | true =>
      rw [if_pos rfl] at q ⊢
      exact me ρ' _ _ (fun y q => ⟨q.1, compT_mono mg mt me k r _ q.2⟩) q
    | false =>
      rw [if_neg Bool.false_ne_true] at q ⊢
      exact compT_mono mg mt me k r _ q) q) q
def xLc (tl : TX (List D)) (g : D → Ev → (Ev → Prop) → Prop) (tt : TX Bool) (te : TX D) (vs : List Nat) : TX OC := fun ρ Q => tl ρ fun xs => compT g tt te (wipeE ρ vs) xs [] fun ys => Q (.lst ys)
theorem lc_read {K : PySem.W.Frag} {fzz : Bool} {own : List (Str × Nat)} {tt : TX Bool} {te : TX D} (mi : MonoX tl) (mg : ∀ d ρ (Q Q' : Ev → Prop), (∀ x, Q x → Q' x) → g d ρ Q → g d ρ Q') (mt : MonoX tt) (me : MonoX te) (hv : ∀ i ∈ is, i ∈ own.map (·.2)) {σ : L2.St} {H : Hp} {Q : VK}
    (h : lift K e (kN K e) (xLc tl g tt te (own.map (·.2))) σ H Q) : tLc (liftI K e false tl) (liftG K e is g) (liftT K e tt) (lift K e (kD K e) te) (own.map (·.2)) σ H Q := by
  obtain ⟨F, ρ, rp, q⟩ := h
  refine ⟨F, ρ, rp, mi ρ _ _ (fun xs hxs J F1 H1 g1 ⟨G, Y, w, hG, hY⟩ => ?_) q⟩
  intro Dn hD
  have rp1 := rp.step g1
  have hm : ¬ e.M Dn := g1.ok.fM hD
  -- what stands at each turn: the new list at Dn with acc, the rest of the comprehension
  refine lc_it w (fun i H2 => ∃ F2 acc vs, Gr e.toDl F1 H1 F2 H2 ∧ H2 Dn = some (.lst vs) ∧ DpAll K F2 vs acc ∧ F2 Dn = none ∧ compT g tt te (wipeE ρ (own.map (·.2))) (xs.drop i) acc (fun ys => Fin (kN K e) F H Q (.lst ys))) ?_ ?_ ?_ ?_
  · exact ⟨F1, [], [], Gr.newO g1.ok rp1.stay hD, upd_same, .nil, g1.ok.sub.free hD, by rw [List.drop_zero]; exact hxs⟩
  · intro i H2 _ ⟨F2, acc, vs, g2, _⟩
    refine hG H2 ?_
    rw [if_neg Bool.false_ne_true]
    exact g2.msk
  · intro i x H2 H3 hi' ⟨F2, acc, vs, g2, hDn, hacc, hF, q2⟩ y
    obtain ⟨d, hd⟩ : ∃ d, xs[i]? = some d := ⟨xs[i], by simp [hi']⟩
    obtain ⟨F3, g3, dv⟩ := hY i H2 x H3 d F2 hd g2.fz g2.ok rp1.stay y
    have e1 : xs.drop i = d :: xs.drop (i + 1) := by
      rw [List.drop_eq_getElem_cons hi']
      congr 1
      exact (List.getElem?_eq_some_iff.mp hd).2
    rw [e1, compT] at q2
    have g13 := g2.trans g1.ok g3
    have rp3 : Rp K e ρ F3 σ H3 := rp1.step g13
    refine ⟨F3, wipeE ρ (own.map (·.2)), d, rp3.wipe _, dv, mg d _ _ _ (fun ρ4 q4 σ4 rp4 o4 => ?_) q2⟩
    refine ⟨?_, F3, ρ4, rp4, mt ρ4 _ _ (fun k hk F5 H5 g5 => ?_) q4⟩
    · have := o4.w (own.map (·.2)) hv
      rw [this]
      have : ∀ vs : List Nat, wipe (wipe σ vs) vs = wipe σ vs := fun vs => by
        have key : ∀ (us ws : List Nat), (∀ u ∈ us, u ∈ ws) → wipe (wipe σ us) ws = wipe σ ws := fun us => by
          induction us with
          | nil => intro ws _; rfl
          | cons u us ih =>
            intro ws h
            show wipe ((wipe σ us).set u none) ws = wipe σ ws
            rw [wipe_put (h u (List.mem_cons_self ..)), ih ws fun z hz => h z (List.mem_cons_of_mem _ hz)]
        exact key vs vs fun _ z => z
      exact this _
    have g15 := g13.trans g1.ok g5
    have keepD : ∀ (F6 H6 : Hp), Gr e.toDl F3 H3 F6 H6 → H6 Dn = some (.lst vs) ∧ F6 Dn = none := fun F6 H6 g6 => by
      have a1 := g6.st Dn _ (g3.st Dn _ hDn hm) hm
      refine ⟨a1, ?_⟩
      cases z : F6 Dn with
      | none => rfl
      | some u =>
        have b3 : F3 Dn = none := by
          cases z3 : F3 Dn with
          | none => rfl
          | some u3 =>
            have := g3.new Dn u3 z3 hF
            rw [hDn] at this
            cases this
        have := g6.new Dn u z b3
        rw [g3.st Dn _ hDn hm] at this
        cases this
    cases k with
    | false =>
      rw [if_neg Bool.false_ne_true] at hk
      refine iteF ?_
      obtain ⟨a1, a2⟩ := keepD F5 H5 g5
      exact ⟨F5, acc, vs, g15, a1, dpAllMono (g3.fz.trans g5.fz) acc hacc, a2, hk⟩
    | true =>
      rw [if_pos rfl] at hk
      refine iteT ⟨F5, ρ4, rp4.step g5, me ρ4 _ _ (fun y' hy v F6 H6 g6 dv6 => ?_) hk⟩
      have g36 := g5.trans rp4.ok g6
      obtain ⟨a1, a2⟩ := keepD F6 H6 g36
      have acc6 := dpAllMono (g3.fz.trans g36.fz) acc hacc
      refine ⟨vs, a1, by rw [DpAll.len hacc]; exact hy.1, F6, acc ++ [y'], vs ++ [v], ?_, upd_same, DpAll.app acc6 (.cons dv6 .nil), a2, hy.2⟩
      have g16 := g15.trans g1.ok g6
      have ne : ∀ b u, F6 b = some u → b ≠ Dn := fun b u q z => by rw [z, a2] at q; cases q
      exact ⟨g16.fz, g16.new, fun b u q m => by rw [upd_ne (ne_of_none q hD)]; exact g16.st b u q m, ⟨fun b u q => by rw [upd_ne (ne b u q)]; exact g16.ok.sub b u q, fun b m => ⟨(g16.ok.mu b m).1, by
        obtain ⟨_, u, q⟩ := g16.ok.mu b m
        exact ⟨u, by rw [upd_ne (fun z => hm (by rw [← z]; exact m))]; exact q⟩⟩, rp1.stay _ _ g16.ok.inv fun b m => by rw [upd_ne (fun z => hm (by rw [← z]; exact m))]⟩⟩
  · intro H2 ⟨F2, acc, vs, g2, hDn, hacc, hF, q2⟩
    rw [List.drop_length] at q2
    have q2 : Fin (kN K e) F H Q (.lst acc) := q2
    refine q2 (.ref Dn) F2 H2 (g1.trans rp.ok g2) ⟨Dn, rfl, ⟨vs, hDn, hacc⟩, hF, ?_, hm⟩
    cases z : H Dn with
    | none => rfl
    | some u =>
      have := g1.st Dn u z hm
      rw [hD] at this
      cases this
theorem pn_lc {elt iter : Expr} {ifs : List Expr} {scope : Scope} {own : List (Str × Nat)} {tt : TX Bool} {te : TX D} (hc : X.calm = true) (hN : X.N.Nodup) (hi : PIx X e false tg iter tl) (ok : BlkOk X.N X.env.scope scope own)
    (hg : ∀ (s : Shared) (H : Hp) (C : Addr) (cl : List (Str × Addr)) (fp : List Addr), PGx (X.blk s H scope (compEnvC scope cl C X.env) fp) e is tg g) (ht : ∀ (s : Shared) (H : Hp) (C : Addr) (cl : List (Str × Addr)) (fp : List Addr), PTx (X.blk s H scope (compEnvC scope cl C X.env) fp) e ifs tt)
    (he : ∀ (s : Shared) (H : Hp) (C : Addr) (cl : List (Str × Addr)) (fp : List Addr), PD (X.blk s H scope (compEnvC scope cl C X.env) fp) e elt te) (hv : ∀ i ∈ is, i ∈ own.map (·.2)) (hs : ∀ x, foldedSetIterable iter X.env x = pure x := by intro _; rfl) :
    PN X e (.ListComp elt [⟨tg, iter, ifs, 0⟩] scope pos) (xLc tl g tt te (own.map (·.2))) := by
  have mg := (hg X.s_0 (fun _ => none) 0 [] []).mono
  have mt := (ht X.s_0 (fun _ => none) 0 [] []).mono
  have me := (he X.s_0 (fun _ => none) 0 [] []).mono
  exact ⟨fun ρ Q Q' k q => hi.mono ρ _ _ (fun xs hxs => compT_mono mg mt me (fun ys => k _) xs [] hxs) q, imp (pe_lc (g := liftG X.K e is g) (tt := liftT X.K e tt) (te := lift X.K e (kD X.K e) te) hc hN hi.pi ok (fun s H C cl fp => (hg s H C cl fp).pg) (fun s H C cl fp => (ht s H C cl fp).pts) (fun s H C cl fp => (he s H C cl fp).pe) hs) fun σ H Q h => lc_read (fzz := true) hi.mono mg mt me hv h⟩
/-- name = [..] on one line -/
theorem z_setLc {α : Type} {k1 : Kd e α} {pv : α → PV} {tx : TX α} {i : Nat} {y : Str} {py : Pos} {elt iter : Expr} {ifs : List Expr} {scope : Scope} {own : List (Str × Nat)} {spos : Pos} {tt : TX Bool} {te : TX D} (hc : X.calm = true) (hN : X.N.Nodup) (hy : X.N[i]? = some y) (hyl : X.env.scope.names.lookup y = some .local)
    (hsw : swapsWith (.ListComp elt [⟨tg, iter, ifs, 0⟩] scope pos) (some (.Name y py)) spos.line X.env = pure true) (hi : PIx X e false tg iter tl) (ok : BlkOk X.N X.env.scope scope own)
    (hg : ∀ (s : Shared) (H : Hp) (C : Addr) (cl : List (Str × Addr)) (fp : List Addr), PGx (X.blk s H scope (compEnvC scope cl C X.env) fp) e is tg g) (ht : ∀ (s : Shared) (H : Hp) (C : Addr) (cl : List (Str × Addr)) (fp : List Addr), PTx (X.blk s H scope (compEnvC scope cl C X.env) fp) e ifs tt)
    (he : ∀ (s : Shared) (H : Hp) (C : Addr) (cl : List (Str × Addr)) (fp : List Addr), PD (X.blk s H scope (compEnvC scope cl C X.env) fp) e elt te) (hv : ∀ i ∈ is, i ∈ own.map (·.2)) (hs : ∀ x, foldedSetIterable iter X.env x = pure x := by intro _; rfl) :
    PSx X e (.Assign [.Name y py] (.ListComp elt [⟨tg, iter, ifs, 0⟩] scope pos) spos) (zSet .own i (xLc tl g tt te (own.map (·.2)))) := by
  have mg := (hg X.s_0 (fun _ => none) 0 [] []).mono
  have mt := (ht X.s_0 (fun _ => none) 0 [] []).mono
  have me := (he X.s_0 (fun _ => none) 0 [] []).mono
  refine ⟨impS (ps_setLc (g := liftG X.K e is g) (tt := liftT X.K e tt) (te := lift X.K e (kD X.K e) te) hc hN hy hyl hsw hi.pi ok (fun s H C cl fp => (hg s H C cl fp).pg) (fun s H C cl fp => (ht s H C cl fp).pts) (fun s H C cl fp => (he s H C cl fp).pe) hs) fun Dd σ H ⟨F, ρ, P, rp, q, lk⟩ => ?_⟩
  refine lc_read (fzz := true) hi.mono mg mt me hv ⟨F, ρ, rp, hi.mono ρ _ _ (fun xs hxs => compT_mono mg mt me (fun ys hys => ?_) xs [] hxs) q⟩
  exact fun v F' H' g' dv => lk.nx _ _ F' H' g'.fz (kvN.set i rp g' dv) hys
/-- .. frozen at once -/
theorem z_setLcD {α : Type} {k1 : Kd e α} {pv : α → PV} {tx : TX α} {i : Nat} {y : Str} {py : Pos} {elt iter : Expr} {ifs : List Expr} {scope : Scope} {own : List (Str × Nat)} {spos : Pos} {tt : TX Bool} {te : TX D} (hc : X.calm = true) (hN : X.N.Nodup) (hy : X.N[i]? = some y) (hyl : X.env.scope.names.lookup y = some .local)
    (hsw : swapsWith (.ListComp elt [⟨tg, iter, ifs, 0⟩] scope pos) (some (.Name y py)) spos.line X.env = pure true) (hi : PIx X e false tg iter tl) (ok : BlkOk X.N X.env.scope scope own)
    (hg : ∀ (s : Shared) (H : Hp) (C : Addr) (cl : List (Str × Addr)) (fp : List Addr), PGx (X.blk s H scope (compEnvC scope cl C X.env) fp) e is tg g) (ht : ∀ (s : Shared) (H : Hp) (C : Addr) (cl : List (Str × Addr)) (fp : List Addr), PTx (X.blk s H scope (compEnvC scope cl C X.env) fp) e ifs tt)
    (he : ∀ (s : Shared) (H : Hp) (C : Addr) (cl : List (Str × Addr)) (fp : List Addr), PD (X.blk s H scope (compEnvC scope cl C X.env) fp) e elt te) (hv : ∀ i ∈ is, i ∈ own.map (·.2)) (hs : ∀ x, foldedSetIterable iter X.env x = pure x := by intro _; rfl) :
    PSx X e (.Assign [.Name y py] (.ListComp elt [⟨tg, iter, ifs, 0⟩] scope pos) spos) (zSet .imm i (xND (xLc tl g tt te (own.map (·.2))))) := by
  have mg := (hg X.s_0 (fun _ => none) 0 [] []).mono
  have mt := (ht X.s_0 (fun _ => none) 0 [] []).mono
  have me := (he X.s_0 (fun _ => none) 0 [] []).mono
  refine ⟨impS (ps_setLc (g := liftG X.K e is g) (tt := liftT X.K e tt) (te := lift X.K e (kD X.K e) te) hc hN hy hyl hsw hi.pi ok (fun s H C cl fp => (hg s H C cl fp).pg) (fun s H C cl fp => (ht s H C cl fp).pts) (fun s H C cl fp => (he s H C cl fp).pe) hs) fun Dd σ H ⟨F, ρ, P, rp, q, lk⟩ => ?_⟩
  refine lc_read (fzz := true) hi.mono mg mt me hv ⟨F, ρ, rp, hi.mono ρ _ _ (fun xs hxs => compT_mono mg mt me (fun ys hys => ?_) xs [] hxs) q⟩
  intro v F' H' g' dv
  obtain ⟨p, e1, ⟨vs, e2, e3⟩, e4, e5, e6⟩ := dv
  subst e1
  have gf := Gr.freeze rp.ok g' e2 e5 e4 e6
  exact lk.nx _ _ _ H' gf.fz (kvD.set i rp gf (.lst (SqL.of upd_same) (dpAllMono (sameNew e4) ys e3))) hys
end
end PL
set_option Elab.async false
set_option linter.all false
set_option maxRecDepth 100000
set_option maxHeartbeats 4000000
namespace PL
open PySem PySem.Spec PyProof.Rows L2
/-! ### what a def promises, over data -/
abbrev PF := Dl → List PV → (PV → Prop) → Prop
def MonoF (tf : PF) : Prop := ∀ dl pvs (Q Q' : PV → Prop), (∀ x, Q x → Q' x) → tf dl pvs Q → tf dl pvs Q'
def ArgOk (K : PySem.W.Frag) (F : Hp) (v : V) : PV → Prop
  | .imm d => Dp K F v d
  | .raw w => v = w
  | .std a kvs => StdOk K F v a kvs
  | .own _ => False
  | .two _ _ => False
inductive ArgsOk (K : PySem.W.Frag) (F : Hp) : List V → List PV → Prop
  | nil : ArgsOk K F [] []
  | cons {v : V} {vs : List V} {p : PV} {ps : List PV} : ArgOk K F v p → ArgsOk K F vs ps → ArgsOk K F (v :: vs) (p :: ps)
theorem ArgsOk.mono {K : PySem.W.Frag} {F F' : Hp} (s : Same F F') : ∀ {vs : List V} {ps : List PV}, ArgsOk K F vs ps → ArgsOk K F' vs ps
  | _, _, .nil => .nil
  | _, _, .cons (p := p) a t => .cons (by
      cases p with
      | imm d => exact dpMono s d a
      | raw w => exact a
      | std b w => exact a.mono s
      | two _ _ => exact a
      | own o => exact a) (ArgsOk.mono s t)
theorem ArgsOk.length {K : PySem.W.Frag} {F : Hp} : ∀ {vs : List V} {ps : List PV}, ArgsOk K F vs ps → vs.length = ps.length
  | _, _, .nil => rfl
  | _, _, .cons _ t => congrArg (· + 1) (ArgsOk.length t)
def RtOk (K : PySem.W.Frag) (dl : Dl) (H F' H' : Hp) (v : V) : PV → Prop
  | .imm d => Dp K F' v d
  | .raw w => v = w
  | .std a kvs => StdOk K F' v a kvs
  | .own oc => ∃ a, v = .ref a ∧ OCat K F' H' a oc ∧ F' a = none ∧ H a = none ∧ ¬ dl.M a
  | .two d oc => ∃ t u p, v = .ref t ∧ SqT K H' t [u, .ref p] ∧ Dp K F' u d ∧ OCat K F' H' p oc ∧ F' p = none ∧ H p = none ∧ ¬ dl.M p
def Prm (K : PySem.W.Frag) (tf : PF) : Sp := fun vs H Q _ => ∃ F dl pvs, dl.Ok F H ∧ dl.Stay ∧ ArgsOk K F vs pvs ∧ tf dl pvs fun pv => ∀ v F' H', Gr dl F H F' H' → RtOk K dl H F' H' v pv → Q v H'
def liftAv (K : PySem.W.Frag) (e : Ent) (t : TX (List PV)) : TA := fun σ H Q => ∃ F ρ, Rp K e ρ F σ H ∧ t ρ fun ds => ∀ vs F' H', Gr e.toDl F H F' H' → ArgsOk K F' vs ds → Q vs H'
structure PAv (X : Cx) (e : Ent) (x : List Expr) (t : TX (List PV)) : Prop where
  mono : MonoX t
  pa : PA X x (liftAv X.K e t)
section
variable {X : Cx} {e : Ent} {α β γ : Type} {k1 : Kd e α} {k2 : Kd e β} {a b c : Expr} {es : List Expr} {pos p2 pf : Pos} {ta tb : TX D} {tr : TX V} {tl : TX (List PV)}
theorem pav_nil : PAv X e [] (xC []) := ⟨xC_mono, impA pa_nil fun σ H Q ⟨F, ρ, rp, q⟩ => q [] F H (.refl rp.ok) .nil⟩
def vCons {α : Type} (f : α → PV) (t : TX α) (r : TX (List PV)) : TX (List PV) := fun ρ Q => t ρ fun d => r ρ fun ds => Q (f d :: ds)
theorem pav_d (h : PD X e a ta) (hr : PAv X e es tl) (hs : starEach (a :: es) X.env = (false, eval a X.env) :: starEach es X.env := by rfl) : PAv X e (a :: es) (vCons .imm ta tl) :=
  ⟨fun ρ Q Q' k q => h.mono ρ _ _ (fun d hd => hr.mono ρ _ _ (fun ds hds => k _ hds) hd) q, impA (pa_cons h.pe hr.pa hs) fun σ H Q ⟨F, ρ, rp, q⟩ => ⟨F, ρ, rp, h.mono ρ _ _ (fun d hd v F1 H1 g dv =>
    ⟨F1, ρ, rp.step g, hr.mono ρ _ _ (fun ds hds vs F2 H2 g2 dvs => hds (v :: vs) F2 H2 (g.trans rp.ok g2) (.cons (show Dp X.K F2 v d from dpMono g2.fz d dv) dvs)) hd⟩) q⟩⟩
theorem pav_r (h : PR X e a tr) (hr : PAv X e es tl) (hs : starEach (a :: es) X.env = (false, eval a X.env) :: starEach es X.env := by rfl) : PAv X e (a :: es) (vCons .raw tr tl) :=
  ⟨fun ρ Q Q' k q => h.mono ρ _ _ (fun d hd => hr.mono ρ _ _ (fun ds hds => k _ hds) hd) q, impA (pa_cons h.pe hr.pa hs) fun σ H Q ⟨F, ρ, rp, q⟩ => ⟨F, ρ, rp, h.mono ρ _ _ (fun d hd v F1 H1 g dv =>
    ⟨F1, ρ, rp.step g, hr.mono ρ _ _ (fun ds hds vs F2 H2 g2 dvs => hds (v :: vs) F2 H2 (g.trans rp.ok g2) (.cons (show v = d from dv) dvs)) hd⟩) q⟩⟩
/-- what a call gives, as data (a fresh list is frozen) -/
def retD (pv : PV) (Q : D → Prop) : Prop := match pv with | .imm d => Q d | .own (.lst xs) => Q (.list xs) | _ => False
def retN (pv : PV) (Q : OC → Prop) : Prop := match pv with | .own o => Q o | _ => False
def xCall (tf : PF) (dl : Dl) (tl : TX (List PV)) : TX D := fun ρ Q => tl ρ fun pvs => tf dl pvs fun pv => retD pv Q
def xCallN (tf : PF) (dl : Dl) (tl : TX (List PV)) : TX OC := fun ρ Q => tl ρ fun pvs => tf dl pvs fun pv => retN pv Q
theorem retD_mono {pv : PV} {Q Q' : D → Prop} (h : ∀ d, Q d → Q' d) (q : retD pv Q) : retD pv Q' := by
  unfold retD at q ⊢
  split at q
  · exact h _ q
  · exact h _ q
  · exact q.elim
theorem retN_mono {pv : PV} {Q Q' : OC → Prop} (h : ∀ d, Q d → Q' d) (q : retN pv Q) : retN pv Q' := by
  unfold retN at q ⊢
  split at q
  · exact h _ q
  · exact q.elim
variable {CX : CXT} {k : Nat} {f : Addr} {fd : FuncData} {ps : List Str} {tf : PF} {E : XK} {x : Str} {p : Pos}
theorem pd_call (mf : MonoF tf) (G : FnOk X.prog X.w X.K X.mg X.base CX k f fd ps (Prm X.K tf)) (hr : Room k X.A) (hg : Gl X x) (hm : X.mg x = some (.ref f)) (hk : PySem.W.keepIn X.K (.ref f) = true) (hb : Binds X.K fd ps []) (hx : Passes CX X E)
    (ha : PAv X e (a :: es) tl) (hdb : (x == ("__debug__" : Str)) = false := by decide) (he : starEach (a :: es) X.env = (false, eval a X.env) :: starEach es X.env := by rfl) (hpl : (backTo pos (starEach es X.env)).any (·.1) = false := by rfl) :
    PD X e (.Call (.Name x p) (a :: es) [] pos) (xCall tf e.toDl tl) :=
  ⟨fun ρ Q Q' k q => ha.mono ρ _ _ (fun pvs h => mf _ _ _ _ (fun pv hp => retD_mono k hp) h) q, imp (pe_call G hr hg hm hk hb .nil hx ha.pa hdb he hpl) fun σ H Q ⟨F, ρ, rp, q⟩ => ⟨F, ρ, rp, ha.mono ρ _ _ (fun pvs h vs F1 H1 g1 av => by
    show Prm X.K tf (vs ++ []) H1 Q E
    rw [List.append_nil]
    refine ⟨F1, e.toDl, pvs, g1.ok, rp.stay, av, mf _ _ _ _ (fun pv hp v F2 H2 g2 r => ?_) h⟩
    have g := g1.trans rp.ok g2
    unfold retD at hp
    split at hp
    · exact hp v F2 H2 g r
    · obtain ⟨p, e1, ⟨ws, e2, e3⟩, e4, e5, e6⟩ := r
      subst e1
      have hn : H p = none := by
        cases z : H p with
        | none => rfl
        | some u =>
          have := g1.st p u z e6
          rw [e5] at this
          cases this
      exact hp _ _ _ (Gr.freeze rp.ok g e2 hn e4 e6) (.lst (SqL.of upd_same) (dpAllMono (sameNew e4) _ e3))
    · exact hp.elim) q⟩⟩
theorem pn_call (mf : MonoF tf) (G : FnOk X.prog X.w X.K X.mg X.base CX k f fd ps (Prm X.K tf)) (hr : Room k X.A) (hg : Gl X x) (hm : X.mg x = some (.ref f)) (hk : PySem.W.keepIn X.K (.ref f) = true) (hb : Binds X.K fd ps []) (hx : Passes CX X E)
    (ha : PAv X e (a :: es) tl) (hdb : (x == ("__debug__" : Str)) = false := by decide) (he : starEach (a :: es) X.env = (false, eval a X.env) :: starEach es X.env := by rfl) (hpl : (backTo pos (starEach es X.env)).any (·.1) = false := by rfl) :
    PN X e (.Call (.Name x p) (a :: es) [] pos) (xCallN tf e.toDl tl) :=
  ⟨fun ρ Q Q' k q => ha.mono ρ _ _ (fun pvs h => mf _ _ _ _ (fun pv hp => retN_mono k hp) h) q, imp (pe_call G hr hg hm hk hb .nil hx ha.pa hdb he hpl) fun σ H Q ⟨F, ρ, rp, q⟩ => ⟨F, ρ, rp, ha.mono ρ _ _ (fun pvs h vs F1 H1 g1 av => by
    show Prm X.K tf (vs ++ []) H1 Q E
    rw [List.append_nil]
    refine ⟨F1, e.toDl, pvs, g1.ok, rp.stay, av, mf _ _ _ _ (fun pv hp v F2 H2 g2 r => ?_) h⟩
    have g := g1.trans rp.ok g2
    unfold retN at hp
    split at hp
    · obtain ⟨p, e1, e2, e4, e5, e6⟩ := r
      subst e1
      have hn : H p = none := by
        cases z : H p with
        | none => rfl
        | some u =>
          have := g1.st p u z e6
          rw [e5] at this
          cases this
      exact hp _ F2 H2 g ⟨p, rfl, e2, e4, hn, e6⟩
    · exact hp.elim) q⟩⟩
/-! ### a, b = x, y -/
def zPar {α β : Type} (f : α → PV) (g : β → PV) (i j : Nat) (ta : TX α) (tb : TX β) : TSt := fun P ρ => ta ρ fun d => tb ρ fun d' => P.nx ((ρ.set i (some (f d))).set j (some (g d')))
theorem z_par {i j : Nat} {x y : Str} {px py pt : Pos} {kt k2' pt2} {f : α → PV} {g : β → PV} {ta : TX α} {tb : TX β} (kf : Kv X.K k1 f) (kg : Kv X.K k2 g) (hc : X.calm = true) (hN : X.N.Nodup) (hi : X.N[i]? = some x) (hj : X.N[j]? = some y) (hij : i ≠ j)
    (hx : X.env.scope.names.lookup x = some .local) (hy : X.env.scope.names.lookup y = some .local) (ha : PX X e k1 a ta) (hb : PX X e k2 b tb)
    (hw : swappedStores [.Tuple [.Name x px, .Name y py] kt pt] (.Tuple [a, b] k2' pt2) X.env = pure (some [x, y]))
    (hs : swapsWithSole [.Tuple [.Name x px, .Name y py] kt pt] (.Tuple [a, b] k2' pt2) pos.line X.env = pure false := by rfl)
    (hs1 : starEach [a, b] X.env = (false, eval a X.env) :: starEach [b] X.env := by rfl) (hs2 : starEach [b] X.env = (false, eval b X.env) :: starEach [] X.env := by rfl) :
    PSx X e (.Assign [.Tuple [.Name x px, .Name y py] kt pt] (.Tuple [a, b] k2' pt2) pos) (zPar f g i j ta tb) :=
  ⟨impS (ps_par hc hN hi hj hij hx hy (pa_cons ha.pe (pa_cons hb.pe pa_nil hs2) hs1) hw hs) fun Dd σ H ⟨F, ρ, P, rp, q, lk⟩ => ⟨F, ρ, rp, ha.mono ρ _ _ (fun d hd v F1 H1 g1 dv => ⟨F1, ρ, rp.step g1, hb.mono ρ _ _ (fun d' hd' w F2 H2 g2 dw => by
    refine ⟨v, w, rfl, lk.nx _ _ F2 H2 (g1.fz.trans g2.fz) ?_ hd'⟩
    exact kg.set j (kf.set i rp g1 dv) g2 dw) hd⟩) q⟩⟩
/-! ### the entry of a def -/
def startE (n : Nat) (pvs : List PV) : Ev := pvs.map some ++ List.replicate (n - pvs.length) none
theorem noOwnArg {K : PySem.W.Frag} {F : Hp} {o : OC} : ∀ {vs : List V} {pvs : List PV}, ArgsOk K F vs pvs → PV.own o ∈ pvs → False
  | _, _, .nil, h => by cases h
  | _, _, .cons a t, h => by
    rcases List.mem_cons.mp h with z | z
    · subst z
      exact a
    · exact noOwnArg t z
theorem start_rp {K : PySem.W.Frag} {F H : Hp} {dl : Dl} {N : List Str} {vs : List V} {pvs : List PV} (ok : dl.Ok F H) (st : dl.Stay) (ha : ArgsOk K F vs pvs) : Rp K ⟨dl, F, H⟩ (startE N.length pvs) F (L2.start N vs) H where
  len := by
    unfold startE L2.start
    rw [List.length_append, List.length_append, List.length_map, List.length_map, List.length_replicate, List.length_replicate, ha.length]
  ok0 := ok
  gr := .refl ok
  stay := st
  slots := fun i p h => by
    unfold startE at h
    by_cases hi : i < pvs.length
    · rw [List.getElem?_append_left (by rw [List.length_map]; exact hi), List.getElem?_map] at h
      have h : pvs[i]? = some p := by
        cases z : pvs[i]? with
        | none => rw [z] at h; cases h
        | some q => rw [z] at h; cases h; rfl
      have : ∀ {vs : List V} {pvs : List PV} {i : Nat} {p : PV}, ArgsOk K F vs pvs → pvs[i]? = some p → ∃ v, vs[i]? = some v ∧ ArgOk K F v p := by
        intro vs pvs i p ha
        induction ha generalizing i with
        | nil => intro h; simp at h
        | cons a t ih =>
          intro h
          cases i with
          | zero => exact ⟨_, rfl, by cases h; exact a⟩
          | succ i => exact ih (by simpa using h)
      obtain ⟨v, h1, h2⟩ := this ha h
      refine ⟨v, ?_, ?_⟩
      · unfold L2.start
        rw [List.getElem?_append_left (by rw [List.length_map, ha.length]; exact hi), List.getElem?_map, h1]
        rfl
      · cases p with
        | imm d => exact h2
        | raw w => exact h2
        | std b w => exact h2
        | two _ _ => exact h2.elim
        | own o => exact h2.elim
    · rw [List.getElem?_append_right (by rw [List.length_map]; omega)] at h
      rw [List.getElem?_replicate] at h
      split at h <;> cases h
  apart := fun i j x y a hij hx hy hi => by
    have : ∀ {i : Nat} {o : OC}, (startE N.length pvs)[i]? = some (some (.own o)) → False := fun {i o} h => by
      unfold startE at h
      by_cases hi : i < pvs.length
      · rw [List.getElem?_append_left (by rw [List.length_map]; exact hi), List.getElem?_map] at h
        have hm : PV.own o ∈ pvs := by
          cases z : pvs[i]? with
          | none => rw [z] at h; cases h
          | some q =>
            rw [z] at h
            cases h
            exact List.mem_of_getElem? z
        exact noOwnArg ha hm
      · rw [List.getElem?_append_right (by rw [List.length_map]; omega)] at h
        rw [List.getElem?_replicate] at h
        split at h <;> cases h
    exact (this hx).elim
end
section
variable {P : Program} {w : World} {K : PySem.W.Frag} {mg : Str → Option Value} {base : Heap}
/-- a def, by its body read over data -/
theorem okP {x qual : Str} {st : Stmt} {f : Addr} {fd : FuncData} {N ps : List Str} {k : Nat} {tf : PF} (F : Fun K x qual st f fd) (S : FnScope N ps (defScope st)) (len : ∀ dl pvs Q, tf dl pvs Q → pvs.length = ps.length)
    (body : ∀ (cdv : Value) (A : Around) (outer : List Env) (s : Shared) (H : Hp) (E : XK) (e : Ent), Room k (A.deeper (envOfC qual (defScope st) s.heap.objs.size f cdv)) →
      ∃ t, PSxs (cxOf CX0 P w K mg base N qual (defScope st) f cdv A outer s H E).nox e (defBody st) t ∧ ∀ pvs Q, tf e.toDl pvs Q → t { nx := fun _ => Q (.imm .none), rt := Q } (startE N.length pvs)) : FnOk P w K mg base CX0 (k + 1) f fd ps (Prm K tf) := by
  refine F.ok S (fun vs H Q E ⟨F0, dl, pvs, _, _, ha, q⟩ => ha.length.trans (len _ _ _ q)) fun cdv A outer s H vs Q E hr ⟨F0, dl, pvs, ok, stay, ha, q⟩ => ?_
  obtain ⟨t, h, hq⟩ := body cdv A outer s H E ⟨dl, F0, H⟩ hr
  refine ⟨_, h.pss, F0, startE N.length pvs, _, start_rp ok stay ha, hq _ _ q, ⟨?_, ?_, ?_, ?_⟩⟩
  · intro ρ σ F1 H1 _ rp hp
    exact hp .non F1 H1 rp.gr (Dp.non : Dp K F1 .non .none)
  · intro pv v F1 H1 ⟨g, sl⟩ hp
    refine hp v F1 H1 g ?_
    cases pv with
    | imm d => exact sl
    | raw u => exact sl
    | std b u => exact sl
    | two _ _ => exact sl
    | own o => exact sl
  · intro _ _ _ _ _ _ z
    exact z.elim
  · intro _ _ _ _ _ _ z
    exact z.elim
end
end PL
set_option Elab.async false
set_option linter.all false
set_option maxRecDepth 100000
set_option maxHeartbeats 4000000
namespace PL
open PySem PySem.Spec PyProof.Rows L2
/-! ### tables of data -/
def valD (kvs : List (Key × D)) (k : Key) : Option D := (kvs.find? fun kv => decide (kv.1 = k)).map (·.2)
def putD (kvs : List (Key × D)) (k : Key) (d : D) : List (Key × D) := if (kvs.any fun kv => decide (kv.1 = k)) = true then kvs.map (fun kv => if kv.1 = k then (kv.1, d) else kv) else kvs ++ [(k, d)]
section
variable {K : PySem.W.Frag} {F : Hp}
theorem KvAll.length : ∀ {ks : List (Key × V)} {kvs : List (Key × D)}, KvAll K F ks kvs → ks.length = kvs.length
  | _, _, .nil => rfl
  | _, _, .cons _ t => congrArg (· + 1) (KvAll.length t)
theorem KvAll.any (k : Key) : ∀ {ks : List (Key × V)} {kvs : List (Key × D)}, KvAll K F ks kvs → (ks.any fun kv => decide (kv.1 = k)) = kvs.any fun kv => decide (kv.1 = k)
  | _, _, .nil => rfl
  | _, _, .cons _ t => by rw [List.any_cons, List.any_cons, KvAll.any k t]
theorem KvAll.val (k : Key) : ∀ {ks : List (Key × V)} {kvs : List (Key × D)}, KvAll K F ks kvs → (valD kvs k = none → valV ks k = none) ∧ ∀ d, valD kvs k = some d → ∃ v, valV ks k = some v ∧ Dp K F v d
  | _, _, .nil => ⟨fun _ => rfl, fun d h => by cases h⟩
  | (k', v) :: ks, (_, d') :: kvs, .cons a t => by
    have ih := KvAll.val k t
    by_cases e : k' = k
    · refine ⟨fun h => ?_, fun d h => ⟨v, ?_, ?_⟩⟩
      · simp [valD, List.find?_cons, e] at h
      · simp [valV, List.find?_cons, e]
      · simp [valD, List.find?_cons, e] at h
        rw [← h]
        exact a
    · have h1 : valD ((k', d') :: kvs) k = valD kvs k := by simp [valD, List.find?_cons, e]
      have h2 : valV ((k', v) :: ks) k = valV ks k := by simp [valV, List.find?_cons, e]
      rw [h1, h2]
      exact ih
theorem KvAll.map {v : V} {d : D} (k : Key) (h : Dp K F v d) : ∀ {ks : List (Key × V)} {kvs : List (Key × D)}, KvAll K F ks kvs → KvAll K F (ks.map fun kv => if kv.1 = k then (kv.1, v) else kv) (kvs.map fun kv => if kv.1 = k then (kv.1, d) else kv)
  | _, _, .nil => .nil
  | (k', _) :: _, _, .cons a t => by
    rw [List.map_cons, List.map_cons]
    by_cases e : k' = k
    · rw [if_pos e, if_pos e]
      exact .cons h (KvAll.map k h t)
    · rw [if_neg e, if_neg e]
      exact .cons a (KvAll.map k h t)
theorem KvAll.snoc {v : V} {d : D} (k : Key) (h : Dp K F v d) : ∀ {ks : List (Key × V)} {kvs : List (Key × D)}, KvAll K F ks kvs → KvAll K F (ks ++ [(k, v)]) (kvs ++ [(k, d)])
  | _, _, .nil => .cons h .nil
  | _, _, .cons a t => .cons a (KvAll.snoc k h t)
theorem KvAll.put {v : V} {d : D} {ks : List (Key × V)} {kvs : List (Key × D)} (k : Key) (h : Dp K F v d) (r : KvAll K F ks kvs) : KvAll K F (putK ks k v) (putD kvs k d) := by
  unfold putK putD
  rw [r.any k]
  split
  · exact r.map k h
  · exact r.snoc k h
theorem KvAll.keys : ∀ {ks : List (Key × V)} {kvs : List (Key × D)} {i : Nat} {k : Key} {v : V}, KvAll K F ks kvs → ks[i]? = some (k, v) → ∃ d, kvs[i]? = some (k, d)
  | _, _, _, _, _, .nil, h => by simp at h
  | _, _, 0, _, _, .cons a _, h => by
    cases h
    exact ⟨_, rfl⟩
  | _, _, i + 1, _, _, .cons _ t, h => by
    obtain ⟨d, q⟩ := KvAll.keys (i := i) t (by simpa using h)
    exact ⟨d, by simpa using q⟩
end
def keyOf (d : D) (Q : Key → Prop) : Prop := match d with | .int i => Q (.inl i) | .str s => Q (.inr s) | _ => False
def keyD : Key → D
  | .inl i => .int i
  | .inr s => .str s
theorem keyOf_mono {d : D} {Q Q' : Key → Prop} (h : ∀ k, Q k → Q' k) (q : keyOf d Q) : keyOf d Q' := by
  unfold keyOf at q ⊢
  split at q
  · exact h _ q
  · exact h _ q
  · exact q.elim
theorem keyOf_of {K : PySem.W.Frag} {F : Hp} {v : V} {d : D} {Q : Key → Prop} (dp : Dp K F v d) (q : keyOf d Q) : ∃ k, v = kV k ∧ Q k := by
  unfold keyOf at q
  split at q
  · cases dp
    exact ⟨_, rfl, q⟩
  · cases dp
    exact ⟨_, rfl, q⟩
  · exact q.elim
/-- a dict by its slot: one's own, or one that stands -/
def dicV (i : Nat) (ρ : Ev) (Q : List (Key × D) → Prop) : Prop := match ρ[i]? with | some (some (.own (.dic kvs))) => Q kvs | some (some (.std _ kvs)) => Q kvs | _ => False
theorem dicV_mono {i : Nat} {ρ : Ev} {Q Q' : List (Key × D) → Prop} (h : ∀ k, Q k → Q' k) (q : dicV i ρ Q) : dicV i ρ Q' := by
  unfold dicV at q ⊢
  split at q
  · exact h _ q
  · exact h _ q
  · exact q.elim
theorem dicV_of {K : PySem.W.Frag} {e : Ent} {i : Nat} {ρ : Ev} {F H : Hp} {σ : L2.St} {Q : List (Key × D) → Prop} (rp : Rp K e ρ F σ H) (q : dicV i ρ Q) :
    ∃ kvs a ks, Q kvs ∧ σ[i]? = some (some (.ref a)) ∧ KvAll K F ks kvs ∧ ∀ F' H', Gr e.toDl F H F' H' → Rd H' a (.dK ks) := by
  unfold dicV at q
  split at q
  · rename_i kvs h
    obtain ⟨v, h1, a, e1, ⟨ks, e2, e3⟩, e4, e5, e6⟩ := rp.slots i _ h
    subst e1
    exact ⟨kvs, a, ks, q, h1, e3, fun F' H' g => .inl (g.st a _ e2 e6)⟩
  · rename_i kvs h
    obtain ⟨v, h1, e1, o, ks, e2, e3⟩ := rp.slots i _ h
    subst e1
    exact ⟨kvs, _, ks, q, h1, e3, fun F' H' g => .inr ⟨o, g.ok.sub _ _ (g.fz _ _ e2)⟩⟩
  · exact q.elim
section
variable {X : Cx} {e : Ent} {a b c : Expr} {pos p2 apos : Pos} {ta tb : TX D} {i : Nat}
theorem pn_dnew : PN X e (.Dict [] [] pos) (xC (.dic [])) := ⟨xC_mono, imp pe_dnewK fun σ H Q ⟨F, ρ, rp, q⟩ p hp =>
  q _ F _ (Gr.newO rp.ok rp.stay hp) ⟨p, rfl, ⟨[], upd_same, .nil⟩, rp.sub.free hp, hp, rp.ok.fM hp⟩⟩
def xDin (neg : Bool) (i : Nat) (tk : TX D) : TX D := fun ρ Q => tk ρ fun d => keyOf d fun k => dicV i ρ fun kvs => Q (.bool (ng neg (valD kvs k).isSome))
theorem xDin_mono {neg : Bool} (h : MonoX ta) : MonoX (xDin neg i ta) := fun ρ Q Q' k q => h ρ _ _ (fun d hd => keyOf_mono (fun _ => dicV_mono fun _ => k _) hd) q
theorem isSome_val {K : PySem.W.Frag} {F : Hp} {ks : List (Key × V)} {kvs : List (Key × D)} (k : Key) (r : KvAll K F ks kvs) : (valV ks k).isSome = (valD kvs k).isSome := by
  obtain ⟨h1, h2⟩ := r.val k
  cases z : valD kvs k with
  | none => rw [h1 z] <;> rfl
  | some d =>
    obtain ⟨v, hv, _⟩ := h2 d z
    rw [hv] <;> rfl
theorem pc_din_v (hu : X.A.units + 64 < cLine) (hk : PD X e a ta) (hd : PE X b (tVar i)) : PCx X e .In a b (xDin false i ta) :=
  ⟨xDin_mono hk.mono, ⟨fun pins s σ H Q I ⟨F, ρ, rp, q⟩ => (pc_din (by omega) hk.pe hd).run pins s σ H Q I ⟨F, ρ, rp, hk.mono ρ _ _ (fun d hd v F' H' g dv => by
    obtain ⟨k, rfl, hq⟩ := keyOf_of dv hd
    obtain ⟨kvs, a', ks, hq, h1, h2, h3⟩ := dicV_of rp hq
    refine ⟨.ref a', h1, a', valV ks k, rfl, .inl ⟨ks, k, h3 F' H' g, rfl, rfl⟩, ?_⟩
    rw [isSome_val k h2]
    have hq : Fin (kD X.K e) F H Q (.bool (ng false (valD kvs k).isSome)) := hq
    have := hq (.bl (ng false (valD kvs k).isSome)) F' H' g (.bl _)
    simpa [ng] using this) q⟩⟩⟩
theorem pc_dnin_v (hu : X.A.units + 64 < cLine) (hk : PD X e a ta) (hd : PE X b (tVar i)) : PCx X e .NotIn a b (xDin true i ta) :=
  ⟨xDin_mono hk.mono, ⟨fun pins s σ H Q I ⟨F, ρ, rp, q⟩ => (pc_dnotin (by omega) hk.pe hd).run pins s σ H Q I ⟨F, ρ, rp, hk.mono ρ _ _ (fun d hd v F' H' g dv => by
    obtain ⟨k, rfl, hq⟩ := keyOf_of dv hd
    obtain ⟨kvs, a', ks, hq, h1, h2, h3⟩ := dicV_of rp hq
    refine ⟨.ref a', h1, a', valV ks k, rfl, .inl ⟨ks, k, h3 F' H' g, rfl, rfl⟩, ?_⟩
    rw [isSome_val k h2]
    have hq : Fin (kD X.K e) F H Q (.bool (ng true (valD kvs k).isSome)) := hq
    have := hq (.bl (ng true (valD kvs k).isSome)) F' H' g (.bl _)
    simpa [ng] using this) q⟩⟩⟩
/-- d[k] -/
def xDget (i : Nat) (tk : TX D) : TX D := fun ρ Q => dicV i ρ fun kvs => tk ρ fun d => keyOf d fun k => someOf (valD kvs k) Q
theorem pd_dget_v (hu : X.A.units + 64 < cLine) (hd : PE X b (tVar i)) (hk : PD X e a ta) (hs : NoSl a) : PD X e (.Subscript b a pos) (xDget i ta) :=
  ⟨fun ρ Q Q' k q => dicV_mono (fun kvs h => hk.mono ρ _ _ (fun d hd => keyOf_mono (fun _ => someOf_mono k) hd) h) q, imp (pe_dget (by omega) hd hk.pe hs) fun σ H Q ⟨F, ρ, rp, q⟩ => by
    obtain ⟨kvs, a', ks, hq, h1, h2, h3⟩ := dicV_of rp q
    refine ⟨.ref a', h1, F, ρ, rp, hk.mono ρ _ _ (fun d hd v F' H' g dv => ?_) hq⟩
    obtain ⟨k, rfl, hq⟩ := keyOf_of dv hd
    cases z : valD kvs k with
    | none => rw [z] at hq; exact hq.elim
    | some r =>
      rw [z] at hq
      obtain ⟨w, hw, dw⟩ := (h2.val k).2 r z
      refine ⟨a', w, rfl, .inl ⟨ks, k, h3 F' H' g, rfl, hw.symm⟩, ?_⟩
      exact (show Fin (kD X.K e) F H Q r from hq) w F' H' g (dpMono g.fz r dw)⟩
/-- d.get(k, x) -/
def xDget2 (i : Nat) (tk tx : TX D) : TX D := fun ρ Q => dicV i ρ fun kvs => tk ρ fun d => keyOf d fun k => tx ρ fun z => Q ((valD kvs k).getD z)
theorem pd_dget2_v (hu : X.A.units + 64 < cLine) (hd : PE X b (tVar i)) (hk : PD X e a ta) (hx : PD X e c tb) (m : M2 X b "get" apos a c p2) : PD X e (.Call (.Attribute b "get" apos) [a, c] [] p2) (xDget2 i ta tb) :=
  ⟨fun ρ Q Q' k q => dicV_mono (fun kvs h => hk.mono ρ _ _ (fun d hd => keyOf_mono (fun _ h2 => hx.mono ρ _ _ (fun _ => k _) h2) hd) h) q, imp (pe_dget2 (by omega) hd hk.pe hx.pe m) fun σ H Q ⟨F, ρ, rp, q⟩ => by
    obtain ⟨kvs, a', ks, hq, h1, h2, h3⟩ := dicV_of rp q
    refine ⟨.ref a', h1, a', rfl, .inl ⟨ks, h3 F H (.refl rp.ok)⟩, F, ρ, rp, hk.mono ρ _ _ (fun d hd v F' H' g dv => ?_) hq⟩
    obtain ⟨k, rfl, hq⟩ := keyOf_of dv hd
    refine ⟨F', ρ, rp.step g, hx.mono ρ _ _ (fun z hz w F2 H2 g2 dw => ⟨valV ks k, .inl ⟨ks, k, h3 F2 H2 (g.trans rp.ok g2), rfl, rfl⟩, ?_⟩) hq⟩
    have hz : Fin (kD X.K e) F H Q ((valD kvs k).getD z) := hz
    have gg := g.trans rp.ok g2
    cases y : valD kvs k with
    | none =>
      rw [(h2.val k).1 y]
      rw [y] at hz
      exact hz w F2 H2 gg dw
    | some r =>
      obtain ⟨u, hu', du⟩ := (h2.val k).2 r y
      rw [hu']
      rw [y] at hz
      exact hz u F2 H2 gg (dpMono gg.fz r du)⟩
/-- d[k] = e, d one's own -/
def ownDic (i : Nat) (ρ : Ev) (Q : List (Key × D) → Prop) : Prop := match ρ[i]? with | some (some (.own (.dic kvs))) => Q kvs | _ => False
theorem ownDic_of {i : Nat} {ρ : Ev} {Q : List (Key × D) → Prop} (q : ownDic i ρ Q) : ∃ kvs, ρ[i]? = some (some (.own (.dic kvs))) ∧ Q kvs := by
  unfold ownDic at q
  split at q
  · rename_i xs h
    exact ⟨xs, h, q⟩
  · exact q.elim
def zDput (i : Nat) (tk ta : TX D) : TSt := fun P ρ => ta ρ fun d => ownDic i ρ fun kvs => tk ρ fun y => keyOf y fun k => kvs.length < sizeLine ∧ P.nx (ρ.set i (some (.own (.dic (putD kvs k d)))))
theorem z_dput (hu : X.A.units + 64 < cLine) (hd : PE X b (tVar i)) (hk : PD X e a tb) (hv : PD X e c ta) (hs : swapsWith c (some (.Subscript b a p2)) pos.line X.env = pure false := by rfl) : PSx X e (.Assign [.Subscript b a p2] c pos) (zDput i tb ta) :=
  ⟨impS (ps_dput (by omega) hd hk.pe hv.pe hs) fun Dd σ H ⟨F, ρ, P, rp, q, lk⟩ => ⟨F, ρ, rp, hv.mono ρ _ _ (fun d hd v F1 H1 g1 dv => by
    obtain ⟨kvs, hx, hd⟩ := ownDic_of hd
    have rp1 := rp.step g1
    obtain ⟨w, q1, p, e1, ⟨ks, e2, e3⟩, e4, e5, e6⟩ := rp1.slots i _ hx
    subst e1
    refine ⟨.ref p, q1, F1, ρ, rp1, hk.mono ρ _ _ (fun y hy u F2 H2 g2 dy => ?_) hd⟩
    obtain ⟨k, rfl, hq⟩ := keyOf_of dy hy
    have e2' := g2.st p _ e2 e6
    refine ⟨p, _, rfl, .inl ⟨ks, k, e2', rfl, by rw [e3.length]; exact hq.1, rfl⟩, ?_⟩
    exact lk.nx _ _ F2 _ (g1.fz.trans g2.fz) ((rp1.step g2).write (o' := .dic (putD kvs k d)) hx q1 ⟨_, upd_same, KvAll.put k (dpMono g2.fz d dv) (e3.mono g2.fz)⟩) hq.2) q⟩⟩
/-! ### a dict is walked -/
def keysD (kvs : List (Key × D)) : List D := kvs.map fun kv => keyD kv.1
def iStd (i : Nat) : TX (List D) := fun ρ Q => match ρ[i]? with | some (some (.std _ kvs)) => Q (keysD kvs) | _ => False
theorem dp_key {K : PySem.W.Frag} {F : Hp} (k : Key) : Dp K F (kV k) (keyD k) := by
  cases k with
  | inl i => exact .int i
  | inr s => exact .str s
theorem pi_std {fz : Bool} {tg : Expr} (hd : PE X a (tVar i)) : PIx X e fz tg a (iStd i) := ⟨fun ρ Q Q' k q => by
  unfold iStd at q ⊢
  split at q
  · exact k _ q
  · exact q.elim, impI (pi_keys hd) fun σ H R ⟨F, ρ, rp, q⟩ => by
  unfold iStd at q
  split at q
  · rename_i p kvs h
    obtain ⟨v, h1, e1, o, ks, e2, e3⟩ := rp.slots i _ h
    subst e1
    refine ⟨.ref p, h1, p, o, rfl, .inl ⟨ks, rp.sub _ _ e2, q _ F H (.refl rp.ok) ⟨fun H => H p = some (.frz o (.dK ks)), fun i H x H' => H' = H ∧ ∃ k v, ks[i]? = some (k, v) ∧ x = kV k, ?_, fun H' z => stabD (K := X.K) rp.ok z _ _ e2, ?_⟩⟩⟩
    · unfold keysD
      rw [List.length_map, ← e3.length]
      exact walk_keys
    · rintro j H1 x H2 d F1 hd s ok st ⟨rfl, k, v, hk, rfl⟩
      obtain ⟨d', hd'⟩ := e3.keys hk
      unfold keysD at hd
      rw [List.getElem?_map, hd'] at hd
      cases hd
      exact ⟨F1, Gr.refl ok, dp_key k⟩
  · exact q.elim⟩
/-- the frozen part without d -/
noncomputable def drop (F : Hp) (d : Addr) : Hp := fun b => open Classical in if b = d then none else F b
theorem drop_ne {F : Hp} {d b : Addr} (h : b ≠ d) : drop F d b = F b := by
  unfold drop
  rw [if_neg h]
theorem drop_at {F : Hp} {d : Addr} : drop F d d = none := by
  unfold drop
  rw [if_pos rfl]
theorem drop_some {F : Hp} {d b : Addr} {o : HO} (h : drop F d b = some o) : b ≠ d ∧ F b = some o := by
  by_cases z : b = d
  · rw [z, drop_at] at h
    cases h
  · rw [drop_ne z] at h
    exact ⟨z, h⟩
section
variable {K : PySem.W.Frag} {F : Hp} {d : Addr} {od : Obj} {ks : List (Key × V)}
mutual
theorem dpDrop (hd : F d = some (.frz od (.dK ks))) : ∀ (x : D) {v : V}, Dp K F v x → Dp K (drop F d) v x
  | .none, _, h => by cases h; exact .non
  | .bool b, _, h => by cases h; exact .bl b
  | .int i, _, h => by cases h; exact .int i
  | .str x, _, h => by cases h; exact .str x
  | .list ds, _, h => by
    cases h with
    | @lst p xs _ a b =>
      refine .lst ?_ (dpAllDrop hd ds b)
      rcases a with (a | ⟨o, a⟩) | a
      · exact .inl (.inl (by rw [drop_ne (fun z => by rw [z, hd] at a; cases a)]; exact a))
      · exact .inl (.inr ⟨o, by rw [drop_ne (fun z => by rw [z, hd] at a; cases a)]; exact a⟩)
      · exact .inr a
  | .tuple ds, _, h => by
    cases h with
    | @tup p xs _ a b =>
      refine .tup ?_ (dpAllDrop hd ds b)
      rcases a with (a | ⟨o, a⟩) | a
      · exact .inl (.inl (by rw [drop_ne (fun z => by rw [z, hd] at a; cases a)]; exact a))
      · exact .inl (.inr ⟨o, by rw [drop_ne (fun z => by rw [z, hd] at a; cases a)]; exact a⟩)
      · exact .inr a
  | .dict _, _, h => by cases h
theorem dpAllDrop (hd : F d = some (.frz od (.dK ks))) : ∀ (xs : List D) {vs : List V}, DpAll K F vs xs → DpAll K (drop F d) vs xs
  | [], _, h => by cases h; exact .nil
  | x :: xs, _, h => by cases h with | cons a b => exact .cons (dpDrop hd x a) (dpAllDrop hd xs b)
end
theorem kvDrop (hd : F d = some (.frz od (.dK ks))) : ∀ {js : List (Key × V)} {kvs : List (Key × D)}, KvAll K F js kvs → KvAll K (drop F d) js kvs
  | _, _, .nil => .nil
  | _, _, .cons a t => .cons (dpDrop hd _ a) (kvDrop hd t)
end
/-- the slot's dict is locked: it stands -/
theorem Rp.lock {K : PySem.W.Frag} {ρ : Ev} {σ : L2.St} {F H : Hp} {kvs : List (Key × D)} (rp : Rp K e ρ F σ H) (hi : ρ[i]? = some (some (.own (.dic kvs)))) :
    ∃ d ks, σ[i]? = some (some (.ref d)) ∧ H d = some (.dK ks) ∧ F d = none ∧ ¬ e.M d ∧ e.H0 d = none ∧ ∀ od, Rp K e (ρ.set i (some (.std d kvs))) (upd F d (.frz od (.dK ks))) σ (upd H d (.frz od (.dK ks))) := by
  obtain ⟨v, q1, d, e1, ⟨ks, e2, e3⟩, e4, e5, e6⟩ := rp.slots i _ hi
  subst e1
  refine ⟨d, ks, q1, e2, e4, e6, e5, fun od => ?_⟩
  have sF : Same F (upd F d (.frz od (.dK ks))) := sameNew e4
  refine ⟨by rw [List.length_set]; exact rp.len, rp.ok0, ⟨rp.gr.fz.trans sF, fun b o h z => ?_, fun b o h m => ?_, ⟨fun b o h => ?_, fun b m => ⟨?_, ?_⟩, rp.stay _ _ rp.ok.inv fun b m => ?_⟩⟩, rp.stay, fun j p h => ?_, fun j k x y a hjk hx hy hj => ?_⟩
  · by_cases hb : b = d
    · rw [hb]
      exact e5
    · rw [upd_ne hb] at h
      exact rp.gr.new b o h z
  · rw [upd_ne (fun z => by rw [z, e5] at h; cases h)]
    exact rp.gr.st b o h m
  · by_cases hb : b = d
    · rw [hb] at h ⊢
      rw [upd_same] at h ⊢
      exact h
    · rw [upd_ne hb] at h ⊢
      exact rp.sub b o h
  · rw [upd_ne (fun z => e6 (by rw [← z]; exact m))]
    exact (rp.ok.mu b m).1
  · rw [upd_ne (fun z => e6 (by rw [← z]; exact m))]
    exact (rp.ok.mu b m).2
  · rw [upd_ne (fun z => e6 (by rw [← z]; exact m))]
  · rcases getSet h with ⟨rfl, rfl⟩ | ⟨hij, hj⟩
    · exact ⟨_, q1, rfl, od, ks, upd_same, e3.mono sF⟩
    · obtain ⟨w, h1, h2⟩ := rp.slots j p hj
      refine ⟨w, h1, ?_⟩
      cases p with
      | imm x => exact dpMono sF x h2
      | raw x => exact h2
      | std x y => exact h2.mono sF
      | two _ _ => exact h2.elim
      | own oc =>
        obtain ⟨b, f1, f2, f3, f4, f5⟩ := h2
        have hb : b ≠ d := fun z => by
          subst z
          subst f1
          exact rp.apart i j _ _ _ hij hi hj q1 h1
        exact ⟨b, f1, f2.mono sF fun y hy => by rw [upd_ne hb]; exact hy, by rw [upd_ne hb]; exact f3, f4, f5⟩
  · rcases getSet hx with ⟨_, z⟩ | ⟨_, hx⟩
    · cases z
    · rcases getSet hy with ⟨_, z⟩ | ⟨_, hy⟩
      · cases z
      · exact rp.apart j k x y a hjk hx hy hj
open Classical in
/-- no slot holds d as a standing dict any more -/
noncomputable def unS (d : Addr) : Option PV → Option PV
  | some (.std a kvs) => if a = d then none else some (.std a kvs)
  | x => x
theorem unS_of {d : Addr} {x : Option PV} {p : PV} (h : unS d x = some p) : x = some p ∧ ∀ kvs, p ≠ .std d kvs := by
  cases x with
  | none => cases h
  | some q =>
    cases q with
    | std a kvs =>
      unfold unS at h
      simp only at h
      split at h
      · cases h
      · rename_i hn
        cases h
        exact ⟨rfl, fun kvs z => by cases z; exact hn rfl⟩
    | imm x => cases h; exact ⟨rfl, fun _ z => nomatch z⟩
    | two x y => cases h; exact ⟨rfl, fun _ z => nomatch z⟩
    | own x => cases h; exact ⟨rfl, fun _ z => nomatch z⟩
    | raw x => cases h; exact ⟨rfl, fun _ z => nomatch z⟩
/-- .. and is one's own again -/
theorem Rp.unlock {K : PySem.W.Frag} {ρ : Ev} {σ : L2.St} {F H : Hp} {d : Addr} {od : Obj} {ks : List (Key × V)} {kvs : List (Key × D)} (rp : Rp K e ρ F σ H) (hF : F d = some (.frz od (.dK ks))) (hi : ρ[i]? = some (some (.std d kvs))) (h0 : e.H0 d = none) (h00 : e.F0 d = none) (hm : ¬ e.M d) :
    Rp K e ((ρ.map (unS d)).set i (some (.own (.dic kvs)))) (drop F d) σ (upd H d (.dK ks)) := by
  obtain ⟨v, q1, e1, o, ks', e2, e3⟩ := rp.slots i _ hi
  subst e1
  rw [hF] at e2
  cases e2
  have back : ∀ {j : Nat} {p : PV}, j ≠ i → ((ρ.map (unS d)).set i (some (.own (.dic kvs))))[j]? = some (some p) → ρ[j]? = some (some p) ∧ ∀ kvs, p ≠ .std d kvs := fun {j p} hj h => by
    rw [List.getElem?_set_ne (Ne.symm hj), List.getElem?_map] at h
    cases z : ρ[j]? with
    | none => rw [z] at h; cases h
    | some x =>
      rw [z] at h
      obtain ⟨h1, h2⟩ := unS_of (Option.some.inj h)
      exact ⟨by rw [h1], h2⟩
  refine ⟨by rw [List.length_set, List.length_map]; exact rp.len, rp.ok0, ⟨fun b o h => ?_, fun b o h z => ?_, fun b o h m => ?_, ⟨fun b o h => ?_, fun b m => ⟨?_, ?_⟩, rp.stay _ _ rp.ok.inv fun b m => ?_⟩⟩, rp.stay, fun j p h => ?_, fun j k x y a hjk hx hy hj => ?_⟩
  · rw [drop_ne (fun z => by rw [z, h00] at h; cases h)]
    exact rp.gr.fz b o h
  · exact rp.gr.new b o (drop_some h).2 z
  · rw [upd_ne (fun z => by rw [z, h0] at h; cases h)]
    exact rp.gr.st b o h m
  · obtain ⟨h1, h2⟩ := drop_some h
    rw [upd_ne h1]
    exact rp.sub b o h2
  · rw [drop_ne (fun z => hm (by rw [← z]; exact m))]
    exact (rp.ok.mu b m).1
  · rw [upd_ne (fun z => hm (by rw [← z]; exact m))]
    exact (rp.ok.mu b m).2
  · rw [upd_ne (fun z => hm (by rw [← z]; exact m))]
  · by_cases hj : j = i
    · subst hj
      rcases getSet h with ⟨_, rfl⟩ | ⟨z, _⟩
      · exact ⟨_, q1, d, rfl, ⟨ks, upd_same, kvDrop hF e3⟩, drop_at, h0, hm⟩
      · exact absurd rfl z
    · obtain ⟨h1, h2⟩ := back hj h
      obtain ⟨w, g1, g2⟩ := rp.slots j p h1
      refine ⟨w, g1, ?_⟩
      cases p with
      | imm x => exact dpDrop hF x g2
      | raw x => exact g2
      | two _ _ => exact g2.elim
      | std x y =>
        obtain ⟨f1, o, js, f2, f3⟩ := g2
        exact ⟨f1, o, js, by rw [drop_ne (fun z => h2 y (by rw [z]))]; exact f2, kvDrop hF f3⟩
      | own oc =>
        obtain ⟨b, f1, f2, f3, f4, f5⟩ := g2
        have hb : b ≠ d := fun z => by rw [z, hF] at f3; cases f3
        refine ⟨b, f1, ?_, by rw [drop_ne hb]; exact f3, f4, f5⟩
        cases oc with
        | lst xs =>
          obtain ⟨vs, y1, y2⟩ := f2
          exact ⟨vs, by rw [upd_ne hb]; exact y1, dpAllDrop hF _ y2⟩
        | dic xs =>
          obtain ⟨vs, y1, y2⟩ := f2
          exact ⟨vs, by rw [upd_ne hb]; exact y1, kvDrop hF y2⟩
  · have nown : ∀ {j : Nat} {x : OC}, j ≠ i → ((ρ.map (unS d)).set i (some (.own (.dic kvs))))[j]? = some (some (.own x)) → σ[j]? ≠ some (some (.ref d)) := fun {j x} hj h z => by
      obtain ⟨h1, _⟩ := back hj h
      obtain ⟨w, g1, b, f1, f2, f3, _⟩ := rp.slots j _ h1
      rw [g1] at z
      have : w = .ref d := Option.some.inj (Option.some.inj z)
      rw [this] at f1
      cases f1
      rw [hF] at f3
      cases f3
    by_cases hji : j = i
    · subst hji
      rw [q1] at hj
      cases hj
      exact nown (Ne.symm hjk) hy
    · by_cases hki : k = i
      · subst hki
        intro z
        rw [q1] at z
        cases z
        exact nown hji hx hj
      · exact rp.apart j k x y a hjk (back hji hx).1 (back hki hy).1 hj
/-- for k in d -/
def zForD (i : Nat) (g : D → Ev → (Ev → Prop) → Prop) (tb : TSt) : TSt := fun P ρ => ownDic i ρ fun kvs => ∀ d, forT g tb { P with nx := fun ρ' => ρ'[i]? = some (some (.std d kvs)) ∧ P.nx ((ρ'.map (unS d)).set i (some (.own (.dic kvs)))), rt := fun _ => False, bk := fun _ => False, ct := fun _ => False } (keysD kvs) (ρ.set i (some (.std d kvs)))
theorem z_forD {sts : List Stmt} {tg : Expr} {is : List Nat} {t : TSt} {g : D → Ev → (Ev → Prop) → Prop} (hp : PassesOwn (model X.prog X.w) X.A X.env X.xe) (hc : X.calm = true) (hd : PE X a (tVar i)) (hg : PGx X e is tg g) (hb : PSxs X e sts t) (hs : ∀ x, foldedSetIterable a X.env x = pure x := by intro _; rfl) : PSx X e (.For tg a sts [] pos) (zForD i g t) :=
  ⟨impS (ps_lock (z_for (e := e) hp hc (pi_std hd) hg hb hs).ps) fun Dd σ H ⟨F, ρ, P, rp, q, lk⟩ => by
    obtain ⟨kvs, hx, hq⟩ := ownDic_of q
    obtain ⟨d, ks, q1, h1, h2, h3, h4, hr⟩ := rp.lock hx
    have h00 : e.F0 d = none := rp.ok0.sub.free h4
    have hil : i < ρ.length := (List.getElem?_eq_some_iff.mp hx).1
    refine ⟨d, .dK ks, h1, trivial, fun od => ⟨_, _, { P with nx := fun ρ' => ρ'[i]? = some (some (.std d kvs)) ∧ P.nx ((ρ'.map (unS d)).set i (some (.own (.dic kvs)))), rt := fun _ => False, bk := fun _ => False, ct := fun _ => False }, hr od, ?_, ?_⟩⟩
    · show iStd i (ρ.set i (some (.std d kvs))) fun xs => _
      unfold iStd
      rw [List.getElem?_set_self hil]
      exact hq d
    · refine ⟨fun ρ' σ' F' H' s rp' ⟨z1, z2⟩ => ?_, fun _ _ _ _ _ z => z.elim, fun _ _ _ _ _ _ z => z.elim, fun _ _ _ _ _ _ z => z.elim⟩
      · have hF : F' d = some (.frz od (.dK ks)) := s _ _ upd_same
        refine ⟨rp'.sub _ _ hF, lk.nx _ _ (drop F' d) _ (fun b o hb => ?_) (rp'.unlock hF z1 h4 h00 h3) z2⟩
        have hne : b ≠ d := fun z => by rw [z, h2] at hb; cases hb
        rw [drop_ne hne]
        exact s b o (by rw [upd_ne hne]; exact hb)⟩
end
end PL
set_option Elab.async false
set_option linter.all false
set_option maxRecDepth 100000
set_option maxHeartbeats 4000000
namespace PySem
open Sem (wp)
open AutoSeq1 (wpAny_loadPart')
/-- enumerate(t), t a tuple: the pair of iterators -/
theorem enumT_meets (t : Addr) (items : Array Value) (n : Nat) (dct : Option Addr) (sl : Array (Option Value)) :
    Meets (Builtin.«enumerate.__new__» ⟨[.type "enumerate", .ref t], []⟩) (fun _ R s => s.heap.get? t = some { cls := .type "tuple", dict := dct, data := .seq items n, slots := sl } ∧
      R (.ok (.ret (.ref (s.heap.push { cls := .type "tuple_iterator", data := .fields #[.ref t, .int 0 0] }).objs.size)))
        { s with heap := (s.heap.push { cls := .type "tuple_iterator", data := .fields #[.ref t, .int 0 0] }).push { cls := .type "enumerate", data := .fields #[.none, .bool false, .ref s.heap.objs.size, rawInt 0, .none, .none] } }) :=
  .of_wp fun prog w A R s h => by
    obtain ⟨hp, g, d, tk, os⟩ := s
    obtain ⟨ht, h⟩ := h
    have hsub := sub_enumerate
    have hT : Heap.IsTuple (Shared.heap ⟨hp, g, d, tk, os⟩) t items := ⟨_, ht, rfl, n, rfl⟩
    wp_walk using wpAny_loadPart' ht
    refine wpAny_stack_any fun st => wpAny_pure ?_
    split
    · rename_i c _ _ _ _ _
      cases (c == Value.type "enumerate")
      · wp_walk using wpAny_loadPart' ht, wpAny_pyIter_tuple hT
        exact ⟨_, rfl, h⟩
      · wp_walk using wpAny_loadPart' ht, wpAny_pyIter_tuple hT
        exact ⟨_, rfl, h⟩
    · wp_walk using wpAny_loadPart' ht, wpAny_pyIter_tuple hT
      exact ⟨_, rfl, h⟩
end PySem
namespace PL
open PySem PySem.Spec PyProof.Rows L2
section
variable {prog : Program} {w : World} {A : Around} {E : Value → Shared → Prop} {s : Shared}
theorem call_enumT {l : Addr} {items : Array Value} {Q : Value → Shared → Prop} (hL : s.heap.IsTuple l items)
    (h : ∀ h', IsEnum h' (s.heap.objs.size + 1) s.heap.objs.size 0 .none → h'.IsTupleIter s.heap.objs.size l 0 → h'.objs.size = s.heap.objs.size + 2 →
      (∀ b o, s.heap.get? b = some o → h'.get? b = some o) → Q (.ref (s.heap.objs.size + 1)) { s with heap := h' }) :
    wpAny (model prog w) A (call (.type "enumerate") [.ref l]) Q E s := by
  obtain ⟨⟨c, dct, dt, sl⟩, hl, hc, n, hd⟩ := hL
  replace hc : c = .type "tuple" := hc
  replace hd : dt = .seq items n := hd
  subst hc hd
  refine callType_new F.called_enumerate (by decide) (F.typeCall_enumerate_1 _) (F.newCall_enumerate_1 _) (fun obj => F.args_object_init_2 obj _) F.entry_enumerate_new (enumT_meets l items n dct sl) ⟨hl, ?_⟩
  have hz : (s.heap.push { cls := .type "tuple_iterator", data := .fields #[.ref l, .int 0 0] }).objs.size = s.heap.objs.size + 1 := Heap.size_push ..
  show _ ∧ _
  rw [hz]
  have he : IsEnum ((s.heap.push { cls := .type "tuple_iterator", data := .fields #[.ref l, .int 0 0] }).push { cls := .type "enumerate", data := .fields #[.none, .bool false, .ref s.heap.objs.size, rawInt 0, .none, .none] }) (s.heap.objs.size + 1) s.heap.objs.size 0 .none := by
    have q := Heap.get?_push_size (s.heap.push { cls := .type "tuple_iterator", data := .fields #[.ref l, .int 0 0] }) (o := { cls := .type "enumerate", data := .fields #[.none, .bool false, .ref s.heap.objs.size, rawInt 0, .none, .none] }) rfl
    rw [hz] at q
    exact q
  refine ⟨⟨_, he, rfl⟩, h _ he ⟨_, Heap.get?_push_of_some _ (Heap.get?_push_size _ rfl), rfl, rfl⟩ (by rw [Heap.size_push, hz]) fun b o x => Heap.get?_push_of_some _ (Heap.get?_push_of_some _ x)⟩
end
/-- the tuple at a, each item in a new pair -/
def IteT (K : PySem.W.Frag) (a : Addr) : It :=
  ⟨fun i H => ∃ (xs : List V) (x : V), SqT K H a xs ∧ xs[i]? = some x, fun i H v H' => ∃ T x, v = .ref T ∧ H T = none ∧ H' = upd H T (.tup [.int (i : Nat), x]) ∧ ∀ xs, SqT K H a xs → xs[i]? = some x, fun i H => ∃ xs : List V, SqT K H a xs ∧ xs.length ≤ i⟩
theorem turn_enumT {P : Program} {w : World} {K : PySem.W.Frag} {elts : List Expr} {kk : Nat} {tpos : Pos} (a e it : Addr) (hea : e ≠ a) (hia : a ≠ it) :
    Turn P w K (.Tuple elts kk tpos) (IteT K a) [e, it] e (fun i h => (∃ old, IsEnum h e it ((i : Nat) : Int) old) ∧ h.IsTupleIter it a i ∧ e ≠ it) where
  mem := by simp
  obj := fun i h st b hb => by
    obtain ⟨⟨old, he⟩, ⟨o, ho, hc, hd⟩, _⟩ := st
    rcases List.mem_cons.mp hb with z | z
    · rw [z]; exact ⟨_, he, fun v q => nomatch q⟩
    · have z := List.mem_singleton.mp z
      rw [z]; exact ⟨o, ho, fun v q => by rw [hd] at q; cases q⟩
  keep := fun i h h' st k => let ⟨⟨old, he⟩, hi, hne⟩ := st; ⟨⟨old, k e (by simp) _ he⟩, hi.at fun o q => k it (by simp) o q, hne⟩
  item := by
    intro X hP hw hK hc i pins s σ H E I hf st hg
    subst hP hw hK
    obtain ⟨⟨old, he⟩, hit, hne⟩ := st
    obtain ⟨xs, x, hq, hx⟩ := hg
    obtain ⟨its, rv, p, hz⟩ := I.tuple hq
    obtain ⟨u, hu, ru⟩ := rv.get hx
    have hel : e < s.heap.objs.size := Heap.lt_size he
    have hil : it < s.heap.objs.size := by obtain ⟨_, q, _⟩ := hit; exact Heap.lt_size q
    have hlt : i < its.toArray.size := by
      have := (List.getElem?_eq_some_iff.mp hu).1
      simpa using this
    have D := Draws.tuple (prog := X.prog) (w := X.w) (A := X.A.in1) (I.ok.hd hc) it a hia its.toArray
    refine wpAny_pyNext_enum_itemD D he ⟨hit, p⟩ hlt hne (fun z => ?_) fun y h' tk hy ho hst hT hsz hk => ?_
    · rcases List.mem_cons.mp z with z | z
      · exact hne z
      · exact hea (List.mem_singleton.mp z)
    have ey : y = u := by
      have hy : its.toArray[i]? = some y := hy
      rw [show its.toArray[i]? = its[i]? by simp, hu] at hy
      exact (Option.some.inj hy).symm
    subst ey
    have hit' := hst.1
    refine ⟨_, rfl, wpAny_letOwnedTupleGo_enum (s := { s with heap := h', toks := tk + 1 }) ho fun h'' he' sb => ?_⟩
    have hT2 : h''.get? s.heap.objs.size = some { cls := .type "tuple", data := .seq #[.int i tk, y] } := (sb.2 _ (Nat.ne_of_gt hel)).trans hT
    have new : ObjOk X.prog X.w (upd H s.heap.objs.size (.tup [.int (i : Nat), x])) h'' s.heap.objs.size (.tup [.int (i : Nat), x]) :=
      ⟨by show 2 ≤ sizeLine; decide, [.int i tk, y], .cons ⟨_, rfl⟩ (.cons ru .nil), ⟨_, hT2, rfl, _, rfl⟩⟩
    have I1 : Inv X pins σ (upd H s.heap.objs.size (.tup [.int (i : Nat), x])) { s with heap := h'', toks := tk + 1 } :=
      Inv.turnedNew (ch := [e, it]) I (fun b ob hb q => (sb.2 b (fun z => hb (by simp [z]))).trans (hk b ob (fun z => hb (by simp [z])) (fun z => hb (by simp [z])) q)) hf (Nat.le_refl _) new
    refine ⟨.ref s.heap.objs.size, _, I1, rfl, ⟨_, x, rfl, I.hok.fresh (Nat.le_refl _), rfl, fun ys hy => by rw [I.tuple_inj hy hq]; exact hx⟩, ⟨⟨y, ?_⟩, hit'.at fun o q => (sb.2 it (Ne.symm hne)).trans q, hne⟩, fun b hb => ?_⟩
    · have e1 : ((i + 1 : Nat) : Int) = (i : Int) + 1 := by omega
      rw [e1]
      exact he'
    · have hb' : b < s.heap.objs.size := by
        rcases List.mem_cons.mp hb with z | z
        · rw [z]; exact hel
        · rw [List.mem_singleton.mp z]; exact hil
      rw [upd_ne (Nat.ne_of_lt hb')]
      exact (hf b hb).1
  done := by
    intro X hP hw hK hc i pins s σ H E I hf st hg
    subst hP hw hK
    obtain ⟨⟨old, he⟩, hit, hne⟩ := st
    obtain ⟨xs, hq, hx⟩ := hg
    obtain ⟨its, rv, p, hz⟩ := I.tuple hq
    obtain ⟨f0, f1, f2, f3, f4, f5⟩ := hf it (by simp)
    have hl := rv.length
    unfold pyNext
    refine wpAny_bind (wpAny_attempt (wpAny_callSpecial?_slot (name := Str.ofString "__next__") (show s.TypeIs (.ref e) "enumerate" from ⟨_, he, rfl⟩) F.slot_enumerate_next
      (wpAny_call_entry F.slot_enumerate_next ⟨_, he, rfl⟩ F.entry_enumerate_next ?_ (F.args_enumerate_next_1 _))))
    show wpAny _ _ (field (.ref e) 2 >>= _) _ _ _
    refine wpAny_bind (wpAny_field he rfl (x := .ref it) rfl ?_)
    refine wpAny_bind (wpAny_nextOf_tuple_end (show X.A.in1.handled = none from I.ok.hd hc) hit p (by simp; omega) fun h' x he' hx' => ?_)
    obtain ⟨o, ho, hcl⟩ := hx'
    refine wpAny_bind (wpAny_isInstance (T := "StopIteration") (b := true) ⟨o, ho, hcl⟩ isSubtype_stop ?_)
    exact wpAny_pure ⟨rfl, I.turned (t' := s.toks) (fun b o hb q => he' b o hb q) f0 f1 f3 f4 f5⟩
  self := fun A i s Q E st h => let ⟨⟨_, he⟩, _⟩ := st; wpAny_pyIter_enum he h
def iEnumT (K : PySem.W.Frag) (ta : TA) : TI := fun σ H R => ta σ H fun vs H1 => ∃ a xs, vs = [.ref a] ∧ SqT K H1 a xs ∧ R (IteT K a) H1
theorem pi_enumT {X : Cx} {e : Expr} {ta : TA} {p pos tpos : Pos} {elts : List Expr} {kk : Nat} (hg : Gl X "enumerate") (hm : X.mg "enumerate" = none) (ha : PA X [e] ta) (hs : starEach [e] X.env = [(false, eval e X.env)] := by rfl) :
    PI X (.Tuple elts kk tpos) (.Call (.Name "enumerate" p) [e] [] pos) (iEnumT X.K ta) := by
  refine ⟨fun pins s σ H R I h => ?_⟩
  refine Call_ (ld_blt I hg hm boot_enumerate (PyProof.Rows.callWith_type1 (thn (ha.run pos pins s σ H _ I h) fun us s1 ⟨vs, H1, I1, r1, q1⟩ => ?_) hs rfl))
  obtain ⟨a, xs, ex, hq, q⟩ := q1
  subst ex
  cases r1 with
  | cons r rr =>
    cases rr
    cases r
    obtain ⟨its, rv, p', hz⟩ := I1.tuple hq
    have hal : a < s1.heap.objs.size := by
      obtain ⟨o, ho, _⟩ := id p'
      exact Heap.lt_size ho
    refine call_enumT (show s1.heap.IsTuple a its.toArray from p') fun h' he hit hsz hk => wpAny_pyIter_enum he ?_
    have I2 : Inv X pins σ H1 { s1 with heap := h' } := I1.kept (t' := s1.toks) hk
    refine ⟨s1.heap.objs.size + 1, [s1.heap.objs.size + 1, s1.heap.objs.size], _, _, H1, rfl, I2, turn_enumT a (s1.heap.objs.size + 1) s1.heap.objs.size (Ne.symm (Nat.ne_of_lt (Nat.lt_succ_of_lt hal))) (Nat.ne_of_lt hal), ⟨⟨.none, he⟩, hit, Nat.succ_ne_self _⟩, fun b hb => ?_, q⟩
    have hle : s1.heap.objs.size ≤ b := by
      rcases List.mem_cons.mp hb with z | z
      · rw [z]; exact Nat.le_add_right _ _
      · rw [List.mem_singleton.mp z]; exact Nat.le_refl _
    exact I1.fpOk hle (I1.hok.fresh hle)
theorem walk_enumT {K : PySem.W.Frag} {a : Addr} {xs : List V} : Walk (IteT K a) xs.length (fun H => SqT K H a xs) (YPair (fun i => some (.int (i : Nat))) (fun i => xs[i]?)) := by
  refine ⟨fun i _ hi q => ⟨xs, xs[i], q, by simp [hi]⟩, fun _ q => ⟨xs, q, Nat.le_refl _⟩, fun i H v H' _ q y => ?_⟩
  obtain ⟨T, x, h1, h2, h3, h4⟩ := y
  exact ⟨T, .int (i : Nat), x, h1, h2, h3, rfl, h4 xs q⟩
end PL
set_option Elab.async false
set_option linter.all false
set_option maxRecDepth 100000
set_option maxHeartbeats 4000000
namespace PL
open PySem PySem.Spec PyProof.Rows L2
open PySem.W (EachIs AllAlike Sortable dataLe)
/-- sorted(xs), xs a list that reads as data -/
def rSortD (K : PySem.W.Frag) : List V → Hp → VK → Prop := fun vs H Q => ∃ (a : Addr) (xs : List V) (ds : List D), vs = [V.ref a] ∧ SqL K H a xs ∧ DpAll K H xs ds ∧ AllAlike ds ∧ Sortable ds ∧ (∀ d ∈ ds, d.depth ≤ 60) ∧
  ∀ (ys : List V) (p : Addr), (∀ G : Hp, DpAll K G xs ds → DpAll K G ys (ds.mergeSort (dataLe false id))) → H p = none → Q (.ref p) (upd H p (.lst ys))
theorem each_of {K : PySem.W.Frag} {H : Hp} {R : Value → D → Prop} : ∀ {xs : List V} {us : List Value} {ds : List D}, Vals xs us → DpAll K H xs ds → (∀ x u d, x ∈ xs → RelV x u → Dp K H x d → R u d) → EachIs R us ds
  | _, _, _, .nil, .nil, _ => .nil
  | x :: xs, u :: us, d :: ds, .cons r t, .cons a b, h => .cons (h x u d (List.mem_cons_self ..) r a) (each_of t b fun y w e hy => h y w e (List.mem_cons_of_mem _ hy))
theorem each_back {R : Value → D → Prop} : ∀ {us : List Value} {ds : List D}, EachIs R us ds → (∀ u d, R u d → ∃ x, RelV x u) → ∃ ys, Vals ys us
  | _, _, .nil, _ => ⟨[], .nil⟩
  | _, _, .cons a t, h => by
    obtain ⟨x, r⟩ := h _ _ a
    obtain ⟨ys, r'⟩ := each_back t h
    exact ⟨x :: ys, .cons r r'⟩
/-- what is told of a value by the values that were given -/
def Told (K : PySem.W.Frag) (xs : List V) (ds : List D) (u : Value) (d : D) : Prop := ∃ x, RelV x u ∧ ∀ G : Hp, DpAll K G xs ds → Dp K G x d
theorem told_all {K : PySem.W.Frag} : ∀ {xs : List V} {us : List Value} {ds : List D}, Vals xs us → xs.length = ds.length → EachIs (Told K xs ds) us ds := by
  have key : ∀ {ys : List V} {us : List Value} {es : List D} (xs : List V) (ds : List D), Vals ys us → ys.length = es.length → (∀ G : Hp, DpAll K G xs ds → DpAll K G ys es) → EachIs (Told K xs ds) us es := by
    intro ys us es xs ds r
    induction r generalizing es with
    | nil =>
      intro hl _
      cases es with
      | nil => exact .nil
      | cons e es => cases hl
    | cons r t ih =>
      intro hl h
      cases es with
      | nil => cases hl
      | cons e es =>
        refine .cons ⟨_, r, fun G g => ?_⟩ (ih (by simpa using hl) fun G g => ?_)
        · have := h G g
          cases this with
          | cons a _ => exact a
        · have := h G g
          cases this with
          | cons _ b => exact b
  intro xs us ds r hl
  exact key xs ds r hl fun G g => g
theorem told_back {K : PySem.W.Frag} {xs : List V} {ds : List D} : ∀ {us : List Value} {es : List D}, EachIs (Told K xs ds) us es → ∃ ys, Vals ys us ∧ ∀ G : Hp, DpAll K G xs ds → DpAll K G ys es
  | _, _, .nil => ⟨[], .nil, fun _ _ => .nil⟩
  | _, _, .cons ⟨x, r, h⟩ t => by
    obtain ⟨ys, r', h'⟩ := told_back t
    exact ⟨x :: ys, .cons r r', fun G g => .cons (h G g) (h' G g)⟩
section
variable {X : Cx}
theorem cr_sortD (hu : X.A.units + 64 < cLine) : CallR X (.builtin "sorted") (rSortD X.K) := by
  intro pins s σ H vs us Q I r h
  obtain ⟨a, xs, ds, rfl, hs, hd, ha, hk, hdep, q⟩ := h
  obtain ⟨its, rv, hl, hz⟩ := I.list hs
  rw [Vals.ref1 r]
  have l1 := DpAll.len hd
  have l2 := rv.length
  refine PySem.W.sorted_data (R := Told X.K xs ds) (enc := id) (bs := ds) hl.isList (told_all rv l1) (each_of rv hd fun x u d _ ru dx => Dp.reads I d x u dx ru) (by rw [List.map_id]; exact ha) (by rw [List.map_id]; exact hk) (by omega) (fun d hd' => ?_) fun out ho eo => ?_
  · have := hdep d hd'
    show X.A.units + 2 + d.depth < cLine
    omega
  · obtain ⟨ys, r', h'⟩ := told_back eo
    obtain ⟨ep, he'⟩ := PyProof.Rows.sortedAll_at s.heap its out.toArray
    have hlen : ys.length ≤ sizeLine := by
      rw [r'.length, ho]
      omega
    exact ⟨.ref _, upd H (s.heap.objs.size + 1) (.lst ys), I.laid (t' := s.toks) (fun _ _ => PyProof.Rows.sortedAll_old) (Nat.le_succ _) ⟨hlen, out, ep, r', he'⟩, rfl, q ys _ h' (I.hok.fresh (Nat.le_succ _))⟩
variable {e : Ent} {a : Expr} {pos pf : Pos} {tq : TX (Bool × List D)}
def rdSort : R1 (Bool × List D) OC := fun x Q => x.1 = false ∧ AllAlike x.2 ∧ Sortable x.2 ∧ (∀ d ∈ x.2, d.depth ≤ 60) ∧ Q (.lst (x.2.mergeSort (dataLe false id)))
theorem pn_sorted (hu : X.A.units + 64 < cLine) (hg : Gl X "sorted") (hm : X.mg "sorted" = none) (hv : bootBuiltins "sorted" = some (.builtin "sorted")) (ha : PQ X e a tq) (he : starEach [a] X.env = (false, eval a X.env) :: starEach [] X.env := by rfl) (hpl : (backTo pos (starEach [] X.env)).any (·.1) = false := by rfl) : PN X e (.Call (.Name "sorted" pf) [a] [] pos) (xUn rdSort tq) :=
  px_b1 (cr_sortD hu) hg hm hv (fun x Q Q' h q => ⟨q.1, q.2.1, q.2.2.1, q.2.2.2.1, h _ q.2.2.2.2⟩) ha (fun ρ F σ H0 H v x Q rp dv q => by
    obtain ⟨b, xs⟩ := x
    obtain ⟨q1, q2, q3, q4, q⟩ := q
    simp only at q1 q2 q3 q4 q
    subst q1
    obtain ⟨p, vs, e1, e2, e3⟩ := SeqOk.list dv
    subst e1
    refine ⟨p, vs, xs, rfl, e2, dpAllMono rp.sub xs e3, q2, q3, q4, fun ys n hy hn => ?_⟩
    obtain ⟨g, k⟩ := nOk_new rp hn (hy F e3)
    exact q _ _ _ g k) (by decide) (by decide) he hpl
end
end PL
set_option Elab.async false
set_option linter.all false
set_option maxRecDepth 100000
set_option maxHeartbeats 4000000
namespace PL
open PySem PySem.Spec PyProof.Rows L2
section
variable {X : Cx} {e : Ent} {α β γ : Type} {k1 : Kd e α} {k2 : Kd e β} {a b c tg : Expr} {fz : Bool} {pos p2 pf apos : Pos} {ta tb : TX D} {sc : TX Bool} {tq tq2 : TX (Bool × List D)} {st : Stmt} {t : TSt} {i : Nat}
/-- one's own list is frozen, then the statement -/
def zFrz (i : Nat) (t : TSt) : TSt := fun P ρ => ownL i ρ fun xs => t P (ρ.set i (some (.imm (.list xs))))
theorem Rp.frz {K : PySem.W.Frag} {ρ : Ev} {σ : L2.St} {F H : Hp} {xs : List D} (rp : Rp K e ρ F σ H) (hi : ρ[i]? = some (some (.own (.lst xs)))) : ∃ F', Same F F' ∧ Rp K e (ρ.set i (some (.imm (.list xs)))) F' σ H := by
  obtain ⟨v, q1, p, e1, ⟨vs, e2, e3⟩, e4, e5, e6⟩ := rp.slots i _ hi
  subst e1
  have sF : Same F (upd F p (.lst vs)) := sameNew e4
  refine ⟨upd F p (.lst vs), sF, ⟨by rw [List.length_set]; exact rp.len, rp.ok0, ⟨rp.gr.fz.trans sF, fun b o h z => ?_, rp.gr.st, ⟨fun b o h => ?_, fun b m => ⟨?_, (rp.ok.mu b m).2⟩, rp.ok.inv⟩⟩, rp.stay, fun j q h => ?_, fun j k x y b hjk hx hy hj => ?_⟩⟩
  · by_cases hb : b = p
    · rw [hb]
      exact e5
    · rw [upd_ne hb] at h
      exact rp.gr.new b o h z
  · by_cases hb : b = p
    · rw [hb, upd_same] at h
      rw [hb, ← h]
      exact e2
    · rw [upd_ne hb] at h
      exact rp.sub b o h
  · rw [upd_ne (fun z => e6 (by rw [← z]; exact m))]
    exact (rp.ok.mu b m).1
  · rcases getSet h with ⟨rfl, rfl⟩ | ⟨hij, hj⟩
    · exact ⟨_, q1, .lst (SqL.of upd_same) (dpAllMono sF xs e3)⟩
    · obtain ⟨w, h1, h2⟩ := rp.slots j q hj
      refine ⟨w, h1, ?_⟩
      cases q with
      | imm x => exact dpMono sF x h2
      | raw x => exact h2
      | std x y => exact h2.mono sF
      | two _ _ => exact h2.elim
      | own oc =>
        obtain ⟨b, f1, f2, f3, f4, f5⟩ := h2
        have hb : b ≠ p := fun z => by
          subst z
          subst f1
          exact rp.apart i j _ _ _ hij hi hj q1 h1
        exact ⟨b, f1, f2.mono sF fun y hy => hy, by rw [upd_ne hb]; exact f3, f4, f5⟩
  · rcases getSet hx with ⟨_, z⟩ | ⟨_, hx⟩
    · cases z
    · rcases getSet hy with ⟨_, z⟩ | ⟨_, hy⟩
      · cases z
      · exact rp.apart j k x y b hjk hx hy hj
theorem z_frz (h : PSx X e st t) : PSx X e st (zFrz i t) := ⟨impS h.ps fun Dd σ H ⟨F, ρ, P, rp, q, lk⟩ => by
  obtain ⟨xs, hx, q⟩ := ownL_of q
  obtain ⟨F', s, rp'⟩ := rp.frz hx
  exact ⟨F', _, P, rp', q, lk.up s⟩⟩
/-- a, b = x, y with a captured name among them: the pair is made, then taken apart -/
theorem z_parC {i j : Nat} {x y : Str} {px py pt : Pos} {kt k2' pt2} {f : α → PV} {g : β → PV} {ta : TX α} {tb : TX β} (kf : Kv X.K k1 f) (kg : Kv X.K k2 g) (hc : X.calm = true) (hx : PG X (.Name x px) (gName i)) (hy : PG X (.Name y py) (gName j)) (ha : PX X e k1 a ta) (hb : PX X e k2 b tb)
    (hs : swapsWithSole [.Tuple [.Name x px, .Name y py] kt pt] (.Tuple [a, b] k2' pt2) pos.line X.env = pure false := by rfl) (hw : swappedStores [.Tuple [.Name x px, .Name y py] kt pt] (.Tuple [a, b] k2' pt2) X.env = pure none := by rfl)
    (h1 : (assignEach [.Tuple [.Name x px, .Name y py] kt pt] X.env).map (·.2) = [assign (.Tuple [.Name x px, .Name y py] kt pt) X.env] := by rfl)
    (hp1 : (assignEach [.Name x px, .Name y py] X.env).map (·.2) = assign (.Name x px) X.env :: (assignEach [.Name y py] X.env).map (·.2) := by rfl) (hp2 : (assignEach [.Name y py] X.env).map (·.2) = assign (.Name y py) X.env :: (assignEach [] X.env).map (·.2) := by rfl)
    (hn : (assignEach [.Name x px, .Name y py] X.env).length = 2 := by rfl) (hst : (assignEach [.Name x px, .Name y py] X.env).findIdx? (·.1) = none := by rfl)
    (hs1 : starEach [a, b] X.env = (false, eval a X.env) :: starEach [b] X.env := by rfl) (hs2 : starEach [b] X.env = (false, eval b X.env) :: starEach [] X.env := by rfl) :
    PSx X e (.Assign [.Tuple [.Name x px, .Name y py] kt pt] (.Tuple [a, b] k2' pt2) pos) (zPar f g i j ta tb) :=
  ⟨impS (ps_asg (pe_tup (pa_cons ha.pe (pa_cons hb.pe pa_nil hs2) hs1)) (pg_tup hc (pgs_cons hx (pgs_cons hy pgs_nil hp2) hp1) hn hst) hs hw h1) fun Dd σ H ⟨F, ρ, P, rp, q, lk⟩ => ⟨F, ρ, rp, ha.mono ρ _ _ (fun d hd v F1 H1 g1 dv => ⟨F1, ρ, rp.step g1, hb.mono ρ _ _ (fun d' hd' w F2 H2 g2 dw => by
    refine ⟨by show 2 ≤ sizeLine; decide, fun p hp => ⟨p, [v, w], rfl, SqT.of upd_same, rfl, v, [w], rfl, w, [], rfl, rfl, ?_⟩⟩
    have r1 := kf.set i rp g1 dv
    have r2 := kg.set j r1 g2 dw
    have g3 := Gr.newO (o := .tup [v, w]) r2.ok r2.stay hp
    exact lk.nx _ _ F2 _ (g1.fz.trans g2.fz) (r2.step g3) hd') hd⟩) q⟩⟩
/-! ### enumerate -/
def enumD (xs : List D) : List D := (List.range xs.length).map fun i => .tuple [.int (i : Nat), xs.getD i .none]
theorem walkE {K : PySem.W.Frag} {F H : Hp} {vs : List V} {xs : List D} {J : It} {G : Hp → Prop} (h : DpAll K F vs xs) (w : Walk J vs.length G (YPair (fun i => some (.int (i : Nat))) (fun i => vs[i]?))) (hG : ∀ H' : Hp, (if fz = true then Same F H' else Same (Msk e.M H) (Msk e.M H')) → G H') : WalkOk K e fz F H J (enumD xs) := by
  refine ⟨G, YPair (fun i => some (.int (i : Nat))) (fun i => vs[i]?), ?_, hG, ?_⟩
  · unfold enumD
    rw [List.length_map, List.length_range, ← DpAll.len h]
    exact w
  · rintro j H1 x H2 d F1 hd s ok st ⟨T, u, y, rfl, hT, rfl, hu, hy⟩
    cases hu
    unfold enumD at hd
    rw [List.getElem?_map] at hd
    obtain ⟨k, hk, hd⟩ := Option.map_eq_some_iff.mp hd
    have hjl : j < xs.length := by
      by_cases z : j < xs.length
      · exact z
      · rw [List.getElem?_eq_none (by rw [List.length_range]; omega)] at hk
        cases hk
    rw [List.getElem?_range hjl] at hk
    cases hk
    subst hd
    obtain ⟨d', hd1, hd2⟩ := DpAll.back h hy
    refine ⟨upd F1 T (.tup [.int (j : Nat), y]), Gr.newF ok st hT, .tup (SqT.of upd_same) (.cons (.int _) (.cons ?_ .nil))⟩
    have e2 : xs.getD j .none = d' := by
      rw [List.getD_eq_getElem?_getD, hd1] <;> rfl
    rw [e2]
    exact dpMono (s.trans (sameNew (ok.sub.free hT))) d' hd2
theorem pi_eL {elts : List Expr} {kk : Nat} {tpos : Pos} (hg : Gl X "enumerate") (hm : X.mg "enumerate" = none) (h : PD X e a ta) (hs : starEach [a] X.env = [(false, eval a X.env)] := by rfl) : PIx X e fz (.Tuple elts kk tpos) (.Call (.Name "enumerate" pf) [a] [] pos) (fun ρ Q => iL ta ρ fun xs => Q (enumD xs)) :=
  ⟨fun ρ Q Q' k q => h.mono ρ _ _ (fun d hd => listOf_mono (fun _ => k _) hd) q, impI (pi_enum hg hm (pa_cons h.pe pa_nil hs) hs) fun σ H R ⟨F, ρ, rp, q⟩ => ⟨F, ρ, rp, h.mono ρ _ _ (fun d hd v F' H' g dv => by
    unfold listOf at hd
    split at hd
    · cases dv with
      | lst h1 h2 => exact ⟨_, _, rfl, SqLmono g.ok.sub h1, hd _ F' H' g (walkE h2 walk_enum fun H' z => SqLmono (stabD (K := X.K) g.ok z) h1)⟩
    · exact hd.elim) q⟩⟩
theorem pi_eT {elts : List Expr} {kk : Nat} {tpos : Pos} (hg : Gl X "enumerate") (hm : X.mg "enumerate" = none) (h : PD X e a ta) (hs : starEach [a] X.env = [(false, eval a X.env)] := by rfl) : PIx X e fz (.Tuple elts kk tpos) (.Call (.Name "enumerate" pf) [a] [] pos) (fun ρ Q => iT ta ρ fun xs => Q (enumD xs)) :=
  ⟨fun ρ Q Q' k q => h.mono ρ _ _ (fun d hd => tupOf_mono (fun _ => k _) hd) q, impI (pi_enumT hg hm (pa_cons h.pe pa_nil hs) hs) fun σ H R ⟨F, ρ, rp, q⟩ => ⟨F, ρ, rp, h.mono ρ _ _ (fun d hd v F' H' g dv => by
    unfold tupOf at hd
    split at hd
    · cases dv with
      | tup h1 h2 => exact ⟨_, _, rfl, SqTmono g.ok.sub h1, hd _ F' H' g (walkE h2 walk_enumT fun H' z => SqTmono (stabD (K := X.K) g.ok z) h1)⟩
    · exact hd.elim) q⟩⟩
/-! ### list(range(..)) -/
theorem rg_dp {K : PySem.W.Frag} {F : Hp} (a b : Int) : DpAll K F (rgV a b) (intsD a (b - a).toNat) := by
  unfold rgV intsD
  have : ∀ l : List Nat, DpAll K F (l.map fun i => V.int (a + (i : Nat))) (l.map fun i => PyData.int (a + (i : Nat))) := fun l => by
    induction l with
    | nil => exact .nil
    | cons x l ih => exact .cons (.int _) ih
  exact this _
def nRg (ta tb : TX D) : TX OC := fun ρ Q => ta ρ fun d => tb ρ fun d' => match d, d' with | .int i, .int j => RgOk i j ∧ Q (.lst (intsD i (j - i).toNat)) | _, _ => False
theorem pn_listRg2 {p3 pr : Pos} (hc : X.calm = true) (hg : Gl X "list") (hm : X.mg "list" = none) (hg2 : Gl X "range") (hm2 : X.mg "range" = none) (h : PD X e a ta) (h2 : PD X e b tb)
    (na : starEach [a, b] X.env = (false, eval a X.env) :: starEach [b] X.env := by rfl) (nb : starEach [b] X.env = (false, eval b X.env) :: starEach [] X.env := by rfl) (hp : (backTo pr (starEach [b] X.env)).any (·.1) = false := by rfl)
    (ne : starEach [.Call (.Name "range" p3) [a, b] [] pr] X.env = (false, eval (.Call (.Name "range" p3) [a, b] [] pr) X.env) :: starEach [] X.env := by rfl) : PN X e (.Call (.Name "list" pf) [.Call (.Name "range" p3) [a, b] [] pr] [] pos) (nRg ta tb) :=
  ⟨fun ρ Q Q' k q => h.mono ρ _ _ (fun d hd => h2.mono ρ _ _ (fun d' hd' => by
    split at hd' <;> first | exact ⟨hd'.1, k _ hd'.2⟩ | exact hd'.elim) hd) q, imp (pe_listRg hc hg hm (prg_2 hg2 hm2 h.pe h2.pe na nb hp) ne) fun σ H Q ⟨F, ρ, rp, q⟩ => ⟨F, ρ, rp, h.mono ρ _ _ (fun d hd v F1 H1 g1 dv => ⟨F1, ρ, rp.step g1, h2.mono ρ _ _ (fun d' hd' w F2 H2 g2 dw => by
    split at hd'
    · rename_i i j
      cases dv
      cases dw
      refine ⟨i, j, rfl, rfl, hd'.1, fun n hn => ?_⟩
      have rp2 := (rp.step g1).step g2
      have hq : Fin (kN X.K e) F H Q (.lst (intsD i (j - i).toNat)) := hd'.2
      obtain ⟨g3, k3⟩ := nOk_new rp2 hn (rg_dp (K := X.K) (F := F2) i j)
      exact hq _ F2 _ ((g1.trans rp.ok g2).trans rp.ok g3) ((kN X.K e).weak (g1.trans rp.ok g2) k3)
    · exact hd'.elim) hd⟩) q⟩⟩
def nRg1 (ta : TX D) : TX OC := fun ρ Q => ta ρ fun d => match d with | .int j => RgOk 0 j ∧ Q (.lst (intsD 0 (j - 0).toNat)) | _ => False
theorem pn_listRg1 {p3 pr : Pos} (hc : X.calm = true) (hg : Gl X "list") (hm : X.mg "list" = none) (hg2 : Gl X "range") (hm2 : X.mg "range" = none) (h : PD X e a ta) (na : starEach [a] X.env = (false, eval a X.env) :: starEach [] X.env := by rfl)
    (ne : starEach [.Call (.Name "range" p3) [a] [] pr] X.env = (false, eval (.Call (.Name "range" p3) [a] [] pr) X.env) :: starEach [] X.env := by rfl) : PN X e (.Call (.Name "list" pf) [.Call (.Name "range" p3) [a] [] pr] [] pos) (nRg1 ta) :=
  ⟨fun ρ Q Q' k q => h.mono ρ _ _ (fun d hd => by
    split at hd <;> first | exact ⟨hd.1, k _ hd.2⟩ | exact hd.elim) q, imp (pe_listRg hc hg hm (prg_1 hg2 hm2 h.pe na) ne) fun σ H Q ⟨F, ρ, rp, q⟩ => ⟨F, ρ, rp, h.mono ρ _ _ (fun d hd v F1 H1 g1 dv => by
    split at hd
    · rename_i j
      cases dv
      refine ⟨j, rfl, hd.1, fun n hn => ?_⟩
      have rp2 := rp.step g1
      have hq : Fin (kN X.K e) F H Q (.lst (intsD 0 (j - 0).toNat)) := hd.2
      obtain ⟨g3, k3⟩ := nOk_new rp2 hn (rg_dp (K := X.K) (F := F1) 0 j)
      exact hq _ F1 _ (g1.trans rp.ok g3) ((kN X.K e).weak g1 k3)
    · exact hd.elim) q⟩⟩
/-! ### all, any of a list of bools; list.index -/
def boolsOf : List D → Option (List Bool)
  | [] => some []
  | .bool b :: r => (boolsOf r).map (b :: ·)
  | _ => none
theorem boolsOf_dp {K : PySem.W.Frag} {F : Hp} : ∀ {vs : List V} {ds : List D} {bs : List Bool}, boolsOf ds = some bs → DpAll K F vs ds → vs = bs.map V.bl
  | _, _, _, h, .nil => by
    cases h
    rfl
  | v :: vs, d :: ds, bs, h, .cons a t => by
    cases a with
    | bl b =>
      have h : (boolsOf ds).map (b :: ·) = some bs := h
      cases q : boolsOf ds with
      | none => rw [q] at h; cases h
      | some ms =>
        rw [q] at h
        cases h
        rw [boolsOf_dp q t]
        rfl
    | _ => cases h
def rdAll : R1 (Bool × List D) D := fun x Q => x.1 = false ∧ someOf (boolsOf x.2) fun bs => Q (.bool (bs.all id))
theorem pd_all (hc : X.calm = true) (hg : Gl X "all") (hm : X.mg "all" = none) (hv : bootBuiltins "all" = some (.builtin "all")) (ha : PQ X e a tq) (he : starEach [a] X.env = (false, eval a X.env) :: starEach [] X.env := by rfl) (hpl : (backTo pos (starEach [] X.env)).any (·.1) = false := by rfl) : PD X e (.Call (.Name "all" pf) [a] [] pos) (xUn rdAll tq) :=
  px_b1 (cr_all hc) hg hm hv (fun x Q Q' h q => ⟨q.1, someOf_mono (fun _ => h _) q.2⟩) ha (fun ρ F σ H0 H v x Q rp dv q => by
    obtain ⟨b, xs⟩ := x
    obtain ⟨q1, q⟩ := q
    simp only at q1 q
    subst q1
    cases z : boolsOf xs with
    | none => rw [z] at q; exact q.elim
    | some bs =>
      rw [z] at q
      obtain ⟨p, vs, e1, e2, e3⟩ := SeqOk.list dv
      subst e1
      rw [boolsOf_dp z e3] at e2
      exact ⟨p, bs, rfl, e2, (show Fin (kD X.K e) F H Q (.bool (bs.all id)) from q) _ F H (.refl rp.ok) (.bl _)⟩) (by decide) (by decide) he hpl
/-- l.index(x), plain items -/
def xIndex (tq : TX (Bool × List D)) (ta : TX D) : TX D := fun ρ Q => tq ρ fun x => x.1 = false ∧ ta ρ fun d => flatD d = true ∧ x.2.all flatD = true ∧ ∃ j : Nat, ∃ z, x.2[j]? = some z ∧ eqF z d = true ∧ (∀ m z', m < j → x.2[m]? = some z' → eqF z' d = false) ∧ Q (.int (j : Nat))
theorem pd_index (hq : PQ X e a tq) (h : PD X e b ta) (hb0 : attributeBase a "index" X.env (eval a X.env) = eval a X.env := by rfl)
    (hfew : ((backTo p2 (starEach [b] X.env)).all (fun x => !x.1) && (backToKw p2 (keywordEach [] X.env)).all (fun x => x.1.isSome) && decide ([b].length + ([] : List Keyword).length + (if ([] : List Keyword).isEmpty then 0 else 1) < 30)) = true := by rfl)
    (hline : (apos.endLine == p2.line) = true := by rfl) (hst : starEach [b] X.env = (false, eval b X.env) :: starEach [] X.env := by rfl) (hpl : (backTo p2 (starEach [] X.env)).any (·.1) = false := by rfl) : PD X e (.Call (.Attribute a "index" apos) [b] [] p2) (xIndex tq ta) :=
  ⟨fun ρ Q Q' k q => hq.mono ρ _ _ (fun x hx => ⟨hx.1, h.mono ρ _ _ (fun d ⟨h2, h3, j, z, h4, h5, h6, h7⟩ => ⟨h2, h3, j, z, h4, h5, h6, k _ h7⟩) hx.2⟩) q,
    imp (pe_bm PySem.F.plainAttrs_list PySem.F.slot_list_index PySem.F.type_list_index mt_index hq.pe (pa_cons h.pe pa_nil hst) hb0 hfew hline hst hpl) fun σ H Q ⟨F, ρ, rp, q⟩ => ⟨F, ρ, rp, hq.mono ρ _ _ (fun x hx v F1 H1 g1 dv => by
    have tt : ∃ p vs, v = .ref p ∧ (if x.1 = true then SqT X.K (Msk e.M H1) p vs else SqL X.K (Msk e.M H1) p vs) ∧ DpAll X.K F1 vs x.2 := dv
    obtain ⟨p, vs, e1, e2, e3⟩ := tt
    subst e1
    obtain ⟨hl, hx⟩ := hx
    · rw [hl, if_neg Bool.false_ne_true] at e2
      refine ⟨.inl ⟨rfl, vs, SqLmono msk_sub e2⟩, F1, ρ, rp.step g1, h.mono ρ _ _ (fun d hd w F2 H2 g2 dw => ?_) hx⟩
      obtain ⟨h2, h3, j, z, h4, h5, h6, h7⟩ := hd
      have e3' := dpAllMono g2.fz x.2 e3
      obtain ⟨zv, hz1, hz2⟩ := DpAll.get e3' h4
      have fl := flat_all h3 e3'
      have h3' : ∀ z ∈ x.2, flatD z = true := List.all_eq_true.mp h3
      refine ⟨p, vs, w, j, zv, rfl, rfl, SqLmono (g2.msk.trans msk_sub) e2, flat_of h2 dw, fl, hz1, ?_, fun m z' hm hz' => ?_, ?_⟩
      · rw [eqF_of (h3' z (List.mem_of_getElem? h4)) h2 hz2 dw]
        exact h5
      · obtain ⟨d', q1, q2⟩ := DpAll.back e3' hz'
        rw [eqF_of (h3' d' (List.mem_of_getElem? q1)) h2 q2 dw]
        exact h6 m d' hm q1
      · exact (show Fin (kD X.K e) F H Q (.int (j : Nat)) from h7) _ F2 H2 (g1.trans rp.ok g2) (.int _)) q⟩⟩
end
end PL
set_option Elab.async false
set_option linter.all false
set_option maxRecDepth 100000
set_option maxHeartbeats 4000000
namespace PL
open PySem PySem.Spec PyProof.Rows L2
theorem wipe_in {σ : L2.St} : ∀ (us ws : List Nat), (∀ u ∈ us, u ∈ ws) → wipe (wipe σ us) ws = wipe σ ws
  | [], _, _ => rfl
  | u :: us, ws, h => by
    show wipe ((wipe σ us).set u none) ws = wipe σ ws
    rw [wipe_put (h u (List.mem_cons_self ..)), wipe_in us ws fun z hz => h z (List.mem_cons_of_mem _ hz)]
/-- the new list at Dn holds acc, all else has grown from (F1, H1) -/
structure Acc (K : PySem.W.Frag) (e : Dl) (F1 H1 : Hp) (Dn : Addr) (F H : Hp) (acc : List D) : Prop where
  gr : Gr e F1 H1 F H
  fz : F Dn = none
  at_ : ∃ vs, H Dn = some (.lst vs) ∧ DpAll K F vs acc
section
variable {K : PySem.W.Frag} {e : Ent} {ρ ρ4 : Ev} {σ σ4 : L2.St} {F1 H1 F H F' H' F3 H3 : Hp} {Dn : Addr} {acc : List D}
theorem Acc.step (ok : e.toDl.Ok F1 H1) (hm : ¬ e.M Dn) (a : Acc K e.toDl F1 H1 Dn F H acc) (g : Gr e.toDl F H F' H') : Acc K e.toDl F1 H1 Dn F' H' acc := by
  obtain ⟨vs, h1, h2⟩ := a.at_
  refine ⟨a.gr.trans ok g, ?_, vs, g.st Dn _ h1 hm, dpAllMono g.fz acc h2⟩
  cases z : F' Dn with
  | none => rfl
  | some u =>
    have := g.new Dn u z a.fz
    rw [h1] at this
    cases this
theorem Acc.app (stay : e.toDl.Stay) (hD : H1 Dn = none) (hm : ¬ e.M Dn) (a : Acc K e.toDl F1 H1 Dn F H acc) {v : V} {d : D} (dv : Dp K F v d) (hl : acc.length < sizeLine) :
    ∃ vs, H Dn = some (.lst vs) ∧ vs.length < sizeLine ∧ Acc K e.toDl F1 H1 Dn F (upd H Dn (.lst (vs ++ [v]))) (acc ++ [d]) := by
  obtain ⟨vs, h1, h2⟩ := a.at_
  have ne : ∀ b u, F b = some u → b ≠ Dn := fun b u q z => by rw [z, a.fz] at q; cases q
  refine ⟨vs, h1, by rw [DpAll.len h2]; exact hl, ⟨a.gr.fz, a.gr.new, fun b u q m => by rw [upd_ne (ne_of_none q hD)]; exact a.gr.st b u q m, ⟨fun b u q => by rw [upd_ne (ne b u q)]; exact a.gr.ok.sub b u q, fun b m => ⟨(a.gr.ok.mu b m).1, ?_⟩, stay _ _ a.gr.ok.inv fun b m => by rw [upd_ne (fun z => hm (by rw [← z]; exact m))]⟩⟩, a.fz, vs ++ [v], upd_same, DpAll.app h2 (.cons dv .nil)⟩
  obtain ⟨_, u, q⟩ := a.gr.ok.mu b m
  exact ⟨u, by rw [upd_ne (fun z => hm (by rw [← z]; exact m))]; exact q⟩
/-- the slots of a middle turn, later on -/
theorem rpMid (rp1 : Rp K e ρ F1 σ H1) (rp4 : Rp K e ρ4 F3 σ4 H3) (own : ∀ (j : Nat) (oc : OC), ρ4[j]? = some (some (.own oc)) → ρ[j]? = some (some (.own oc)) ∧ σ4[j]? = σ[j]?) (s : Same F3 F) (g : Gr e.toDl F1 H1 F H) : Rp K e ρ4 F σ4 H where
  len := rp4.len
  ok0 := rp4.ok0
  gr := (rp1.step g).gr
  stay := rp4.stay
  slots := fun j p h => by
    cases p with
    | imm x =>
      obtain ⟨v, h1, h2⟩ := rp4.slots j _ h
      exact ⟨v, h1, dpMono s x h2⟩
    | raw x => exact rp4.slots j _ h
    | std x y =>
      obtain ⟨v, h1, h2⟩ := rp4.slots j _ h
      exact ⟨v, h1, StdOk.mono s h2⟩
    | two _ _ =>
      obtain ⟨v, h1, h2⟩ := rp4.slots j _ h
      exact (show False from h2).elim
    | own oc =>
      obtain ⟨h1, h2⟩ := own j oc h
      obtain ⟨v, h3, h4⟩ := (rp1.step g).slots j _ h1
      exact ⟨v, h2.trans h3, h4⟩
  apart := rp4.apart
theorem own_wipe {j : Nat} {oc : OC} : ∀ {vs : List Nat}, (wipeE ρ vs)[j]? = some (some (.own oc)) → ρ[j]? = some (some (.own oc)) ∧ (wipe σ vs)[j]? = σ[j]?
  | [], h => ⟨h, rfl⟩
  | v :: vs, h => by
    obtain ⟨hv, h⟩ := getNone h
    obtain ⟨h1, h2⟩ := own_wipe h
    exact ⟨h1, by show ((wipe σ vs).set v none)[j]? = _; rw [List.getElem?_set_ne hv]; exact h2⟩
end
/-- the inner walk of a comprehension -/
theorem in_it {J : It} {n : Nat} {G : Hp → Prop} {Y : Nat → Hp → V → Hp → Prop} (w : Walk J n G Y) {H0 : Hp} {Nx : Hp → Prop} {T : (Hp → Prop) → V → Hp → Prop} (Pv : Nat → Hp → Prop) (h0 : Pv 0 H0) (hG : ∀ i H, i ≤ n → Pv i H → G H)
    (hs : ∀ i x H H', i < n → Pv i H → Y i H x H' → T (Pv (i + 1)) x H') (hd : ∀ H, Pv n H → Nx H) :
    ∃ W : Nat → Nat → Hp → Prop, (∃ m, W 0 m H0) ∧ ∀ i m H, W i m H → (J.stop i H ∧ Nx H) ∨ (J.go i H ∧ ∃ N : Hp → Prop, (∀ H', N H' → ∃ m', m' < m ∧ W (i + 1) m' H') ∧ ∀ x H', J.yld i H x H' → T N x H') := by
  refine ⟨fun i m H => m = n - i ∧ i ≤ n ∧ Pv i H, ⟨n, by simp, Nat.zero_le _, h0⟩, ?_⟩
  rintro i m H ⟨rfl, hi, p⟩
  have q := hG i H hi p
  by_cases hlt : i < n
  · exact .inr ⟨w.goes i H hlt q, Pv (i + 1), fun H' p' => ⟨n - (i + 1), by omega, rfl, hlt, p'⟩, fun x H' y => hs i x H H' hlt p (w.yields i H x H' hlt q y)⟩
  · have e : i = n := by omega
    subst e
    exact .inl ⟨w.stops H q, hd H p⟩
abbrev TGd := D → Ev → (Ev → Prop) → Prop
def compT2 (g : TGd) (tt : TX Bool) (it1 : TX (List D)) (g1 : TGd) (tt1 : TX Bool) (te : TX D) (vs1 : List Nat) (ρ : Ev) : List D → List D → (List D → Prop) → Prop
  | [], acc, Q => Q acc
  | d :: r, acc, Q => g d ρ fun ρ' => tt ρ' fun k => if k = true then it1 ρ' fun ys => compT g1 tt1 te (wipeE ρ' vs1) ys acc fun acc' => compT2 g tt it1 g1 tt1 te vs1 ρ r acc' Q else compT2 g tt it1 g1 tt1 te vs1 ρ r acc Q
abbrev MonoG (g : TGd) : Prop := ∀ d ρ (Q Q' : Ev → Prop), (∀ x, Q x → Q' x) → g d ρ Q → g d ρ Q'
theorem compT2_mono {g g1 : TGd} {tt tt1 : TX Bool} {it1 : TX (List D)} {te : TX D} {vs1 : List Nat} (mg : MonoG g) (mt : MonoX tt) (mi : MonoX it1) (mg1 : MonoG g1) (mt1 : MonoX tt1) (me : MonoX te) {ρ : Ev} {Q Q' : List D → Prop} (k : ∀ x, Q x → Q' x) : ∀ (xs acc : List D), compT2 g tt it1 g1 tt1 te vs1 ρ xs acc Q → compT2 g tt it1 g1 tt1 te vs1 ρ xs acc Q'
  | [], acc, q => k _ q
  | d :: r, acc, q => mg d ρ _ _ (fun ρ' q => mt ρ' _ _ (fun b q => by
    cases b with
    | true =>
      rw [if_pos rfl] at q ⊢
      exact mi ρ' _ _ (fun ys q => compT_mono mg1 mt1 me (fun acc' q => compT2_mono mg mt mi mg1 mt1 me k r acc' q) ys acc q) q
    | false =>
      rw [if_neg Bool.false_ne_true] at q ⊢
      exact compT2_mono mg mt mi mg1 mt1 me k r _ q) q) q
def xLc2 (tl : TX (List D)) (g : TGd) (tt : TX Bool) (it1 : TX (List D)) (g1 : TGd) (tt1 : TX Bool) (te : TX D) (vs vs1 : List Nat) : TX OC := fun ρ Q => tl ρ fun xs => compT2 g tt it1 g1 tt1 te vs1 (wipeE ρ vs) xs [] fun ys => Q (.lst ys)
section
variable {e : Ent} {is is1 : List Nat}
theorem lc2_read {K : PySem.W.Frag} {own : List (Str × Nat)} {vs1 : List Nat} {tl it1 : TX (List D)} {g g1 : TGd} {tt tt1 : TX Bool} {te : TX D} (mi : MonoX tl) (mg : MonoG g) (mt : MonoX tt) (mi1 : MonoX it1) (mg1 : MonoG g1) (mt1 : MonoX tt1) (me : MonoX te) (hv : ∀ i ∈ is, i ∈ own.map (·.2)) (hv1 : ∀ i ∈ is1, i ∈ vs1) {σ : L2.St} {H : Hp} {Q : VK}
    (h : lift K e (kN K e) (xLc2 tl g tt it1 g1 tt1 te (own.map (·.2)) vs1) σ H Q) : tLc2 (liftI K e false tl) (liftG K e is g) (liftT K e tt) (liftI K e true it1) (liftG K e is1 g1) (liftT K e tt1) (lift K e (kD K e) te) (own.map (·.2)) vs1 σ H Q := by
  obtain ⟨F, ρ, rp, q⟩ := h
  refine ⟨F, ρ, rp, mi ρ _ _ (fun xs hxs J F1 H1 gg1 ⟨G, Y, w, hG, hY⟩ => ?_) q⟩
  intro Dn hD
  have rp1 := rp.step gg1
  have hm : ¬ e.M Dn := gg1.ok.fM hD
  have end_ : ∀ H2, (∃ F2 acc, Acc K e.toDl F1 H1 Dn F2 H2 acc ∧ compT2 g tt it1 g1 tt1 te vs1 (wipeE ρ (own.map (·.2))) [] acc (fun ys => Fin (kN K e) F H Q (.lst ys))) → Q (.ref Dn) H2 := fun H2 ⟨F2, acc, a, q2⟩ => by
    have q2 : Fin (kN K e) F H Q (.lst acc) := q2
    obtain ⟨vs, h1, h2⟩ := a.at_
    refine q2 (.ref Dn) F2 H2 (gg1.trans rp.ok a.gr) ⟨Dn, rfl, ⟨vs, h1, h2⟩, a.fz, ?_, hm⟩
    cases z : H Dn with
    | none => rfl
    | some u =>
      have := gg1.st Dn u z hm
      rw [hD] at this
      cases this
  refine in_it (T := fun N x H' => liftG K e is g x (wipe σ (own.map (·.2))) H' fun σ2 H2 => wipe σ2 (own.map (·.2)) = wipe σ (own.map (·.2)) ∧ _) w (fun i H2 => ∃ F2 acc, Acc K e.toDl F1 H1 Dn F2 H2 acc ∧ compT2 g tt it1 g1 tt1 te vs1 (wipeE ρ (own.map (·.2))) (xs.drop i) acc (fun ys => Fin (kN K e) F H Q (.lst ys))) ?_ ?_ ?_ ?_
  · exact ⟨F1, [], ⟨Gr.newO gg1.ok rp1.stay hD, gg1.ok.sub.free hD, [], upd_same, .nil⟩, by rw [List.drop_zero]; exact hxs⟩
  · intro i H2 _ ⟨F2, acc, a, _⟩
    refine hG H2 ?_
    rw [if_neg Bool.false_ne_true]
    exact a.gr.msk
  · intro i x H2 H3 hi' ⟨F2, acc, a, q2⟩ y
    obtain ⟨d, hd⟩ : ∃ d, xs[i]? = some d := ⟨xs[i], by simp [hi']⟩
    obtain ⟨F3, g3, dv⟩ := hY i H2 x H3 d F2 hd a.gr.fz a.gr.ok rp1.stay y
    have e1 : xs.drop i = d :: xs.drop (i + 1) := by
      rw [List.drop_eq_getElem_cons hi']
      congr 1
      exact (List.getElem?_eq_some_iff.mp hd).2
    rw [e1, compT2] at q2
    have a3 := a.step rp1.ok hm g3
    have rp3 : Rp K e ρ F3 σ H3 := rp1.step a3.gr
    refine ⟨F3, wipeE ρ (own.map (·.2)), d, rp3.wipe _, dv, mg d _ _ _ (fun ρ4 q4 σ4 rp4 o4 => ⟨(o4.w _ hv).trans (wipe_in _ _ fun _ z => z), F3, ρ4, rp4, mt ρ4 _ _ (fun k hk F5 H5 g5 => ?_) q4⟩) q2⟩
    have a5 := a3.step rp1.ok hm g5
    have own4 : ∀ (j : Nat) (oc : OC), ρ4[j]? = some (some (.own oc)) → ρ[j]? = some (some (.own oc)) ∧ σ4[j]? = σ[j]? := fun j oc hj => by
      obtain ⟨h1, h2⟩ := o4.o j oc hj
      obtain ⟨h3, h4⟩ := own_wipe (σ := σ) h1
      exact ⟨h3, h2.trans h4⟩
    cases k with
    | false =>
      rw [if_neg Bool.false_ne_true] at hk
      exact iteF ⟨F5, acc, a5, hk⟩
    | true =>
      rw [if_pos rfl] at hk
      refine iteT ⟨F5, ρ4, rp4.step g5, mi1 ρ4 _ _ (fun ys hys J1 F6 H6 g6 ⟨G1, Y1, w1, hG1, hY1⟩ => ?_) hk⟩
      have a6 := a5.step rp1.ok hm g6
      refine in_it (T := fun N x H' => liftG K e is1 g1 x (wipe σ4 vs1) H' fun σ3 H5 => wipe σ3 vs1 = wipe σ4 vs1 ∧ _) w1 (fun j H7 => ∃ F7 acc7, Same F6 F7 ∧ Acc K e.toDl F1 H1 Dn F7 H7 acc7 ∧ compT g1 tt1 te (wipeE ρ4 vs1) (ys.drop j) acc7 (fun acc' => compT2 g tt it1 g1 tt1 te vs1 (wipeE ρ (own.map (·.2))) (xs.drop (i + 1)) acc' (fun ys => Fin (kN K e) F H Q (.lst ys)))) ?_ ?_ ?_ ?_
      · exact ⟨F6, acc, Same.refl _, a6, by rw [List.drop_zero]; exact hys⟩
      · intro j H7 _ ⟨F7, acc7, s7, a7, _⟩
        exact hG1 H7 (by rw [if_pos rfl]; exact s7.trans a7.gr.ok.sub)
      · intro j y' H7 H8 hj ⟨F7, acc7, s7, a7, q7⟩ yy
        obtain ⟨d', hd'⟩ : ∃ d', ys[j]? = some d' := ⟨ys[j], by simp [hj]⟩
        obtain ⟨F8, g8, dv8⟩ := hY1 j H7 y' H8 d' F7 hd' s7 a7.gr.ok rp1.stay yy
        have e2 : ys.drop j = d' :: ys.drop (j + 1) := by
          rw [List.drop_eq_getElem_cons hj]
          congr 1
          exact (List.getElem?_eq_some_iff.mp hd').2
        rw [e2, compT] at q7
        have a8 := a7.step rp1.ok hm g8
        have s38 : Same F3 F8 := ((g5.fz.trans g6.fz).trans s7).trans g8.fz
        have rp8 : Rp K e ρ4 F8 σ4 H8 := rpMid rp1 rp4 own4 s38 a8.gr
        refine ⟨F8, wipeE ρ4 vs1, d', rp8.wipe _, dv8, mg1 d' _ _ _ (fun ρ9 q9 σ9 rp9 o9 => ⟨(o9.w _ hv1).trans (wipe_in _ _ fun _ z => z), F8, ρ9, rp9, mt1 ρ9 _ _ (fun k hk F9 H9 g9 => ?_) q9⟩) q7⟩
        have a9 := a8.step rp1.ok hm g9
        have s69 : Same F6 F9 := (s7.trans g8.fz).trans g9.fz
        cases k with
        | false =>
          rw [if_neg Bool.false_ne_true] at hk
          exact iteF ⟨F9, acc7, s69, a9, hk⟩
        | true =>
          rw [if_pos rfl] at hk
          refine iteT ⟨F9, ρ9, rp9.step g9, me ρ9 _ _ (fun z hz v F10 H10 g10 dz => ?_) hk⟩
          have a10 := a9.step rp1.ok hm g10
          obtain ⟨vs, k1, k2, k3⟩ := a10.app rp1.stay hD hm dz hz.1
          exact ⟨vs, k1, k2, F10, acc7 ++ [z], s69.trans g10.fz, k3, hz.2⟩
      · intro H7 ⟨F7, acc7, s7, a7, q7⟩
        rw [List.drop_length] at q7
        exact ⟨F7, acc7, a7, q7⟩
  · intro H2 ⟨F2, acc, a, q2⟩
    rw [List.drop_length] at q2
    exact end_ H2 ⟨F2, acc, a, q2⟩
end
section
variable {X : Cx} {e : Ent} {pos : Pos} {i : Nat} {st : Stmt} {t : TSt}
/-- a statement that walks a dict of one's own: locked meanwhile -/
def zLock (i : Nat) (t : TSt) : TSt := fun P ρ => ownDic i ρ fun kvs => ∀ d, t { P with nx := fun ρ' => ρ'[i]? = some (some (.std d kvs)) ∧ P.nx ((ρ'.map (unS d)).set i (some (.own (.dic kvs)))), rt := fun _ => False, bk := fun _ => False, ct := fun _ => False } (ρ.set i (some (.std d kvs)))
theorem z_lock (h : PSx X e st t) : PSx X e st (zLock i t) :=
  ⟨impS (ps_lock h.ps) fun Dd σ H ⟨F, ρ, P, rp, q, lk⟩ => by
    obtain ⟨kvs, hx, hq⟩ := ownDic_of q
    obtain ⟨d, ks, q1, h1, h2, h3, h4, hr⟩ := rp.lock hx
    have h00 : e.F0 d = none := rp.ok0.sub.free h4
    refine ⟨d, .dK ks, h1, trivial, fun od => ⟨_, _, { P with nx := fun ρ' => ρ'[i]? = some (some (.std d kvs)) ∧ P.nx ((ρ'.map (unS d)).set i (some (.own (.dic kvs)))), rt := fun _ => False, bk := fun _ => False, ct := fun _ => False }, hr od, hq d, ?_⟩⟩
    refine ⟨fun ρ' σ' F' H' s rp' ⟨z1, z2⟩ => ?_, fun _ _ _ _ _ z => z.elim, fun _ _ _ _ _ _ z => z.elim, fun _ _ _ _ _ _ z => z.elim⟩
    have hF : F' d = some (.frz od (.dK ks)) := s _ _ upd_same
    refine ⟨rp'.sub _ _ hF, lk.nx _ _ (drop F' d) _ (fun b o hb => ?_) (rp'.unlock hF z1 h4 h00 h3) z2⟩
    have hne : b ≠ d := fun z => by rw [z, h2] at hb; cases hb
    rw [drop_ne hne]
    exact s b o (by rw [upd_ne hne]; exact hb)⟩
variable {is is1 : List Nat} {tl it1 : TX (List D)} {g g1 : TGd} {tt tt1 : TX Bool} {te : TX D} {elt tg iter tg1 iter1 : Expr} {ifs ifs1 : List Expr} {scope : Scope} {own : List (Str × Nat)} {vs1 : List Nat} {spos py : Pos} {y : Str}
theorem z_setLc2D (hc : X.calm = true) (hN : X.N.Nodup) (hy : X.N[i]? = some y) (hyl : X.env.scope.names.lookup y = some .local)
    (hsw : swapsWith (.ListComp elt [⟨tg, iter, ifs, 0⟩, ⟨tg1, iter1, ifs1, 0⟩] scope pos) (some (.Name y py)) spos.line X.env = pure true) (hi : PIx X e false tg iter tl) (ok : BlkOk X.N X.env.scope scope own) (hvs : ∀ i ∈ vs1, i ∈ own.map (·.2))
    (hg : ∀ (s : Shared) (H : Hp) (C : Addr) (cl : List (Str × Addr)) (fp : List Addr), PGx (X.blk s H scope (compEnvC scope cl C X.env) fp) e is tg g) (ht : ∀ (s : Shared) (H : Hp) (C : Addr) (cl : List (Str × Addr)) (fp : List Addr), PTx (X.blk s H scope (compEnvC scope cl C X.env) fp) e ifs tt)
    (hi1 : ∀ (s : Shared) (H : Hp) (C : Addr) (cl : List (Str × Addr)) (fp : List Addr), PIx (X.blk s H scope (compEnvC scope cl C X.env) fp) e true tg1 iter1 it1)
    (hg1 : ∀ (s : Shared) (H : Hp) (C : Addr) (cl : List (Str × Addr)) (fp : List Addr), PGx (X.blk s H scope (compEnvC scope cl C X.env) fp) e is1 tg1 g1) (ht1 : ∀ (s : Shared) (H : Hp) (C : Addr) (cl : List (Str × Addr)) (fp : List Addr), PTx (X.blk s H scope (compEnvC scope cl C X.env) fp) e ifs1 tt1)
    (he : ∀ (s : Shared) (H : Hp) (C : Addr) (cl : List (Str × Addr)) (fp : List Addr), PD (X.blk s H scope (compEnvC scope cl C X.env) fp) e elt te) (hv : ∀ i ∈ is, i ∈ own.map (·.2)) (hv1 : ∀ i ∈ is1, i ∈ vs1) (hs : ∀ x, foldedSetIterable iter X.env x = pure x := by intro _; rfl) (hs1 : ∀ env x, foldedSetIterable iter1 env x = pure x := by intro _ _; rfl) :
    PSx X e (.Assign [.Name y py] (.ListComp elt [⟨tg, iter, ifs, 0⟩, ⟨tg1, iter1, ifs1, 0⟩] scope pos) spos) (zSet .imm i (xND (xLc2 tl g tt it1 g1 tt1 te (own.map (·.2)) vs1))) := by
  have mg := (hg X.s_0 (fun _ => none) 0 [] []).mono
  have mt := (ht X.s_0 (fun _ => none) 0 [] []).mono
  have mi1 := (hi1 X.s_0 (fun _ => none) 0 [] []).mono
  have mg1 := (hg1 X.s_0 (fun _ => none) 0 [] []).mono
  have mt1 := (ht1 X.s_0 (fun _ => none) 0 [] []).mono
  have me := (he X.s_0 (fun _ => none) 0 [] []).mono
  refine ⟨impS (ps_setLc2 (g := liftG X.K e is g) (tt := liftT X.K e tt) (wi1 := liftI X.K e true it1) (g1 := liftG X.K e is1 g1) (tt1 := liftT X.K e tt1) (te := lift X.K e (kD X.K e) te) hc hN hy hyl hsw hi.pi ok hvs (fun s H C cl fp => (hg s H C cl fp).pg) (fun s H C cl fp => (ht s H C cl fp).pts) (fun s H C cl fp => (hi1 s H C cl fp).pi) (fun s H C cl fp => (hg1 s H C cl fp).pg) (fun s H C cl fp => (ht1 s H C cl fp).pts) (fun s H C cl fp => (he s H C cl fp).pe) hs hs1) fun Dd σ H ⟨F, ρ, P, rp, q, lk⟩ => ?_⟩
  refine lc2_read hi.mono mg mt mi1 mg1 mt1 me hv hv1 ⟨F, ρ, rp, hi.mono ρ _ _ (fun xs hxs => compT2_mono mg mt mi1 mg1 mt1 me (fun ys hys => ?_) xs [] hxs) q⟩
  intro v F' H' g' dv
  obtain ⟨p, e1, ⟨vs, e2, e3⟩, e4, e5, e6⟩ := dv
  subst e1
  have gf := Gr.freeze rp.ok g' e2 e5 e4 e6
  exact lk.nx _ _ _ H' gf.fz (kvD.set i rp gf (.lst (SqL.of upd_same) (dpAllMono (sameNew e4) ys e3))) hys
theorem pn_lc2 (hc : X.calm = true) (hN : X.N.Nodup) (hi : PIx X e false tg iter tl) (ok : BlkOk X.N X.env.scope scope own) (hvs : ∀ i ∈ vs1, i ∈ own.map (·.2))
    (hg : ∀ (s : Shared) (H : Hp) (C : Addr) (cl : List (Str × Addr)) (fp : List Addr), PGx (X.blk s H scope (compEnvC scope cl C X.env) fp) e is tg g) (ht : ∀ (s : Shared) (H : Hp) (C : Addr) (cl : List (Str × Addr)) (fp : List Addr), PTx (X.blk s H scope (compEnvC scope cl C X.env) fp) e ifs tt)
    (hi1 : ∀ (s : Shared) (H : Hp) (C : Addr) (cl : List (Str × Addr)) (fp : List Addr), PIx (X.blk s H scope (compEnvC scope cl C X.env) fp) e true tg1 iter1 it1)
    (hg1 : ∀ (s : Shared) (H : Hp) (C : Addr) (cl : List (Str × Addr)) (fp : List Addr), PGx (X.blk s H scope (compEnvC scope cl C X.env) fp) e is1 tg1 g1) (ht1 : ∀ (s : Shared) (H : Hp) (C : Addr) (cl : List (Str × Addr)) (fp : List Addr), PTx (X.blk s H scope (compEnvC scope cl C X.env) fp) e ifs1 tt1)
    (he : ∀ (s : Shared) (H : Hp) (C : Addr) (cl : List (Str × Addr)) (fp : List Addr), PD (X.blk s H scope (compEnvC scope cl C X.env) fp) e elt te) (hv : ∀ i ∈ is, i ∈ own.map (·.2)) (hv1 : ∀ i ∈ is1, i ∈ vs1) (hs : ∀ x, foldedSetIterable iter X.env x = pure x := by intro _; rfl) (hs1 : ∀ env x, foldedSetIterable iter1 env x = pure x := by intro _ _; rfl) :
    PN X e (.ListComp elt [⟨tg, iter, ifs, 0⟩, ⟨tg1, iter1, ifs1, 0⟩] scope pos) (xLc2 tl g tt it1 g1 tt1 te (own.map (·.2)) vs1) := by
  have mg := (hg X.s_0 (fun _ => none) 0 [] []).mono
  have mt := (ht X.s_0 (fun _ => none) 0 [] []).mono
  have mi1 := (hi1 X.s_0 (fun _ => none) 0 [] []).mono
  have mg1 := (hg1 X.s_0 (fun _ => none) 0 [] []).mono
  have mt1 := (ht1 X.s_0 (fun _ => none) 0 [] []).mono
  have me := (he X.s_0 (fun _ => none) 0 [] []).mono
  exact ⟨fun ρ Q Q' k q => hi.mono ρ _ _ (fun xs hxs => compT2_mono mg mt mi1 mg1 mt1 me (fun ys => k _) xs [] hxs) q, imp (pe_lc2 (g := liftG X.K e is g) (tt := liftT X.K e tt) (wi1 := liftI X.K e true it1) (g1 := liftG X.K e is1 g1) (tt1 := liftT X.K e tt1) (te := lift X.K e (kD X.K e) te) hc hN hi.pi ok hvs (fun s H C cl fp => (hg s H C cl fp).pg) (fun s H C cl fp => (ht s H C cl fp).pts) (fun s H C cl fp => (hi1 s H C cl fp).pi) (fun s H C cl fp => (hg1 s H C cl fp).pg) (fun s H C cl fp => (ht1 s H C cl fp).pts) (fun s H C cl fp => (he s H C cl fp).pe) hs hs1) fun σ H Q h => lc2_read hi.mono mg mt mi1 mg1 mt1 me hv hv1 h⟩
end
/-! ### slices of lists and tuples alike -/
section
variable {X : Cx} {e : Ent} {a : Expr} {p2 pos : Pos} {tq : TX (Bool × List D)} {tl tu : TX (Option Int)} {lo hi : Option Expr}
def rdSlQ (x : Bool × List D) (lo hi : Option Int) (Q : Bool × List D → Prop) : Prop := Q (x.1, cutD x.2 lo hi)
theorem pq_sl (h : PQ X e a tq) (hl : POd X e lo tl) (hu : POd X e hi tu) : PQ X e (.Subscript a (.Slice lo hi none p2) pos) (xSl rdSlQ tq tl tu) :=
  px_sl (SlR.or sl_list sl_tupA) (fun x l u Q Q' k q => k _ q) h hl hu fun ρ F σ H0 H v x l u Q rp dv q => by
    obtain ⟨b, xs⟩ := x
    cases b with
    | false =>
      obtain ⟨p, vs, rfl, e2, e3⟩ := SeqOk.list dv
      refine .inl ⟨p, vs, rfl, e2, fun n hn => ?_⟩
      obtain ⟨g, p', ep, ⟨ws, e4, e5⟩, e6, e7, e8⟩ := nOk_new rp hn (cut_dp (lo := l) (hi := u) e3)
      exact q _ _ _ g ⟨p', ws, ep, by rw [if_neg Bool.false_ne_true]; exact SqL.of (msk_some.mpr ⟨e8, e4⟩), e5⟩
    | true =>
      have dv0 := dv
      obtain ⟨p, vs, rfl, e2, e3⟩ := SeqOk.tup dv
      refine .inr ⟨p, vs, rfl, e2, fun z => ?_, fun _ n hn => ?_⟩
      · rw [DpAll.len e3] at z
        refine q _ F H (.refl rp.ok) ?_
        show SeqOk X.K e.M F H (.ref p) true (cutD xs l u)
        rw [cut_whole z]
        exact dv0
      · obtain ⟨g, k⟩ := dOk_new rp hn (cut_dp (lo := l) (hi := u) e3)
        cases k with
        | tup k1 k2 => exact q _ _ _ g ⟨n, _, rfl, by rw [if_pos rfl]; exact SqTmono g.ok.msk k1, k2⟩
end
/-! ### readings by their invariants -/
theorem ifD {c A B : Prop} [Decidable c] (h1 : c → A) (h2 : ¬ c → B) : if decide c = true then A else B := by
  by_cases z : c
  · rw [if_pos (decide_eq_true z)]
    exact h1 z
  · rw [if_neg (by rw [decide_eq_false z]; decide)]
    exact h2 z
theorem ifN {c A B : Prop} [Decidable c] (h1 : ¬ c → A) (h2 : c → B) : if (!decide c) = true then A else B := by
  by_cases z : c
  · rw [if_neg (by rw [decide_eq_true z]; decide)]
    exact h2 z
  · rw [if_pos (by rw [decide_eq_false z]; rfl)]
    exact h1 z
theorem ifB {b : Bool} {A B : Prop} (h1 : b = true → A) (h2 : b = false → B) : if b = true then A else B := by
  cases b with
  | true => rw [if_pos rfl]; exact h1 rfl
  | false => rw [if_neg Bool.false_ne_true]; exact h2 rfl
theorem ixTo {b : Bool} {xs : List D} {i : Int} {d : D} {Q : D → Prop} (h : atI xs i = some d) (q : Q d) : rdIx (b, xs) (.int i) Q := someTo h q
theorem line3 {n : Nat} (h : n ≤ 16777216) : n ≤ sizeLine := by rw [sizeLine_eq]; exact h
theorem lineL {n : Nat} (h : n < 16777216) : n < sizeLine := by rw [sizeLine_eq]; exact h
theorem forT_by {g : TGd} {tb : TSt} {P : Es} (I : Nat → Ev → Prop) (xs : List D) (ρ : Ev) (h0 : I 0 ρ) (hs : ∀ i d ρ (R : Ev → Prop), xs[i]? = some d → I i ρ → (∀ ρ', I (i + 1) ρ' → R ρ') → g d ρ fun ρ' => tb { P with nx := R, ct := R, bk := P.nx } ρ') (hd : ∀ ρ, I xs.length ρ → P.nx ρ) : forT g tb P xs ρ := by
  have key : ∀ (ys : List D) (i : Nat) (ρ : Ev), xs.drop i = ys → i + ys.length = xs.length → I i ρ → forT g tb P ys ρ := fun ys => by
    induction ys with
    | nil =>
      intro i ρ _ hl h
      have e : i = xs.length := by simpa using hl
      subst e
      exact hd ρ h
    | cons y ys ih =>
      intro i ρ he hl h
      have hy : xs[i]? = some y := by
        have := congrArg (fun l => l[0]?) he
        simpa using this
      exact hs i y ρ _ hy h fun ρ' h' => ih (i + 1) ρ' (by rw [← List.drop_drop, he] <;> rfl) (by simp at hl ⊢; omega) h'
  exact key xs 0 ρ (by simp) (by simp) h0
theorem intsD_len {lo : Int} {n : Nat} : (intsD lo n).length = n := by
  unfold intsD
  rw [List.length_map, List.length_range]
theorem intsD_get {lo : Int} {n i : Nat} {d : D} (h : (intsD lo n)[i]? = some d) : i < n ∧ d = .int (lo + (i : Nat)) := by
  have hi : i < n := by
    have := (List.getElem?_eq_some_iff.mp h).1
    rwa [intsD_len] at this
  unfold intsD at h
  rw [List.getElem?_map, List.getElem?_range hi] at h
  cases h
  exact ⟨hi, rfl⟩
/-- a comprehension's turns by a relation: some y is put in, none is left out -/
theorem compT_rel {g : TGd} {tt : TX Bool} {te : TX D} {ρ : Ev} (Rel : Nat → D → Option D → Prop) (xs : List D) (Q : List D → Prop)
    (h : ∀ i d (A : D → Prop) (B : Prop), xs[i]? = some d → (∀ y, Rel i d (some y) → A y) → (Rel i d none → B) → g d ρ fun ρ' => tt ρ' fun k => if k = true then te ρ' A else B)
    (hl : xs.length ≤ sizeLine) (hQ : ∀ os : List (Option D), os.length = xs.length → (∀ i d o, xs[i]? = some d → os[i]? = some o → Rel i d o) → Q (os.filterMap id)) : compT g tt te ρ xs [] Q := by
  have key : ∀ (ys : List D) (i : Nat) (os : List (Option D)), xs.drop i = ys → i + ys.length = xs.length → os.length = i → (∀ j d o, xs[j]? = some d → os[j]? = some o → Rel j d o) → compT g tt te ρ ys (os.filterMap id) Q := fun ys => by
    induction ys with
    | nil =>
      intro i os _ hl ho hr
      have e : i = xs.length := by simpa using hl
      exact hQ os (ho.trans e) hr
    | cons y ys ih =>
      intro i os he hl2 ho hr
      have hy : xs[i]? = some y := by
        have := congrArg (fun l => l[0]?) he
        simpa using this
      have step : ∀ o, Rel i y o → compT g tt te ρ ys ((os ++ [o]).filterMap id) Q := fun o hr' => ih (i + 1) (os ++ [o]) (by rw [← List.drop_drop, he] <;> rfl) (by simp at hl2 ⊢; omega) (by simp [ho]) fun j d o' h1 h2 => by
        by_cases hj : j < os.length
        · rw [List.getElem?_append_left hj] at h2
          exact hr j d o' h1 h2
        · have hj' : j = i := by
            have := (List.getElem?_eq_some_iff.mp h2).1
            simp at this
            omega
          subst hj'
          rw [List.getElem?_append_right (by omega)] at h2
          rw [hy] at h1
          cases h1
          have : (j - os.length) = 0 := by omega
          rw [this] at h2
          cases h2
          exact hr'
      refine h i y _ _ hy (fun z hz => ⟨?_, ?_⟩) fun hz => ?_
      · have := List.length_filterMap_le id os
        simp at hl2
        omega
      · have := step (some z) hz
        rw [List.filterMap_append] at this
        exact this
      · have := step none hz
        rw [List.filterMap_append] at this
        simpa using this
  have := key xs 0 [] (by simp) (by simp) rfl (fun j d o _ h2 => by simp at h2)
  simpa using this
/-- .. by a function -/
theorem compT_map {g : TGd} {tt : TX Bool} {te : TX D} {ρ : Ev} (f : D → D) (xs : List D) (Q : List D → Prop)
    (h : ∀ (i : Nat) (d : D) (A : D → Prop) (B : Prop), xs[i]? = some d → A (f d) → g d ρ fun ρ' => tt ρ' fun k => if k = true then te ρ' A else B) (hl : xs.length ≤ sizeLine) (hQ : Q (xs.map f)) : compT g tt te ρ xs [] Q := by
  refine compT_rel (fun _ d o => o = some (f d)) xs Q (fun i d A B hd hA _ => h i d A B hd (hA _ rfl)) hl fun os ho hr => ?_
  have : os = xs.map (fun d => some (f d)) := by
    apply List.ext_getElem?
    intro i
    by_cases hi : i < xs.length
    · have h1 : xs[i]? = some xs[i] := by simp [hi]
      have h2 : os[i]? = some (os[i]'(by omega)) := by simp [ho, hi]
      rw [h2, hr i _ _ h1 h2, List.getElem?_map, h1] <;> rfl
    · rw [List.getElem?_eq_none (by omega), List.getElem?_eq_none (by simp; omega)]
  rw [this, List.filterMap_map]
  have e : (xs.filterMap (id ∘ fun d => some (f d))) = xs.map f := by
    rw [← List.filterMap_eq_map]
    rfl
  rw [e]
  exact hQ
/-- .. by a function and a test -/
theorem compT_filter {g : TGd} {tt : TX Bool} {te : TX D} {ρ : Ev} (p : D → Bool) (f : D → D) (xs : List D) (Q : List D → Prop)
    (h : ∀ (i : Nat) (d : D) (A : D → Prop) (B : Prop), xs[i]? = some d → (p d = true → A (f d)) → (p d = false → B) → g d ρ fun ρ' => tt ρ' fun k => if k = true then te ρ' A else B) (hl : xs.length ≤ sizeLine) (hQ : Q ((xs.filter p).map f)) : compT g tt te ρ xs [] Q := by
  refine compT_rel (fun _ d o => o = if p d = true then some (f d) else none) xs Q (fun i d A B hd hA hB => h i d A B hd (fun z => hA _ (by rw [if_pos z])) fun z => hB (by rw [if_neg (by rw [z]; decide)])) hl fun os ho hr => ?_
  have : os = xs.map (fun d => if p d = true then some (f d) else none) := by
    apply List.ext_getElem?
    intro i
    by_cases hi : i < xs.length
    · have h1 : xs[i]? = some xs[i] := by simp [hi]
      have h2 : os[i]? = some (os[i]'(by omega)) := by simp [ho, hi]
      rw [h2, hr i _ _ h1 h2, List.getElem?_map, h1] <;> rfl
    · rw [List.getElem?_eq_none (by omega), List.getElem?_eq_none (by simp; omega)]
  rw [this]
  have e : ∀ l : List D, (l.map (fun d => if p d = true then some (f d) else none)).filterMap id = (l.filter p).map f := fun l => by
    induction l with
    | nil => rfl
    | cons x l ih =>
      rw [List.map_cons, List.filterMap_cons, List.filter_cons]
      cases hp : p x with
      | true => simp [ih]
      | false => simp [ih]
  rw [e]
  exact hQ
end PL
set_option Elab.async false
set_option linter.all false
set_option maxRecDepth 100000
set_option maxHeartbeats 4000000
namespace PL
open PySem PySem.Spec PyProof.Rows L2
/-- the drawing state of two ints at st is among what may turn -/
structure StIn (e : Dl) (st : Addr) : Prop where
  m : e.M st
  at_ : ∀ H, e.J H → ∃ k v : Int, 0 ≤ k ∧ 0 ≤ v ∧ H st = some (.lst [.int k, .int v])
  put : ∀ (H : Hp) (k v : Int), e.J H → 0 ≤ k → 0 ≤ v → e.J (upd H st (.lst [.int k, .int v]))
theorem Rp.turn {K : PySem.W.Frag} {e : Ent} {ρ : Ev} {σ : L2.St} {F H : Hp} {a : Addr} {o : HO} (r : Rp K e ρ F σ H) (m : e.M a) (j : e.J (upd H a o)) : Rp K e ρ F σ (upd H a o) where
  len := r.len
  ok0 := r.ok0
  gr := ⟨r.gr.fz, r.gr.new, fun b u q hm => by
    rw [upd_ne (fun z => hm (by rw [z]; exact m))]
    exact r.gr.st b u q hm, ⟨fun b u q => by
    rw [upd_ne (fun z => by rw [z, (r.ok.mu a m).1] at q; cases q)]
    exact r.sub b u q, fun b hb => ⟨(r.ok.mu b hb).1, by
    by_cases z : b = a
    · exact ⟨o, by rw [z, upd_same]⟩
    · rw [upd_ne z]
      exact (r.ok.mu b hb).2⟩, j⟩⟩
  stay := r.stay
  slots := fun i p h => by
    obtain ⟨v, h1, h2⟩ := r.slots i p h
    refine ⟨v, h1, ?_⟩
    cases p with
    | imm x => exact h2
    | raw x => exact h2
    | std x y => exact h2
    | two _ _ => exact h2.elim
    | own oc =>
      obtain ⟨b, f1, f2, f3, f4, f5⟩ := h2
      exact ⟨b, f1, f2.mono (Same.refl _) fun x hx => by rw [upd_ne (fun z => f5 (by rw [z]; exact m))]; exact hx, f3, f4, f5⟩
  apart := r.apart
section
variable {X : Cx} {e : Ent} {a c : Expr} {pos p2 : Pos} {ta : TX D} {i : Nat}
/-- state[j] -/
def xSt (e : Dl) (i : Nat) : TX D := fun ρ Q => ∃ st, ρ[i]? = some (some (.raw (.ref st))) ∧ StIn e st ∧ ∀ v : Int, 0 ≤ v → Q (.int v)
theorem pd_st {j : Int} {kk} {pj : Pos} (ho : PE X a (tVar i)) (hj : j = 0 ∨ j = 1) : PD X e (.Subscript a (.Constant (.int j) kk pj) pos) (xSt e.toDl i) :=
  ⟨fun ρ Q Q' k ⟨st, h1, h2, h3⟩ => ⟨st, h1, h2, fun v hv => k _ (h3 v hv)⟩, imp (pe_ix ix_list ho pe_int (fun _ _ => rfl)) fun σ H Q ⟨F, ρ, rp, st, h1, h2, h3⟩ => by
    obtain ⟨v, g1, g2⟩ := rp.slots i _ h1
    cases g2
    obtain ⟨k, u, k0, u0, hst⟩ := h2.at_ H rp.ok.inv
    rcases hj with rfl | rfl
    · exact ⟨.ref st, g1, st, _, 0, .int k, rfl, rfl, SqL.of hst, atI_nat (j := 0) rfl, h3 k k0 _ F H (.refl rp.ok) (.int _)⟩
    · exact ⟨.ref st, g1, st, _, 1, .int u, rfl, rfl, SqL.of hst, atI_nat (j := 1) rfl, h3 u u0 _ F H (.refl rp.ok) (.int _)⟩⟩
/-- state[j] = e -/
def zSt (e : Dl) (i : Nat) (ta : TX D) : TSt := fun P ρ => ta ρ fun d => match d with | .int v => 0 ≤ v ∧ (∃ st, ρ[i]? = some (some (.raw (.ref st))) ∧ StIn e st) ∧ P.nx ρ | _ => False
theorem z_st {j : Int} {kk} {pj : Pos} (h : PD X e c ta) (ho : PE X a (tVar i)) (hj : j = 0 ∨ j = 1)
    (ha : ∀ v, assign (.Subscript a (.Constant (.int j) kk pj) p2) X.env v = (do
      let ov ← holding [v] (eval a X.env)
      let iv ← holding [v, ov] (eval (.Constant (.int j) kk pj) X.env)
      standAt p2
      holding [v, ov, iv] (setItem ov iv v)
      release [v, ov, iv] []) := by intro _; rfl)
    (hs : swapsWithSole [.Subscript a (.Constant (.int j) kk pj) p2] c pos.line X.env = pure false := by rfl) (hw : swappedStores [.Subscript a (.Constant (.int j) kk pj) p2] c X.env = pure none := by rfl)
    (h1 : (assignEach [.Subscript a (.Constant (.int j) kk pj) p2] X.env).map (·.2) = [assign (.Subscript a (.Constant (.int j) kk pj) p2) X.env] := by rfl) : PSx X e (.Assign [.Subscript a (.Constant (.int j) kk pj) p2] c pos) (zSt e.toDl i ta) :=
  ⟨impS (ps_asg h.pe (pg_sub ho pe_int set_list ha) hs hw h1) fun Dd σ H ⟨F, ρ, P, rp, q, lk⟩ => ⟨F, ρ, rp, h.mono ρ _ _ (fun d hd v F1 H1 g1 dv => by
    have rp1 := rp.step g1
    cases d with
    | int n =>
      obtain ⟨n0, ⟨st, h1, h2⟩, hd⟩ := (show 0 ≤ n ∧ (∃ st, ρ[i]? = some (some (.raw (.ref st))) ∧ StIn e.toDl st) ∧ P.nx ρ from hd)
      cases dv
      obtain ⟨v, g2, g3⟩ := rp1.slots i _ h1
      cases g3
      obtain ⟨k, u, k0, u0, hst⟩ := h2.at_ H1 rp1.ok.inv
      rcases hj with rfl | rfl
      · exact ⟨.ref st, g2, st, _, 0, 0, rfl, rfl, hst, rfl, lk.nx _ _ F1 _ g1.fz (rp1.turn h2.m (h2.put H1 n u rp1.ok.inv n0 u0)) hd⟩
      · exact ⟨.ref st, g2, st, _, 1, 1, rfl, rfl, hst, rfl, lk.nx _ _ F1 _ g1.fz (rp1.turn h2.m (h2.put H1 k n rp1.ok.inv k0 n0)) hd⟩
    | _ => exact (show False from hd).elim) q⟩⟩
end
/-- the draws of that state -/
def tfDraw2 : PF := fun dl pvs Q => ∃ (st : Addr) (ns : List Int) (n : Int), pvs = [.raw (.ref st), .imm (.list (ns.map .int)), .imm (.int n)] ∧ StIn dl st ∧ 0 < n ∧ n.natAbs < 2 ^ 60 ∧ ∀ r : Int, 0 ≤ r → r < n → Q (.imm (.int r))
theorem tfDraw2_mono : MonoF tfDraw2 := fun _ _ _ _ h ⟨st, ns, n, e, s, n0, n1, q⟩ => ⟨st, ns, n, e, s, n0, n1, fun r r0 r1 => h _ (q r r0 r1)⟩
def tfRefill : PF := fun _ pvs Q => ∃ (ns : List Int) (k : Int), pvs = [.imm (.list (ns.map .int)), .imm (.int k)] ∧ 0 ≤ k ∧ ∀ r : Int, 0 ≤ r → Q (.imm (.int r))
theorem tfRefill_mono : MonoF tfRefill := fun _ _ _ _ h ⟨ns, k, e, k0, q⟩ => ⟨ns, k, e, k0, fun r r0 => h _ (q r r0)⟩
end PL
set_option Elab.async false
set_option linter.all false
set_option maxRecDepth 100000
set_option maxHeartbeats 4000000
/-! all, any of a generator expression over a sequence; its element reads data and what stands -/
namespace PL
open PySem PySem.Spec PyProof.Rows L2
/-- the table of code objects at P may grow -/
structure TabIn (e : Dl) (P : Addr) : Prop where
  m : e.M P
  at_ : ∀ H, e.J H → GxR.TabG H P
  put : ∀ H H' : Hp, e.J H → GxR.Tabbed P H H' → e.J H'
/-- what is known where the element of a generator expression is worked out -/
structure GAt (X : Cx) (e : Ent) (F H : Hp) (scope : Scope) (x : Str) (s : Shared) (cenv : Env) (A' : Around) (s2 : Shared) (m2 : Str → Option Value) (u : Value) : Prop where
  sc : cenv.scope = scope
  ce : ∀ y c, scope.names.lookup y = some .free → X.env.cells.lookup y = some c → cenv.cells.lookup y = some c
  gl : cenv.globals = X.env.globals
  hd : A'.handled = none
  keep : ∀ b o, H b = none → s.heap.get? b = some o → s2.heap.get? b = some o
  ok : ∃ H2, Gr e.toDl F H F H2 ∧ HOk X.prog X.w H2 s2.heap
  ns : s2.heap.Ns cenv.locals m2
  at_ : m2 x = some u
theorem GAt.next {X : Cx} {e : Ent} {F H : Hp} {scope : Scope} {x : Str} {s s2 s3 : Shared} {cenv : Env} {A' : Around} {m2 : Str → Option Value} {u : Value} (g : GAt X e F H scope x s cenv A' s2 m2 u) (k : Keeps s2 s3) : GAt X e F H scope x s cenv A' s3 m2 u := by
  obtain ⟨h', tk, rfl, kk⟩ := k
  exact ⟨g.sc, g.ce, g.gl, g.hd, fun b o n q => kk b o (g.keep b o n q), (let ⟨H2, g1, g2⟩ := g.ok; ⟨H2, g1, g2.kept kk⟩), g.ns.keeps kk, g.at_⟩
theorem keeps_trans {a b c : Shared} (h : Keeps a b) (k : Keeps b c) : Keeps a c := by
  obtain ⟨h1, t1, rfl, k1⟩ := h
  obtain ⟨h2, t2, rfl, k2⟩ := k
  exact ⟨h2, t2, rfl, fun b o q => k2 b o (k1 b o q)⟩
abbrev TGe := Ev → D → (D → Prop) → Prop
structure PGe (X : Cx) (e : Ent) (scope : Scope) (x : Str) (elt : Expr) (t : TGe) : Prop where
  run : ∀ (pins : List (Addr × Obj)) (ρ : Ev) (F : Hp) (σ : L2.St) (H : Hp) (s : Shared) (cenv : Env) (A' : Around) (E' : Value → Shared → Prop) (s2 : Shared) (m2 : Str → Option Value) (v : V) (u : Value) (d : D) (Q : D → Prop),
    Inv X pins σ H s → Rp X.K e ρ F σ H → GAt X e F H scope x s cenv A' s2 m2 u → RelV v u → Dp X.K F v d → t ρ d Q →
    wpAny (model X.prog X.w) A' (eval elt cenv) (fun y s3 => (∃ w d', RelV w y ∧ Dp X.K F w d' ∧ Q d') ∧ Keeps s2 s3) E' s2
section
variable {X : Cx} {e : Ent} {scope : Scope} {x : Str} {a b : Expr} {pos : Pos} {ta tb : TGe}
/-- the turn's own name -/
theorem ge_x (hk : scope.kind = .function) (hl : scope.names.lookup x = some .local) (hd : (x == ("__debug__" : Str)) = false := by decide) : PGe X e scope x (.Name x pos) (fun _ d Q => Q d) :=
  ⟨fun pins ρ F σ H s cenv A' E' s2 m2 v u d Q I rp g r dp q => wpAny_Name (wpAny_loadName_local (by rw [g.sc]; exact hk) (show cenv.scope.names.lookup x = some .local by rw [g.sc]; exact hl) g.ns g.at_ ⟨⟨v, d, r, dp, q⟩, GxR.keeps_refl _⟩) hd⟩
theorem ge_int {i : Int} {j} : PGe X e scope x (.Constant (.int i) j pos) (fun _ _ Q => Q (.int i)) :=
  ⟨fun pins ρ F σ H s cenv A' E' s2 m2 v u d Q I rp g r dp q => wpAny_Constant_int ⟨⟨.int i, .int i, ⟨_, rfl⟩, .int i, q⟩, GxR.keeps_tok _ _⟩⟩
theorem ge_str {i : Str} {j} : PGe X e scope x (.Constant (.str i) j pos) (fun _ _ Q => Q (.str i)) :=
  ⟨fun pins ρ F σ H s cenv A' E' s2 m2 v u d Q I rp g r dp q => Calls.Constant_str ⟨⟨.str i, .str i, ⟨_, rfl⟩, .str i, q⟩, GxR.keeps_tok _ _⟩⟩
def gCmp (r : D → D → (D → Prop) → Prop) (ta tb : TGe) : TGe := fun ρ d Q => ta ρ d fun y => tb ρ d fun z => r y z Q
theorem ge_lt (hm : behindInMarks .Lt b = false) (ha : PGe X e scope x a ta) (hb : PGe X e scope x b tb) : PGe X e scope x (.Compare a [.Lt] [b] pos) (fun ρ d Q => ta ρ d fun y => tb ρ d fun z => ∃ i j, y = .int i ∧ z = .int j ∧ Q (.bool (decide (i < j)))) :=
  ⟨fun pins ρ F σ H s cenv A' E' s2 m2 v u d Q I rp g r dp q => by
    refine wpAny_Compare1 (hm := hm) (wpAny_mono (ha.run pins ρ F σ H s cenv A' E' s2 m2 v u d _ I rp g r dp q) (fun y s3 h => ?_) fun _ _ z => z)
    obtain ⟨⟨w, d', r1, dp1, q1⟩, k1⟩ := h
    refine wpAny_mono (hb.run pins ρ F σ H s cenv A' E' s3 m2 v u d _ I rp (g.next k1) r dp q1) (fun z s4 h => ?_) fun _ _ z => z
    obtain ⟨⟨w2, d2, r2, dp2, i, j, e1, e2, q2⟩, k2⟩ := h
    subst e1 e2
    cases dp1
    cases dp2
    obtain ⟨t1, rfl⟩ := r1
    obtain ⟨t2, rfl⟩ := r2
    exact wpAny_lt_int ⟨⟨.bl _, _, rfl, .bl _, q2⟩, keeps_trans k1 k2⟩⟩
/-- a in d, d a dict of the def around -/
theorem in_dict {P : Program} {w : World} {K : PySem.W.Frag} {F H : Hp} {s2 : Shared} {A : Around} {E : Value → Shared → Prop} {Q : Value → Shared → Prop} {u : Value} {k : Key} {b : Addr} {ks : List (Key × V)} {kvs : List (Key × D)}
    (ok : HOk P w H s2.heap) (e : Rd H b (.dK ks)) (kv : KvAll K F ks kvs) (r : RelV (kV k) u) (h : Q (.bool (valD kvs k).isSome) { s2 with toks := s2.toks + 1 }) : wpAny (model P w) A (compareOp .In u (.ref b)) Q E s2 := by
  obtain ⟨z, hd, vs, rel, dd⟩ := dk_rd ok e
  refine wpAny_in_of (kV_is r) hd dd.mapOf ?_
  rw [← (rel.val k).isSome_eq, isSome_val k kv]
  exact h
theorem notin_dict {P : Program} {w : World} {K : PySem.W.Frag} {F H : Hp} {s2 : Shared} {A : Around} {E : Value → Shared → Prop} {Q : Value → Shared → Prop} {u : Value} {k : Key} {b : Addr} {ks : List (Key × V)} {kvs : List (Key × D)}
    (ok : HOk P w H s2.heap) (e : Rd H b (.dK ks)) (kv : KvAll K F ks kvs) (r : RelV (kV k) u) (h : Q (.bool (!(valD kvs k).isSome)) { s2 with toks := s2.toks + 1 }) : wpAny (model P w) A (compareOp .NotIn u (.ref b)) Q E s2 := by
  obtain ⟨z, hd, vs, rel, dd⟩ := dk_rd ok e
  refine wpAny_notIn_of (kV_is r) hd dd.mapOf ?_
  rw [← (rel.val k).isSome_eq, isSome_val k kv]
  exact h
/-- a captured slot's worth is loaded -/
theorem ld_free {i : Nat} {y : Str} {p : Pos} {pins : List (Addr × Obj)} {σ : L2.St} {H : Hp} {s s2 : Shared} {cenv : Env} {A' : Around} {m2 : Str → Option Value} {u : Value} {w : V} {Q : Value → Shared → Prop} {E' : Value → Shared → Prop}
    (hN : X.N[i]? = some y) (hv : X.env.scope.names.lookup y = some .cell) (hk : scope.kind = .function) (hf : scope.names.lookup y = some .free) (I : Inv X pins σ H s) {F : Hp} (g : GAt X e F H scope x s cenv A' s2 m2 u) (hw : σ[i]? = some (some w))
    (h : ∀ u', RelV w u' → Q u' s2) (hd : (y == ("__debug__" : Str)) = false := by decide) (hc : (y == ("__classdict__" : Str)) = false := by decide) : wpAny (model X.prog X.w) A' (eval (.Name y p) cenv) Q E' s2 := by
  obtain ⟨m, hn, hl⟩ := I.loc
  obtain ⟨u', ru, lk⟩ := hl i y w hN hw (.inr (.inl hv))
  rcases lk with ⟨z, _⟩ | ⟨_, c, hcl, hcv⟩
  · rw [show X.env.kindOf y = some .cell from hv] at z
    cases z
  · obtain ⟨o, ho, hcd⟩ := hcv
    refine wpAny_Name (wpAny_loadName_free (c := c) (v := u') (by rw [g.sc]; exact hk) (show cenv.scope.names.lookup y = some .free by rw [g.sc]; exact hf) ?_ ⟨o, g.keep _ _ (I.freeC y c hcl) ho, hcd⟩ (h u' ru) hc) hd
    exact g.ce y c hf hcl
theorem ge_inD {i : Nat} {y : Str} {p : Pos} (hN : X.N[i]? = some y) (hv : X.env.scope.names.lookup y = some .cell) (hk : scope.kind = .function) (hf : scope.names.lookup y = some .free) (ha : PGe X e scope x a ta) (hd : (y == ("__debug__" : Str)) = false := by decide) (hc : (y == ("__classdict__" : Str)) = false := by decide) :
    PGe X e scope x (.Compare a [.In] [.Name y p] pos) (fun ρ d Q => ta ρ d fun z => keyOf z fun k => dicV i ρ fun kvs => Q (.bool (valD kvs k).isSome)) :=
  ⟨fun pins ρ F σ H s cenv A' E' s2 m2 v u d Q I rp g r dp q => by
    refine wpAny_Compare1 (wpAny_mono (ha.run pins ρ F σ H s cenv A' E' s2 m2 v u d _ I rp g r dp q) (fun y' s3 h => ?_) fun _ _ z => z)
    obtain ⟨⟨w, d', r1, dp1, q1⟩, k1⟩ := h
    obtain ⟨k, rfl, q1⟩ := keyOf_of dp1 q1
    obtain ⟨kvs, b', ks, q1, h1, h2, h3⟩ := dicV_of rp q1
    refine ld_free hN hv hk hf I (g.next k1) h1 (fun u' ru => ?_) hd hc
    cases ru
    obtain ⟨H2, g2, ok3⟩ := (g.next k1).ok
    exact in_dict ok3 (h3 F H2 g2) h2 r1 ⟨⟨.bl _, _, rfl, .bl _, q1⟩, keeps_trans k1 (GxR.keeps_tok _ _)⟩⟩
theorem ge_ninD {i : Nat} {y : Str} {p : Pos} (hN : X.N[i]? = some y) (hv : X.env.scope.names.lookup y = some .cell) (hk : scope.kind = .function) (hf : scope.names.lookup y = some .free) (ha : PGe X e scope x a ta) (hd : (y == ("__debug__" : Str)) = false := by decide) (hc : (y == ("__classdict__" : Str)) = false := by decide) :
    PGe X e scope x (.Compare a [.NotIn] [.Name y p] pos) (fun ρ d Q => ta ρ d fun z => keyOf z fun k => dicV i ρ fun kvs => Q (.bool (!(valD kvs k).isSome))) :=
  ⟨fun pins ρ F σ H s cenv A' E' s2 m2 v u d Q I rp g r dp q => by
    refine wpAny_Compare1 (wpAny_mono (ha.run pins ρ F σ H s cenv A' E' s2 m2 v u d _ I rp g r dp q) (fun y' s3 h => ?_) fun _ _ z => z)
    obtain ⟨⟨w, d', r1, dp1, q1⟩, k1⟩ := h
    obtain ⟨k, rfl, q1⟩ := keyOf_of dp1 q1
    obtain ⟨kvs, b', ks, q1, h1, h2, h3⟩ := dicV_of rp q1
    refine ld_free hN hv hk hf I (g.next k1) h1 (fun u' ru => ?_) hd hc
    cases ru
    obtain ⟨H2, g2, ok3⟩ := (g.next k1).ok
    exact notin_dict ok3 (h3 F H2 g2) h2 r1 ⟨⟨.bl _, _, rfl, .bl _, q1⟩, keeps_trans k1 (GxR.keeps_tok _ _)⟩⟩
theorem ge_or1 {op} (ha : PGe X e scope x a ta) : PGe X e scope x (.BoolOp op [a] pos) ta := ⟨fun pins ρ F σ H s cenv A' E' s2 m2 v u d Q I rp g r dp q => BoolOp_one (ha.run pins ρ F σ H s cenv A' E' s2 m2 v u d Q I rp g r dp q)⟩
def boolD (d : D) (Q : Bool → Prop) : Prop := ∃ b, d = .bool b ∧ Q b
theorem ge_or {rest : List Expr} (ha : PGe X e scope x a ta) (hb : PGe X e scope x (.BoolOp .Or (b :: rest) pos) tb) : PGe X e scope x (.BoolOp .Or (a :: b :: rest) pos) (fun ρ d Q => ta ρ d fun y => boolD y fun c => if c = true then Q (.bool true) else tb ρ d Q) :=
  ⟨fun pins ρ F σ H s cenv A' E' s2 m2 v u d Q I rp g r dp q => BoolOp_or (wpAny_mono (ha.run pins ρ F σ H s cenv A' E' s2 m2 v u d _ I rp g r dp q) (fun y s3 h => by
    obtain ⟨⟨w, d', r1, dp1, c, e1, q1⟩, k1⟩ := h
    subst e1
    cases dp1
    cases r1
    refine wpAny_truthy_bool ?_
    cases c with
    | true =>
      rw [if_pos rfl] at q1 ⊢
      exact ⟨⟨.bl true, _, rfl, .bl _, q1⟩, k1⟩
    | false =>
      rw [if_neg Bool.false_ne_true] at q1 ⊢
      exact wpAny_mono (hb.run pins ρ F σ H s cenv A' E' s3 m2 v u d _ I rp (g.next k1) r dp q1) (fun z s4 h => ⟨h.1, keeps_trans k1 h.2⟩) fun _ _ z => z) fun _ _ z => z)⟩
theorem ge_and {rest : List Expr} (ha : PGe X e scope x a ta) (hb : PGe X e scope x (.BoolOp .And (b :: rest) pos) tb) : PGe X e scope x (.BoolOp .And (a :: b :: rest) pos) (fun ρ d Q => ta ρ d fun y => boolD y fun c => if c = true then tb ρ d Q else Q (.bool false)) :=
  ⟨fun pins ρ F σ H s cenv A' E' s2 m2 v u d Q I rp g r dp q => BoolOp_and (wpAny_mono (ha.run pins ρ F σ H s cenv A' E' s2 m2 v u d _ I rp g r dp q) (fun y s3 h => by
    obtain ⟨⟨w, d', r1, dp1, c, e1, q1⟩, k1⟩ := h
    subst e1
    cases dp1
    cases r1
    refine wpAny_truthy_bool ?_
    cases c with
    | false =>
      rw [if_neg Bool.false_ne_true] at q1 ⊢
      exact ⟨⟨.bl false, _, rfl, .bl _, q1⟩, k1⟩
    | true =>
      rw [if_pos rfl] at q1 ⊢
      exact wpAny_mono (hb.run pins ρ F σ H s cenv A' E' s3 m2 v u d _ I rp (g.next k1) r dp q1) (fun z s4 h => ⟨h.1, keeps_trans k1 h.2⟩) fun _ _ z => z) fun _ _ z => z)⟩
end
/-! ### the generator itself -/
section
variable {X : Cx} {e : Ent} {elt iter : Expr} {x : Str} {px p pos gpos : Pos} {scope : Scope} {t : TGe} {k : Nat} {c P : Addr} {tq : TX (Bool × List D)}
structure GenD (sc : Scope) (scope : Scope) (x : Str) : Prop where
  kind : scope.kind = .function
  co : scope.isCoroutine = false
  cell : ∀ y ∈ scope.names, y.2 ≠ .cell
  dot : scope.names.lookup (".0" : Str) = some NameKind.local
  loc : scope.names.lookup x = some .local
  free : ∀ y ∈ scope.names, y.2 = .free → sc.names.lookup y.1 = some .cell
def genDb (sc scope : Scope) (x : Str) : Bool := decide (scope.kind = .function) && decide (scope.isCoroutine = false) && scope.names.all (fun y => decide (y.2 ≠ .cell)) && decide (scope.names.lookup (".0" : Str) = some NameKind.local) && decide (scope.names.lookup x = some NameKind.local) &&
  scope.names.all (fun y => decide (y.2 = .free → sc.names.lookup y.1 = some .cell))
theorem genD_by {sc scope : Scope} {x : Str} (h : genDb sc scope x = true) : GenD sc scope x := by
  unfold genDb at h
  simp only [Bool.and_eq_true, decide_eq_true_eq, List.all_eq_true] at h
  obtain ⟨⟨⟨⟨⟨h1, h2⟩, h3⟩, h4⟩, h5⟩, h6⟩ := h
  exact ⟨h1, h2, h3, h4, h5, h6⟩
theorem gen_seq {pins : List (Addr × Obj)} {ρ : Ev} {F : Hp} {σ : L2.St} {H : Hp} {s : Shared} {Q' : Value → Shared → Prop} {Qd : (Nat → Bool) → Nat → Prop}
    (hr : Room k X.A) (TB : GxR.TabB X.base X.mg c P) (hcode : X.env.code = .ref c) (S : GenD X.env.scope scope x) (hi : PQ X e iter tq) (hel : PGe X e scope x elt t) (hs : ∀ v, genFold iter X.env v = pure v)
    (TI : TabIn e.toDl P) (I : Inv X pins σ H s) (rp : Rp X.K e ρ F σ H)
    (h : tq ρ fun xs => ∃ f : Nat → Bool, (∀ i d, xs.2[i]? = some d → t ρ d fun y => y = .bool (f i)) ∧ Qd f xs.2.length)
    (hQ : ∀ (f : Nat → Bool) (n : Nat) (g : Addr) (s5 : Shared), Qd f n → (∃ (fp wr : List Addr) (G : Array GenState → Array GenState → Prop) (Fv : Nat → Value → Prop) (St : Nat → Shared → Prop),
      WalksS X.prog X.w X.A.in1 g fp wr G n Fv St ∧ St 0 s5 ∧ TruthOf X.prog X.w X.A.in1 Fv f ∧ ∀ s', Moved wr G s5 s' → ∃ F2 H2, Gr e.toDl F H F2 H2 ∧ Inv X pins σ H2 s') → Q' (.ref g) s5) :
    wpAny (model X.prog X.w) X.A (eval (.GeneratorExp elt [⟨.Name x px, iter, [], 0⟩] scope gpos) X.env) Q' X.xe s := by
  have hfree : ∀ y ∈ scope.names, y.2 = .free → ∃ c, X.env.cells.lookup y.1 = some c := fun y hy hf => I.ok.has y.1 (.inl (S.free y hy hf))
  refine wpAny_GeneratorExp_walksQ hr.hd S.co (closure_ok hfree) S.cell S.dot S.loc S.kind (by have := hr.dp; omega) ?_ hs
  refine thn (hi.pe.run pins s σ H (fun v H1 => ∃ (F1 : Hp) (xs : Bool × List D) (f : Nat → Bool), Gr e.toDl F H F1 H1 ∧ SeqOk X.K e.M F1 H1 v xs.1 xs.2 ∧ (∀ i d, xs.2[i]? = some d → t ρ d fun y => y = .bool (f i)) ∧ Qd f xs.2.length) I ⟨F, ρ, rp, hi.mono ρ _ _ (fun xs hxs v F1 H1 g1 sq => ?_) h⟩) fun xv s1 ⟨v, H1, I1, r1, F1, xs, f, g1, sq, hf, hq⟩ => ?_
  · obtain ⟨f, h1, h2⟩ := hxs
    exact ⟨F1, xs, f, g1, sq, h1, h2⟩
  have rp1 := rp.step g1
  obtain ⟨b, xs⟩ := xs
  obtain ⟨ps, hP, ht⟩ := TI.at_ H1 g1.ok.inv
  have hPs : s1.heap.get? P = some { cls := .none, data := .fields ps } := I1.hok P _ hP
  have hPlt : P < s1.heap.objs.size := Heap.lt_size hPs
  -- how it is walked
  have main : ∀ (o : Obj) (a : Addr) (items : Array Value) (vs : List V) (St : Nat → Heap → Prop), Vals vs items.toList → DpAll X.K F1 vs xs → a < s1.heap.objs.size → a ≠ P →
      (∀ A' : Around, A'.handled = none → Walks X.prog X.w A' s1.heap.objs.size [s1.heap.objs.size, a] [s1.heap.objs.size] items.size (fun i v => items[i]? = some v) St) → St 0 (s1.heap.push o) →
      (s1.heap.push o).NoLimit ∧ wpAny (model X.prog X.w) X.A (genexprCode X.env gpos (X.env.qual ++ "<genexpr>") scope) (fun code s₃ => wpAny (model X.prog X.w) X.A (builtinsFor X.env.globals X.env.builtins) (fun bi s₄ =>
        ∃ Ia fp wr n₀ Pf St₀ pz F, Value.ref s1.heap.objs.size = .ref Ia ∧ (∀ A' : Around, A'.handled = none → Walks X.prog X.w A' Ia fp wr n₀ Pf St₀) ∧ St₀ 0 s₄.heap ∧ (∀ b ∈ fp, b < s₄.heap.objs.size) ∧ s₄.heap.NoLimit ∧ cStatics ∉ wr ∧
          (∀ href : Heap, (∀ b o, s₄.heap.get? b = some o → href.get? b = some o) →
            QuietGen X.prog X.w (genEnv scope (cloFrom X.env.cells scope.names []) s₄.heap.objs.size code bi X.env) x [] elt (List.range s₄.heap.objs.size) wr Pf pz F href) ∧
          (∀ a h₅ tk gs, gs.bare = true → s₄.heap.objs.size < a → h₅.objs.size = a + 1 → (∀ b o, s₄.heap.get? b = some o → h₅.get? b = some o) →
            WalksS X.prog X.w X.A.in4 a (a :: s₄.heap.objs.size :: List.range s₄.heap.objs.size) (s₄.heap.objs.size :: wr) (GenOnlyQ s₄.gens.size) (passing pz n₀ 0).length
              (fun j y => ∃ i, (passing pz n₀ 0)[j]? = some i ∧ F i y) (GenAt X.prog X.w X.A.in4 a s₄.gens.size s₄.heap.objs.size (List.range s₄.heap.objs.size) wr pz n₀ F) →
            GenAt X.prog X.w X.A.in4 a s₄.gens.size s₄.heap.objs.size (List.range s₄.heap.objs.size) wr pz n₀ F 0 { s₄ with gens := s₄.gens.push gs, toks := tk, heap := h₅ } →
            Q' (.ref a) { s₄ with gens := s₄.gens.push gs, toks := tk, heap := h₅ })) X.xe s₃) X.xe { s1 with heap := s1.heap.push o } := by
    intro o a items vs St rv dvs hal haP W hst
    have hP2 : (s1.heap.push o).get? P = some { cls := .none, data := .fields ps } := Heap.get?_push_of_some _ hPs
    have cd : PySem.W.CodeHd (s1.heap.push o) c P := TB.code.keeps fun b u e => Heap.get?_push_of_some _ (I1.bk b u e)
    have lim2 : (s1.heap.push o).NoLimit := I1.nolimit.push o
    have hlen : items.size = xs.length := by
      have h1 := rv.length
      have h2 := DpAll.len dvs
      simp at h1
      omega
    have cont : ∀ (code : Value) (h3 : Heap) (tk : Nat) (ps' : Array Value), Heap.ExtBut P (s1.heap.push o) h3 → (s1.heap.push o).objs.size ≤ h3.objs.size → h3.get? P = some { cls := .none, data := .fields ps' } → (∃ more, ps' = ps ++ more) → TriplesOk ps'.toList →
        wpAny (model X.prog X.w) X.A (builtinsFor X.env.globals X.env.builtins) (fun bi s₄ =>
          ∃ Ia fp wr n₀ Pf St₀ pz F, Value.ref s1.heap.objs.size = .ref Ia ∧ (∀ A' : Around, A'.handled = none → Walks X.prog X.w A' Ia fp wr n₀ Pf St₀) ∧ St₀ 0 s₄.heap ∧ (∀ b ∈ fp, b < s₄.heap.objs.size) ∧ s₄.heap.NoLimit ∧ cStatics ∉ wr ∧
            (∀ href : Heap, (∀ b o, s₄.heap.get? b = some o → href.get? b = some o) →
              QuietGen X.prog X.w (genEnv scope (cloFrom X.env.cells scope.names []) s₄.heap.objs.size code bi X.env) x [] elt (List.range s₄.heap.objs.size) wr Pf pz F href) ∧
            (∀ a h₅ tk gs, gs.bare = true → s₄.heap.objs.size < a → h₅.objs.size = a + 1 → (∀ b o, s₄.heap.get? b = some o → h₅.get? b = some o) →
              WalksS X.prog X.w X.A.in4 a (a :: s₄.heap.objs.size :: List.range s₄.heap.objs.size) (s₄.heap.objs.size :: wr) (GenOnlyQ s₄.gens.size) (passing pz n₀ 0).length
                (fun j y => ∃ i, (passing pz n₀ 0)[j]? = some i ∧ F i y) (GenAt X.prog X.w X.A.in4 a s₄.gens.size s₄.heap.objs.size (List.range s₄.heap.objs.size) wr pz n₀ F) →
              GenAt X.prog X.w X.A.in4 a s₄.gens.size s₄.heap.objs.size (List.range s₄.heap.objs.size) wr pz n₀ F 0 { s₄ with gens := s₄.gens.push gs, toks := tk, heap := h₅ } →
              Q' (.ref a) { s₄ with gens := s₄.gens.push gs, toks := tk, heap := h₅ })) X.xe { s1 with heap := h3, toks := tk } := by
      intro code h3 tk ps' hx hsz hP3 hmore ht3
      obtain ⟨bm, ob, e1, e2, e3, e4, e5, e6, e7, e8⟩ := TB.bm
      have hcP : cStatics ≠ P := fun e => by
        obtain ⟨_, hns, _⟩ := I1.nolimit
        obtain ⟨o', es, ep, ho, hd, _⟩ := hns
        rw [e, hPs] at ho
        cases ho
        cases hd
      have hcl : cStatics < s1.heap.objs.size := let ⟨_, hns, _⟩ := I1.nolimit; hns.lt
      have sz2 : (s1.heap.push o).objs.size = s1.heap.objs.size + 1 := Heap.size_push ..
      have keep3 : ∀ b u, b ≠ P → s1.heap.get? b = some u → h3.get? b = some u := fun b u hb e => hx b u hb (Heap.get?_push_of_some _ e)
      -- the heap with the table grown
      obtain ⟨more, em⟩ := hmore
      have tabbed : GxR.Tabbed P H1 (upd H1 P (.tbl (ps ++ more))) := ⟨⟨ps ++ more, upd_same, by rw [← em]; exact ht3⟩, fun b hb => upd_ne hb⟩
      have gT : Gr e.toDl F1 H1 F1 (upd H1 P (.tbl (ps ++ more))) := ⟨Same.refl _, fun b o h z => (by rw [z] at h; cases h), fun b o h m => by
          rw [upd_ne (fun z => m (by rw [z]; exact TI.m))]
          exact h, ⟨fun b o h => by
          rw [upd_ne (fun z => by rw [z, (g1.ok.mu P TI.m).1] at h; cases h)]
          exact g1.ok.sub b o h, fun b m => ⟨(g1.ok.mu b m).1, by
          by_cases z : b = P
          · exact ⟨_, by rw [z, upd_same]⟩
          · rw [upd_ne z]
            exact (g1.ok.mu b m).2⟩, TI.put H1 _ g1.ok.inv tabbed⟩⟩
      refine wpAny_builtinsFor (m := X.mg) (by rw [I1.ok.glob]; exact ((I1.mod.glob.keeps I1.bk).push o).extBut hx TB.gP) e1 e2 (keep3 _ _ e4 (I1.bk _ _ e5)) e6 e7 e8 ?_
      refine ⟨s1.heap.objs.size, [s1.heap.objs.size, a], [s1.heap.objs.size], items.size, (fun i v => items[i]? = some v), St, (fun _ => true), (fun i y => y = .bool (f i)), rfl, W, ?_, ?_, lim2.extBut hx hcP, ?_, ?_, ?_⟩
      · refine (W X.A hr.hd).frame _ _ _ hst fun b hb u e => hx b u (fun z => ?_) e
        rcases List.mem_cons.mp hb with z2 | z2
        · exact Nat.ne_of_lt hPlt (z.symm.trans z2)
        · exact haP ((List.mem_singleton.mp z2).symm.trans z)
      · intro b hb
        rcases List.mem_cons.mp hb with z | z
        · rw [z]
          show s1.heap.objs.size < h3.objs.size
          omega
        · rw [List.mem_singleton.mp z]
          exact Nat.lt_of_lt_of_le hal (Nat.le_trans (by rw [sz2]; exact Nat.le_succ _) hsz)
      · intro z
        rcases List.mem_cons.mp z with z | z
        · exact Nat.ne_of_lt hcl z
        · cases z
      · intro href hhref
        refine ⟨fun A' E' i v s₂ m₂ hA hPv hn hm hk => ?_, fun A' E' i v s₂ m₂ hA hPv hp hn hm hk => ?_⟩
        · simp only [List.forIn_nil]
          exact wpAny_pure ⟨rfl, GxR.keeps_refl _⟩
        · obtain ⟨w, hw, rw_⟩ : ∃ w, vs[i]? = some w ∧ RelV w v := by
            have hPv : items[i]? = some v := hPv
            have hv2 : items.toList[i]? = some v := by rw [Array.getElem?_toList]; exact hPv
            have hl := rv.length
            have hi : i < vs.length := by
              have := (List.getElem?_eq_some_iff.mp hv2).1
              omega
            obtain ⟨u, h1, h2⟩ := rv.get (List.getElem?_eq_getElem hi)
            rw [hv2] at h1
            cases h1
            exact ⟨_, List.getElem?_eq_getElem hi, h2⟩
          obtain ⟨d, hd, dp⟩ := DpAll.back dvs hw
          have kall : ∀ b u, b ≠ P → s1.heap.get? b = some u → s₂.heap.get? b = some u := fun b u hb q => by
            have q3 := keep3 b u hb q
            refine hk b (List.mem_range.mpr (Heap.lt_size q3)) (fun z => ?_) u (hhref b u q3)
            rw [List.mem_singleton.mp z] at q
            exact Nat.lt_irrefl _ (Heap.lt_size q)
          have kP : s₂.heap.get? P = some { cls := .none, data := .fields ps' } := hk P (List.mem_range.mpr (Heap.lt_size hP3)) (fun z => Nat.ne_of_lt hPlt (List.mem_singleton.mp z)) _ (hhref P _ hP3)
          have okS : HOk X.prog X.w (upd H1 P (.tbl (ps ++ more))) s₂.heap := fun b u q => by
            by_cases hb : b = P
            · rw [hb] at q ⊢
              rw [upd_same] at q
              cases q
              rw [← em]
              exact kP
            · rw [upd_ne hb] at q
              have nt : ∀ (a' : Addr) (q' : HO), H1 a' = some q' → (∀ ps, q' ≠ .tbl ps) → a' ≠ P := fun a' q' h' hn z => by
                rw [z, hP] at h'
                exact hn ps (Option.some.inj h').symm
              refine (I1.hok b u q).stay (fun d' v' hd' q' => kall d' v' ?_ q') (fun d' q' => by rw [upd_ne (nt d' _ q' fun _ z => nomatch z)]; exact q') fun d' ys q' => by rw [upd_ne (nt d' _ q' fun _ z => nomatch z)]; exact q'
              rcases hd' with z | z
              · rw [z]
                exact hb
              · exact nt d' _ z fun _ z => nomatch z
          have gat : GAt X e F1 H1 scope x s1 (genEnv scope (cloFrom X.env.cells scope.names []) h3.objs.size code builtinsNs X.env) A' s₂ m₂ v := ⟨rfl, fun y c' hf' hc' => NdefX.clo_has hfree (PySem.mem_of_lookup hf') hc', rfl, hA, fun b o hn' q => kall b o (fun z => by rw [z, hP] at hn'; cases hn') q, ⟨_, gT, okS⟩, hn, hm⟩
          refine wpAny_mono (hel.run pins ρ F1 σ H1 s1 _ A' E' s₂ m₂ w v d _ I1 rp1 gat rw_ dp (hf i d hd)) (fun y s3 h => ?_) fun _ _ z => z
          obtain ⟨⟨w', d', r', dp', e'⟩, kk⟩ := h
          subst e'
          cases dp'
          cases r'
          exact ⟨rfl, kk⟩
      · intro g h5 tk5 gs hgb hag hsz5 hk5 W5 hat
        simp only [GxR.passing_true, List.length_range] at W5
        refine hQ f xs.length g _ hq ⟨_, _, _, _, _, by rw [← hlen]; exact W5.in4_1, hat, ?_, fun s' hm => ?_⟩
        · intro j y sj Qj Ej hy hQj
          obtain ⟨i, hij, hy⟩ := hy
          obtain ⟨hj, ej⟩ := List.getElem?_eq_some_iff.mp hij
          rw [List.getElem_range] at ej
          subst ej
          subst hy
          exact wpAny_truthy_bool hQj
        · have nwr : ∀ b u, s1.heap.get? b = some u → b ∉ h3.objs.size :: [s1.heap.objs.size] := fun b u e hb => by
            have hl := Heap.lt_size e
            rcases List.mem_cons.mp hb with z | z
            · rw [z] at hl
              have h9 : (h3.objs.size : Nat) < s1.heap.objs.size := hl
              omega
            · rcases List.mem_cons.mp z with z | z
              · rw [z] at hl
                exact Nat.lt_irrefl _ hl
              · cases z
          have J := GxR.inv_tab (more := more) (h' := s'.heap) (g' := s'.gens) (d' := s'.drawn) (t' := s'.toks) I1 hP (fun b u hb e => hm.heap b u (nwr b u e) (hk5 b u (keep3 b u hb e)))
            (by rw [← em]; exact hm.heap P _ (nwr P _ hPs) (hk5 P _ hP3)) (AllBare.movedS (I1.bare.push hgb) hm)
          rw [GxR.sh_eta s1 s' hm.os] at J
          exact ⟨F1, upd H1 P (.tbl (ps ++ more)), g1.trans rp.ok gT, J⟩
    refine ⟨lim2, ?_⟩
    cases hfd : codeAmong gpos ps.toList with
    | none =>
      refine wpAny_genexprCodeX hcode (cd.code hP2 ht) (cd.tab hP2) hfd fun c' h' tk hx hge hlt hco' _ htab' _ => ?_
      obtain ⟨o1, vs, f1, tf, fl, tg, inF, tx, tt, op, _, _, _, _, _, _, _, _, _, htr, _⟩ := hco'
      exact cont _ h' tk _ hx (Nat.le_trans hge (Nat.le_of_lt hlt)) htab'.2 ⟨_, rfl⟩ htr
    | some cv =>
      refine wpAny_genexprCode_hit hcode (cd.code hP2 ht) hfd ?_
      exact cont cv (s1.heap.push o) s1.toks ps (Heap.ExtBut.refl _ _) (Nat.le_refl _) hP2 ⟨#[], by simp⟩ ht
  have notP : ∀ {a : Addr} {o : Obj}, s1.heap.get? a = some o → (∀ ps, o.data ≠ .fields ps) → a ≠ P := fun {a o} h1 h2 z => by
    rw [z, hPs] at h1
    cases h1
    exact h2 ps rfl
  cases b with
  | false =>
    obtain ⟨a, vs, rfl, sl, dvs⟩ := sq.list
    cases r1
    obtain ⟨its, rv, il, hz⟩ := I1.list sl
    obtain ⟨o, ho, hc, n, hd⟩ := il.isList
    refine wpAny_pyIter_list (items := its.toArray) ⟨o, ho, hc, n, hd⟩ ?_
    have hal := Heap.lt_size ho
    exact main _ a its.toArray vs _ (by simpa using rv) dvs hal (notP ho fun ps z => by rw [hd] at z; cases z) (fun A' hA => Walks.list hA _ a (Nat.ne_of_lt hal) _) ⟨⟨_, Heap.get?_push_size _ rfl, rfl, rfl⟩, o, Heap.get?_push_of_some _ ho, hc, n, hd⟩
  | true =>
    obtain ⟨a, vs, rfl, sl, dvs⟩ := sq.tup
    cases r1
    obtain ⟨its, rv, il, hz⟩ := I1.tuple sl
    obtain ⟨o, ho, hc, n, hd⟩ := il
    refine wpAny_pyIter_tuple (items := its.toArray) ⟨o, ho, hc, n, hd⟩ ?_
    have hal := Heap.lt_size ho
    exact main _ a its.toArray vs _ (by simpa using rv) dvs hal (notP ho fun ps z => by rw [hd] at z; cases z) (fun A' hA => Walks.tuple hA _ a (Nat.ne_of_lt hal) _) ⟨⟨_, Heap.get?_push_size _ rfl, rfl, rfl⟩, o, Heap.get?_push_of_some _ ho, hc, n, hd⟩
/-- all(test for x in e), any(test for x in e) -/
def xAllG (e : Dl) (P : Addr) (tq : TX (Bool × List D)) (t : TGe) : TX D := fun ρ Q => TabIn e P ∧ tq ρ fun xs => ∃ f : Nat → Bool, (∀ i d, xs.2[i]? = some d → t ρ d fun y => y = .bool (f i)) ∧ Q (.bool ((List.range xs.2.length).all f))
def xAnyG (e : Dl) (P : Addr) (tq : TX (Bool × List D)) (t : TGe) : TX D := fun ρ Q => TabIn e P ∧ tq ρ fun xs => ∃ f : Nat → Bool, (∀ i d, xs.2[i]? = some d → t ρ d fun y => y = .bool (f i)) ∧ Q (.bool ((List.range xs.2.length).any f))
theorem pd_allG (hr : Room k X.A) (hg : Gl X "all") (hm : X.mg "all" = none) (hb : bootBuiltins "all" = some (.builtin "all")) (TB : GxR.TabB X.base X.mg c P) (hcode : X.env.code = .ref c) (S : GenD X.env.scope scope x) (hi : PQ X e iter tq) (hel : PGe X e scope x elt t) (hs : ∀ v, genFold iter X.env v = pure v)
    (he : starEach [.GeneratorExp elt [⟨.Name x px, iter, [], 0⟩] scope gpos] X.env = (false, eval (.GeneratorExp elt [⟨.Name x px, iter, [], 0⟩] scope gpos) X.env) :: starEach [] X.env := by rfl) :
    PD X e (.Call (.Name "all" p) [.GeneratorExp elt [⟨.Name x px, iter, [], 0⟩] scope gpos] [] pos) (xAllG e.toDl P tq t) := by
  refine ⟨fun ρ Q Q' kk q => ⟨q.1, hi.mono ρ _ _ (fun xs ⟨f, h1, h2⟩ => ⟨f, h1, kk _ h2⟩) q.2⟩, ⟨fun pins s σ H Q I ⟨F, ρ, rp, TI, q⟩ => ?_⟩⟩
  refine wpAny_Call_Name_kw (ld_blt I hg hm hb ?_)
  refine PyProof.Rows.callWith_builtin1 ?_ he (by rfl)
  rw [he]
  show wpAny _ _ (spliced ((false, eval (.GeneratorExp elt [⟨.Name x px, iter, [], 0⟩] scope gpos) X.env) :: backTo pos (starEach [] X.env))) _ _ s
  refine Calls.spliced_cons (gen_seq (Qd := fun f n => Fin (kD X.K e) F H Q (.bool ((List.range n).all f))) hr TB hcode S hi hel hs TI I rp q fun f n g s5 hq hG => ?_)
  obtain ⟨fp, wr, G, Fv, St, W, hst, htr, hI⟩ := hG
  refine Calls.spliced_nil ?_
  refine call_all_walkS (W.self 0 _ _ _ hst ⟨g, fp, wr, G, _, Fv, St, _, rfl, W, hst, htr, fun s' hmv => ?_⟩)
  obtain ⟨F2, H2, g2, J⟩ := hI s' hmv
  exact ⟨.bl _, H2, J, rfl, hq _ F2 H2 g2 (.bl _)⟩
theorem pd_anyG (hr : Room k X.A) (hg : Gl X "any") (hm : X.mg "any" = none) (TB : GxR.TabB X.base X.mg c P) (hcode : X.env.code = .ref c) (S : GenD X.env.scope scope x) (hi : PQ X e iter tq) (hel : PGe X e scope x elt t) (hs : ∀ v, genFold iter X.env v = pure v)
    (he : starEach [.GeneratorExp elt [⟨.Name x px, iter, [], 0⟩] scope gpos] X.env = (false, eval (.GeneratorExp elt [⟨.Name x px, iter, [], 0⟩] scope gpos) X.env) :: starEach [] X.env := by rfl) :
    PD X e (.Call (.Name "any" p) [.GeneratorExp elt [⟨.Name x px, iter, [], 0⟩] scope gpos] [] pos) (xAnyG e.toDl P tq t) := by
  refine ⟨fun ρ Q Q' kk q => ⟨q.1, hi.mono ρ _ _ (fun xs ⟨f, h1, h2⟩ => ⟨f, h1, kk _ h2⟩) q.2⟩, ⟨fun pins s σ H Q I ⟨F, ρ, rp, TI, q⟩ => ?_⟩⟩
  refine wpAny_Call_Name_kw (ld_blt I hg hm boot_any ?_)
  refine PyProof.Rows.callWith_builtin1 ?_ he (by rfl)
  rw [he]
  show wpAny _ _ (spliced ((false, eval (.GeneratorExp elt [⟨.Name x px, iter, [], 0⟩] scope gpos) X.env) :: backTo pos (starEach [] X.env))) _ _ s
  refine Calls.spliced_cons (gen_seq (Qd := fun f n => Fin (kD X.K e) F H Q (.bool ((List.range n).any f))) hr TB hcode S hi hel hs TI I rp q fun f n g s5 hq hG => ?_)
  obtain ⟨fp, wr, G, Fv, St, W, hst, htr, hI⟩ := hG
  refine Calls.spliced_nil ?_
  refine call_any_walkS (W.self 0 _ _ _ hst ⟨g, fp, wr, G, _, Fv, St, _, rfl, W, hst, htr, fun s' hmv => ?_⟩)
  obtain ⟨F2, H2, g2, J⟩ := hI s' hmv
  exact ⟨.bl _, H2, J, rfl, hq _ F2 H2 g2 (.bl _)⟩
end
end PL
set_option Elab.async false
set_option linter.all false
set_option maxRecDepth 100000
set_option maxHeartbeats 4000000
namespace PL
open PySem PySem.Spec PyProof.Rows L2
section
variable {X : Cx} {e : Ent} {a b : Expr} {es : List Expr} {pos p2 : Pos} {ta : TX D} {i j : Nat} {tl : TX (List PV)}
def ownO (i : Nat) (ρ : Ev) (Q : OC → Prop) : Prop := match ρ[i]? with | some (some (.own o)) => Q o | _ => False
theorem ownO_of {i : Nat} {ρ : Ev} {Q : OC → Prop} (q : ownO i ρ Q) : ∃ o, ρ[i]? = some (some (.own o)) ∧ Q o := by
  unfold ownO at q
  split at q
  · rename_i o h
    exact ⟨o, h, q⟩
  · exact q.elim
/-- return data, own -/
def zRetT2 (i : Nat) (ta : TX D) : TSt := fun P ρ => ta ρ fun d => ownO i ρ fun o => P.rt (.two d o)
theorem z_retT2 {k2} (ha : PD X e a ta) (hb : PE X b (tVar i)) (hs1 : starEach [a, b] X.env = (false, eval a X.env) :: starEach [b] X.env := by rfl) (hs2 : starEach [b] X.env = (false, eval b X.env) :: starEach [] X.env := by rfl) :
    PSx X e (.Return (some (.Tuple [a, b] k2 p2)) pos) (zRetT2 i ta) := ⟨impS (ps_ret (pe_tup (pa_cons ha.pe (pa_cons hb pa_nil hs2) hs1))) fun Dd σ H ⟨F, ρ, P, rp, q, lk⟩ =>
  ⟨F, ρ, rp, ha.mono ρ _ _ (fun d hd v F1 H1 g1 dv => by
    obtain ⟨o, h1, hq⟩ := ownO_of hd
    have rp1 := rp.step g1
    obtain ⟨w, h2, p, e1, e2, e3, e4, e5⟩ := rp1.slots i _ h1
    subst e1
    refine ⟨.ref p, h2, by show 2 ≤ sizeLine; decide, fun t ht => ?_⟩
    have g2 := Gr.newO (o := .tup [v, .ref p]) rp1.ok rp1.stay ht
    refine lk.rt (.two d o) (.ref t) F1 _ ⟨(rp1.step g2).gr, t, v, p, rfl, SqT.of upd_same, dv, e2.mono (Same.refl _) fun x hx => sameNew ht _ _ hx, e3, e4, e5⟩ hq) q⟩⟩
/-- x, y = f(..): data and own -/
def zCallT2 (tf : PF) (dl : Dl) (tl : TX (List PV)) (i j : Nat) : TSt := fun P ρ => tl ρ fun pvs => tf dl pvs fun pv => match pv with | .two d o => P.nx ((ρ.set i (some (.imm d))).set j (some (.own o))) | _ => False
variable {CX : CXT} {k : Nat} {f : Addr} {fd : FuncData} {ps : List Str} {tf : PF} {E : XK} {x : Str} {p : Pos}
theorem z_callT2 {y z : Str} {py pz pt : Pos} {kt} (hij : i ≠ j) (hc : X.calm = true) (gy : PG X (.Name y py) (gName i)) (gz : PG X (.Name z pz) (gName j)) (mf : MonoF tf) (G : FnOk X.prog X.w X.K X.mg X.base CX k f fd ps (Prm X.K tf)) (hr : Room k X.A) (hg : Gl X x) (hm : X.mg x = some (.ref f)) (hk : PySem.W.keepIn X.K (.ref f) = true) (hb : Binds X.K fd ps []) (hx : Passes CX X E)
    (ha : PAv X e (a :: es) tl) (hs : swapsWithSole [.Tuple [.Name y py, .Name z pz] kt pt] (.Call (.Name x p) (a :: es) [] p2) pos.line X.env = pure false := by rfl) (hw : swappedStores [.Tuple [.Name y py, .Name z pz] kt pt] (.Call (.Name x p) (a :: es) [] p2) X.env = pure none := by rfl)
    (h1 : (assignEach [.Tuple [.Name y py, .Name z pz] kt pt] X.env).map (·.2) = [assign (.Tuple [.Name y py, .Name z pz] kt pt) X.env] := by rfl)
    (hp1 : (assignEach [.Name y py, .Name z pz] X.env).map (·.2) = assign (.Name y py) X.env :: (assignEach [.Name z pz] X.env).map (·.2) := by rfl) (hp2 : (assignEach [.Name z pz] X.env).map (·.2) = assign (.Name z pz) X.env :: (assignEach [] X.env).map (·.2) := by rfl)
    (hn : (assignEach [.Name y py, .Name z pz] X.env).length = 2 := by rfl) (hst : (assignEach [.Name y py, .Name z pz] X.env).findIdx? (·.1) = none := by rfl)
    (hdb : (x == ("__debug__" : Str)) = false := by decide) (he : starEach (a :: es) X.env = (false, eval a X.env) :: starEach es X.env := by rfl) (hpl : (backTo p2 (starEach es X.env)).any (·.1) = false := by rfl) :
    PSx X e (.Assign [.Tuple [.Name y py, .Name z pz] kt pt] (.Call (.Name x p) (a :: es) [] p2) pos) (zCallT2 tf e.toDl tl i j) :=
  ⟨impS (ps_asg (pe_call G hr hg hm hk hb .nil hx ha.pa hdb he hpl) (pg_tup hc (pgs_cons gy (pgs_cons gz pgs_nil hp2) hp1) hn hst) hs hw h1) fun Dd σ H ⟨F, ρ, P, rp, q, lk⟩ => ⟨F, ρ, rp, ha.mono ρ _ _ (fun pvs h vs F1 H1 g1 av => by
    refine show Prm X.K tf (vs ++ []) H1 _ E from ?_
    rw [List.append_nil]
    have rp1 := rp.step g1
    refine ⟨F1, e.toDl, pvs, g1.ok, rp.stay, av, mf _ _ _ _ (fun pv hp v F2 H2 g2 r => ?_) h⟩
    cases pv with
    | two d o =>
      obtain ⟨t, u, c, e1, e2, e3, e4, e5, e6, e7⟩ := r
      subst e1
      refine ⟨t, [u, .ref c], rfl, e2, rfl, u, [.ref c], rfl, .ref c, [], rfl, rfl, ?_⟩
      have r1 := setN j rp1 g2 (show NOk X.K e H1 F2 H2 (.ref c) o from ⟨c, rfl, e4, e5, e6, e7⟩)
      have r2 := r1.setD (i := i) e3
      rw [List.set_comm _ _ (Ne.symm hij), List.set_comm _ _ (Ne.symm hij)] at r2
      exact lk.nx _ _ F2 H2 (g1.fz.trans g2.fz) r2 hp
    | imm d => exact (show False from hp).elim
    | own d => exact (show False from hp).elim
    | raw d => exact (show False from hp).elim
    | std a d => exact (show False from hp).elim) q⟩⟩
end
section
variable {X : Cx} {e : Ent} {α β γ : Type} {k1 : Kd e α} {k2 : Kd e β} {k3 : Kd e γ} {a b c : Expr} {pos : Pos} {i j l : Nat}
/-- x, y, z = a, b, c: the tuple is made, then taken apart -/
def zPar3 {α β γ : Type} (f : α → PV) (g : β → PV) (h : γ → PV) (i j l : Nat) (ta : TX α) (tb : TX β) (tc : TX γ) : TSt := fun P ρ => ta ρ fun d => tb ρ fun d' => tc ρ fun d'' => P.nx (((ρ.set i (some (f d))).set j (some (g d'))).set l (some (h d'')))
theorem z_par3 {x y z : Str} {px py pz pt : Pos} {kt k2' pt2} {f : α → PV} {g : β → PV} {h : γ → PV} {ta : TX α} {tb : TX β} {tc : TX γ} (kf : Kv X.K k1 f) (kg : Kv X.K k2 g) (kh : Kv X.K k3 h) (hc : X.calm = true) (hx : PG X (.Name x px) (gName i)) (hy : PG X (.Name y py) (gName j)) (hz : PG X (.Name z pz) (gName l)) (ha : PX X e k1 a ta) (hb : PX X e k2 b tb) (hcc : PX X e k3 c tc)
    (hs : swapsWithSole [.Tuple [.Name x px, .Name y py, .Name z pz] kt pt] (.Tuple [a, b, c] k2' pt2) pos.line X.env = pure false := by rfl) (hw : swappedStores [.Tuple [.Name x px, .Name y py, .Name z pz] kt pt] (.Tuple [a, b, c] k2' pt2) X.env = pure none := by rfl)
    (h1 : (assignEach [.Tuple [.Name x px, .Name y py, .Name z pz] kt pt] X.env).map (·.2) = [assign (.Tuple [.Name x px, .Name y py, .Name z pz] kt pt) X.env] := by rfl)
    (hp1 : (assignEach [.Name x px, .Name y py, .Name z pz] X.env).map (·.2) = assign (.Name x px) X.env :: (assignEach [.Name y py, .Name z pz] X.env).map (·.2) := by rfl) (hp2 : (assignEach [.Name y py, .Name z pz] X.env).map (·.2) = assign (.Name y py) X.env :: (assignEach [.Name z pz] X.env).map (·.2) := by rfl) (hp3 : (assignEach [.Name z pz] X.env).map (·.2) = assign (.Name z pz) X.env :: (assignEach [] X.env).map (·.2) := by rfl)
    (hn : (assignEach [.Name x px, .Name y py, .Name z pz] X.env).length = 3 := by rfl) (hst : (assignEach [.Name x px, .Name y py, .Name z pz] X.env).findIdx? (·.1) = none := by rfl)
    (hs1 : starEach [a, b, c] X.env = (false, eval a X.env) :: starEach [b, c] X.env := by rfl) (hs2 : starEach [b, c] X.env = (false, eval b X.env) :: starEach [c] X.env := by rfl) (hs3 : starEach [c] X.env = (false, eval c X.env) :: starEach [] X.env := by rfl) :
    PSx X e (.Assign [.Tuple [.Name x px, .Name y py, .Name z pz] kt pt] (.Tuple [a, b, c] k2' pt2) pos) (zPar3 f g h i j l ta tb tc) :=
  ⟨impS (ps_asg (pe_tup (pa_cons ha.pe (pa_cons hb.pe (pa_cons hcc.pe pa_nil hs3) hs2) hs1)) (pg_tup hc (pgs_cons hx (pgs_cons hy (pgs_cons hz pgs_nil hp3) hp2) hp1) hn hst) hs hw h1) fun Dd σ H ⟨F, ρ, P, rp, q, lk⟩ => ⟨F, ρ, rp, ha.mono ρ _ _ (fun d hd v F1 H1 g1 dv => ⟨F1, ρ, rp.step g1, hb.mono ρ _ _ (fun d' hd' w F2 H2 g2 dw => ⟨F2, ρ, (rp.step g1).step g2, hcc.mono ρ _ _ (fun d2 hd2 u F3 H3 g3 du => by
    refine ⟨by show 3 ≤ sizeLine; decide, fun p hp => ⟨p, [v, w, u], rfl, SqT.of upd_same, rfl, v, [w, u], rfl, w, [u], rfl, u, [], rfl, rfl, ?_⟩⟩
    have r1 := kf.set i rp g1 dv
    have r2 := kg.set j r1 g2 dw
    have r3 := kh.set l r2 g3 du
    have g4 := Gr.newO (o := .tup [v, w, u]) r3.ok r3.stay hp
    exact lk.nx _ _ F3 _ ((g1.fz.trans g2.fz).trans g3.fz) (r3.step g4) hd2) hd'⟩) hd⟩) q⟩⟩
theorem z_par3L {x y z : Str} {px py pz pt : Pos} {kt k2' pt2} {f : α → PV} {g : β → PV} {h : γ → PV} {ta : TX α} {tb : TX β} {tc : TX γ} (kf : Kv X.K k1 f) (kg : Kv X.K k2 g) (kh : Kv X.K k3 h) (hc : X.calm = true) (hN : X.N.Nodup) (hi : X.N[i]? = some x) (hj : X.N[j]? = some y) (hl : X.N[l]? = some z) (hij : i ≠ j) (hil : i ≠ l) (hjl : j ≠ l)
    (hx : X.env.scope.names.lookup x = some .local) (hy : X.env.scope.names.lookup y = some .local) (hz : X.env.scope.names.lookup z = some .local) (ha : PX X e k1 a ta) (hb : PX X e k2 b tb) (hcc : PX X e k3 c tc)
    (hw : swappedStores [.Tuple [.Name x px, .Name y py, .Name z pz] kt pt] (.Tuple [a, b, c] k2' pt2) X.env = pure (some [x, y, z])) (hs : swapsWithSole [.Tuple [.Name x px, .Name y py, .Name z pz] kt pt] (.Tuple [a, b, c] k2' pt2) pos.line X.env = pure false := by rfl)
    (hs1 : starEach [a, b, c] X.env = (false, eval a X.env) :: starEach [b, c] X.env := by rfl) (hs2 : starEach [b, c] X.env = (false, eval b X.env) :: starEach [c] X.env := by rfl) (hs3 : starEach [c] X.env = (false, eval c X.env) :: starEach [] X.env := by rfl) :
    PSx X e (.Assign [.Tuple [.Name x px, .Name y py, .Name z pz] kt pt] (.Tuple [a, b, c] k2' pt2) pos) (zPar3 f g h i j l ta tb tc) :=
  ⟨impS (ps_par3 hc hN hi hj hl hij hil hjl hx hy hz (pa_cons ha.pe (pa_cons hb.pe (pa_cons hcc.pe pa_nil hs3) hs2) hs1) hw hs) fun Dd σ H ⟨F, ρ, P, rp, q, lk⟩ => ⟨F, ρ, rp, ha.mono ρ _ _ (fun d hd v F1 H1 g1 dv => ⟨F1, ρ, rp.step g1, hb.mono ρ _ _ (fun d' hd' w F2 H2 g2 dw => ⟨F2, ρ, (rp.step g1).step g2, hcc.mono ρ _ _ (fun d2 hd2 u F3 H3 g3 du => by
    refine ⟨v, w, u, rfl, lk.nx _ _ F3 H3 ((g1.fz.trans g2.fz).trans g3.fz) ?_ hd2⟩
    exact kh.set l (kg.set j (kf.set i rp g1 dv) g2 dw) g3 du) hd'⟩) hd⟩) q⟩⟩
end
section
variable {P : Program} {w : World} {K : PySem.W.Frag} {mg : Str → Option Value} {base : Heap}
/-- a def whose code object is known -/
theorem okPC {x qual : Str} {st : Stmt} {f c : Addr} {fd : FuncData} {N ps : List Str} {k : Nat} {tf : PF} (F : Fun K x qual st f fd) (hcd : fd.code = .ref c) (S : FnScope N ps (defScope st)) (len : ∀ dl pvs Q, tf dl pvs Q → pvs.length = ps.length)
    (body : ∀ (A : Around) (outer : List Env) (s : Shared) (H : Hp) (E : XK) (e : Ent), Room k (A.deeper (envOfC qual (defScope st) s.heap.objs.size f (.ref c))) →
      ∃ t, PSxs (cxOf CX0 P w K mg base N qual (defScope st) f (.ref c) A outer s H E).nox e (defBody st) t ∧ ∀ pvs Q, tf e.toDl pvs Q → t { nx := fun _ => Q (.imm .none), rt := Q } (startE N.length pvs)) : FnOk P w K mg base CX0 (k + 1) f fd ps (Prm K tf) := by
  obtain ⟨oc, od, kV, doc, pm, an, cdv, ct, osl, rfl, lk, hcdi⟩ := F.ex
  have hcd : cdv = .ref c := hcd
  subst hcd
  refine fn_of lk hcdi S (fun vs H Q E ⟨F0, dl, pvs, _, _, ha, q⟩ => ha.length.trans (len _ _ _ q)) fun A outer s H vs Q E hr ⟨F0, dl, pvs, ok, stay, ha, q⟩ => ?_
  obtain ⟨t, h, hq⟩ := body A outer s H E ⟨dl, F0, H⟩ hr
  refine ⟨_, h.pss.nox, F0, startE N.length pvs, _, start_rp ok stay ha, hq _ _ q, ⟨?_, ?_, ?_, ?_⟩⟩
  · intro ρ σ F1 H1 _ rp hp
    exact hp .non F1 H1 rp.gr (Dp.non : Dp K F1 .non .none)
  · intro pv v F1 H1 ⟨g, sl⟩ hp
    refine hp v F1 H1 g ?_
    cases pv with
    | imm d => exact sl
    | raw u => exact sl
    | std b u => exact sl
    | two _ _ => exact sl
    | own o => exact sl
  · intro _ _ _ _ _ _ z
    exact z.elim
  · intro _ _ _ _ _ _ z
    exact z.elim
end
end PL
set_option Elab.async false
set_option linter.all false
set_option maxRecDepth 100000
set_option maxHeartbeats 4000000
/-! facts for readings -/
namespace PL
open PySem PySem.Spec PyProof.Rows L2
/-- a comprehension's turns by a function, behind what is there already -/
theorem compT_mapA {g : TGd} {tt : TX Bool} {te : TX D} {ρ : Ev} (f : D → D) (Q : List D → Prop) : ∀ (xs acc : List D),
    (∀ (d : D) (A : D → Prop) (B : Prop), d ∈ xs → A (f d) → g d ρ fun ρ' => tt ρ' fun k => if k = true then te ρ' A else B) → acc.length + xs.length ≤ sizeLine → Q (acc ++ xs.map f) → compT g tt te ρ xs acc Q
  | [], acc, _, _, q => by
    rw [List.map_nil, List.append_nil] at q
    exact q
  | x :: xs, acc, h, hl, q => by
    rw [List.length_cons] at hl
    refine h x _ _ (List.mem_cons_self ..) ⟨by omega, compT_mapA f Q xs (acc ++ [f x]) (fun d A B hd => h d A B (List.mem_cons_of_mem _ hd)) (by rw [List.length_append, List.length_singleton]; omega) ?_⟩
    rw [List.append_assoc]
    exact q
/-- two clauses: each outer item gives a row -/
theorem compT2_flat {g : TGd} {tt : TX Bool} {it1 : TX (List D)} {g1 : TGd} {tt1 : TX Bool} {te : TX D} {vs1 : List Nat} {ρ : Ev} (Fn : D → List D) (Q : List D → Prop) : ∀ (xs acc : List D),
    (∀ (d : D) (acc : List D) (B : List D → Prop) (B' : Prop), d ∈ xs → acc.length + (Fn d).length ≤ sizeLine → B (acc ++ Fn d) → g d ρ fun ρ' => tt ρ' fun k => if k = true then it1 ρ' fun ys => compT g1 tt1 te (wipeE ρ' vs1) ys acc B else B') →
    acc.length + (xs.flatMap Fn).length ≤ sizeLine → Q (acc ++ xs.flatMap Fn) → compT2 g tt it1 g1 tt1 te vs1 ρ xs acc Q
  | [], acc, _, _, q => by
    rw [List.flatMap_nil, List.append_nil] at q
    exact q
  | x :: xs, acc, h, hl, q => by
    rw [List.flatMap_cons, List.length_append] at hl
    refine h x acc _ _ (List.mem_cons_self ..) (by omega) (compT2_flat Fn Q xs (acc ++ Fn x) (fun d acc B B' hd => h d acc B B' (List.mem_cons_of_mem _ hd)) (by rw [List.length_append]; omega) ?_)
    rw [List.append_assoc]
    exact q
theorem range_all {α : Type} (p : α → Bool) (z : α) (l : List α) : ((List.range l.length).all fun i => p (l.getD i z)) = l.all p := by
  rw [Bool.eq_iff_iff, List.all_eq_true, List.all_eq_true]
  constructor
  · intro h x hx
    obtain ⟨i, hi, e⟩ := List.getElem_of_mem hx
    have := h i (List.mem_range.mpr hi)
    rw [List.getD_eq_getElem?_getD, List.getElem?_eq_getElem hi, Option.getD_some, e] at this
    exact this
  · intro h i hi
    have hi := List.mem_range.mp hi
    rw [List.getD_eq_getElem?_getD, List.getElem?_eq_getElem hi, Option.getD_some]
    exact h _ (List.getElem_mem hi)
theorem range_any {α : Type} (p : α → Bool) (z : α) (l : List α) : ((List.range l.length).any fun i => p (l.getD i z)) = l.any p := by
  rw [Bool.eq_iff_iff, List.any_eq_true, List.any_eq_true]
  constructor
  · intro ⟨i, hi, h⟩
    have hi := List.mem_range.mp hi
    rw [List.getD_eq_getElem?_getD, List.getElem?_eq_getElem hi, Option.getD_some] at h
    exact ⟨_, List.getElem_mem hi, h⟩
  · intro ⟨x, hx, h⟩
    obtain ⟨i, hi, e⟩ := List.getElem_of_mem hx
    refine ⟨i, List.mem_range.mpr hi, ?_⟩
    rw [List.getD_eq_getElem?_getD, List.getElem?_eq_getElem hi, Option.getD_some, e]
    exact h
theorem getD_some {α : Type} {l : List α} {i : Nat} {x z : α} (h : l[i]? = some x) : l.getD i z = x := by rw [List.getD_eq_getElem?_getD, h] <;> rfl
/-! == of lists of ints -/
theorem eqvAll_ints : ∀ l m : List Int, PyData.eqvAll (l.map .int) (m.map .int) = decide (l = m)
  | [], [] => rfl
  | [], _ :: _ => rfl
  | _ :: _, [] => rfl
  | a :: l, b :: m => by
    rw [List.map_cons, List.map_cons, PyData.eqvAll, eqvAll_ints l m, PyData.eqv]
    by_cases h : a = b
    · by_cases h2 : l = m <;> simp [h, h2]
    · simp [h]
theorem canLay_ints : ∀ l : List Int, PyData.canLayAll0 (l.map .int) = true
  | [] => rfl
  | a :: l => by
    rw [List.map_cons, PyData.canLayAll0, canLay_ints l]
    rfl
theorem depth_ints : ∀ l : List Int, PyData.depthAll (l.map .int) ≤ 1
  | [] => by decide
  | a :: l => by
    have := depth_ints l
    rw [List.map_cons, PyData.depthAll]
    have h0 : PyData.depth (.int a) ≤ 1 := by simp [PyData.depth]
    omega
theorem shaped_ints (l : List Int) : SeqAt.shaped (.list (l.map .int)) = true := by
  unfold SeqAt.shaped
  rw [show PyData.canLay0 (.list (l.map .int)) = true from canLay_ints l, Bool.true_and]
  have := depth_ints l
  simp [PyData.depth]
  omega
theorem filter_nil {α : Type} (p : α → Bool) (l : List α) : decide (l.filter p = []) = l.all fun x => !p x := by
  rw [Bool.eq_iff_iff, decide_eq_true_eq, List.filter_eq_nil_iff, List.all_eq_true]
  constructor
  · intro h x hx
    simpa using h x hx
  · intro h x hx
    simpa using h x hx
/-! readings introduced -/
section
variable {α : Type} {ρ : Ev} {P : Es} {i : Nat}
theorem xC_to {d : α} {Q : α → Prop} (q : Q d) : xC d ρ Q := q
theorem xV_to {d : D} {Q : D → Prop} (h : ρ[i]? = some (some (.imm d))) (q : Q d) : xV i ρ Q := by
  unfold xV
  rw [h]
  exact q
theorem seqIx_to {d : D} {xs : List D} (i : Nat) {x : D} {Q : D → Prop} (hd : d = .tuple xs) (h : xs[i]? = some x) (q : Q x) : seqOf d (fun y => xC (PyData.int ((i : Nat) : Int)) ρ fun z => rdIx y z Q) := by
  subst hd
  exact ixTo (atI_nat h) q
theorem app_to {ta : TX D} {xs : List D} (h0 : ρ[i]? = some (some (.own (.lst xs)))) (h : ta ρ fun d => xs.length < sizeLine ∧ P.nx (ρ.set i (some (.own (.lst (xs ++ [d])))))) : zAppG i ta P ρ := by
  unfold zAppG ownL
  rw [h0]
  exact h
theorem tup2_to {t1 t2 : TX D} {a : D} {Q : D → Prop} (h1 : ∀ Q : D → Prop, Q a → t1 ρ Q) (h2 : t2 ρ fun b => 2 ≤ sizeLine ∧ Q (.tuple [a, b])) : xTup (xCons t1 (xCons t2 (xC []))) ρ Q := h1 _ h2
theorem xif_T {s : TX Bool} {t u : TX α} {Q : α → Prop} (h : ∀ Q : Bool → Prop, Q true → s ρ Q) (q : t ρ Q) : xIf s t u ρ Q := h _ (iteT q)
theorem xif_F {s : TX Bool} {t u : TX α} {Q : α → Prop} (h : ∀ Q : Bool → Prop, Q false → s ρ Q) (q : u ρ Q) : xIf s t u ρ Q := h _ (iteF q)
theorem andV_F {s t : TX D} {Q : D → Prop} (h : ∀ Q : D → Prop, Q (.bool false) → s ρ Q) (q : Q (.bool false)) : xAndV s t ρ Q := h _ (show if false = true then t ρ Q else Q (.bool false) from iteF q)
theorem andV_T {s t : TX D} {Q : D → Prop} (h : ∀ Q : D → Prop, Q (.bool true) → s ρ Q) (q : t ρ Q) : xAndV s t ρ Q := h _ (show if true = true then t ρ Q else Q (.bool true) from iteT q)
theorem orV_T {s t : TX D} {Q : D → Prop} (h : ∀ Q : D → Prop, Q (.bool true) → s ρ Q) (q : Q (.bool true)) : xOrV s t ρ Q := h _ (show if true = true then Q (.bool true) else t ρ Q from iteT q)
theorem orV_F {s t : TX D} {Q : D → Prop} (h : ∀ Q : D → Prop, Q (.bool false) → s ρ Q) (q : t ρ Q) : xOrV s t ρ Q := h _ (show if false = true then Q (.bool false) else t ρ Q from iteF q)
theorem eqSV_to {x y : Str} {b : Bool} {Q : D → Prop} (h : ρ[i]? = some (some (.imm (.str x)))) (e : decide (x = y) = b) (q : Q (.bool b)) : xBin (rdEqP false) (xV i) (xC (.str y)) ρ Q := by
  unfold xBin
  refine xV_to h ?_
  show Q (.bool (decide (x = y)))
  rw [e]
  exact q
theorem eqS_to {x y : Str} {b : Bool} {Q : Bool → Prop} (h : ρ[i]? = some (some (.imm (.str x)))) (e : decide (x = y) = b) (q : Q b) : xB (xBin (rdEqP false) (xV i) (xC (.str y))) ρ Q := by
  unfold xB xBin
  refine xV_to h ?_
  show Q (decide (x = y))
  rw [e]
  exact q
end
/-- b.toInt as Python reckons it -/
def btoi (b : Bool) : Int := if b = true then 1 else 0
end PL
set_option Elab.async false
set_option linter.all false
set_option maxRecDepth 100000
set_option maxHeartbeats 4000000
/-! the start of a law of the second family: its drawing state at p, tables of code objects at Ps -/
namespace PL
open PySem PySem.Spec PyProof.Rows L2
def stJ (p : Addr) (Ps : List Addr) (H : Hp) : Prop := (∃ k v : Int, 0 ≤ k ∧ 0 ≤ v ∧ H p = some (.lst [.int k, .int v])) ∧ ∀ q ∈ Ps, GxR.TabG H q
noncomputable def stF (p : Addr) (Ps : List Addr) (H : Hp) : Hp := fun b => open Classical in if b = p ∨ b ∈ Ps then none else H b
noncomputable def entOf (p : Addr) (Ps : List Addr) (H : Hp) : Ent := ⟨⟨fun b => b = p ∨ b ∈ Ps, stJ p Ps⟩, stF p Ps H, upd H p (.lst [.int 0, .int 0])⟩
section
variable {K : PySem.W.Frag} {H : Hp} {p a : Addr} {Ps : List Addr} {ns : List Int}
theorem stF_some {b : Addr} {o : HO} (h : stF p Ps H b = some o) : ¬ (b = p ∨ b ∈ Ps) ∧ H b = some o := by
  unfold stF at h
  by_cases z : b = p ∨ b ∈ Ps
  · rw [if_pos z] at h
    cases h
  · rw [if_neg z] at h
    exact ⟨z, h⟩
theorem stF_at {b : Addr} (z : ¬ (b = p ∨ b ∈ Ps)) : stF p Ps H b = H b := by
  unfold stF
  rw [if_neg z]
theorem start_law (hp : H p = none) (hT : ∀ q ∈ Ps, H q = some (.tbl #[])) (hs : SqL K H a (ns.map V.int)) (n : Nat) :
    Rp K (entOf p Ps H) (some (.imm (.list (ns.map .int))) :: some (.raw (.ref p)) :: List.replicate n none) (stF p Ps H) (some (.ref a) :: some (.ref p) :: List.replicate n none) (upd H p (.lst [.int 0, .int 0])) := by
  have noT : ∀ {b : Addr} {o : HO}, H b = some o → (∀ ps, o ≠ .tbl ps) → ¬ (b = p ∨ b ∈ Ps) := fun {b o} h1 h2 z => by
    rcases z with z | z
    · rw [z, hp] at h1
      cases h1
    · rw [hT b z] at h1
      exact h2 _ (Option.some.inj h1).symm
  have ok : (entOf p Ps H).toDl.Ok (stF p Ps H) (upd H p (.lst [.int 0, .int 0])) := ⟨fun b o h => by
      obtain ⟨h1, h2⟩ := stF_some h
      rw [upd_ne (fun z => h1 (.inl z))]
      exact h2, fun b m => ⟨by
      unfold stF
      rw [if_pos (show b = p ∨ b ∈ Ps from m)], by
      by_cases z : b = p
      · exact ⟨_, by rw [z, upd_same]⟩
      · rcases m with m | m
        · exact absurd m z
        · exact ⟨_, by rw [upd_ne z]; exact hT b m⟩⟩, ⟨⟨0, 0, by decide, by decide, upd_same⟩, fun q hq => ⟨#[], by
      rw [upd_ne (fun z => by rw [z] at hq; have := hT p hq; rw [hp] at this; cases this)]
      exact hT q hq, trivial⟩⟩⟩
  have hs' : SqL K (stF p Ps H) a (ns.map V.int) := by
    rcases hs with (h | ⟨o, h⟩) | h
    · exact .inl (.inl (by rw [stF_at (noT h fun _ z => nomatch z)]; exact h))
    · exact .inl (.inr ⟨o, by rw [stF_at (noT h fun _ z => nomatch z)]; exact h⟩)
    · exact .inr h
  have allI : ∀ l : List Int, DpAll K (stF p Ps H) (l.map V.int) (l.map .int) := fun l => by
    induction l with
    | nil => exact .nil
    | cons x l ih => exact .cons (.int x) ih
  have nn : ∀ (i : Nat) (x : PV), (List.replicate n (none : Option PV))[i]? ≠ some (some x) := fun i x h => by
    rw [List.getElem?_replicate] at h
    split at h <;> cases h
  refine ⟨by simp, ok, .refl ok, fun H1 H2 j h => ⟨?_, fun q hq => ?_⟩, fun i x h => ?_, fun i j x y b hij hx => ?_⟩
  · obtain ⟨⟨k, v, h1, h2, h3⟩, _⟩ := j
    exact ⟨k, v, h1, h2, by rw [h p (.inl rfl)]; exact h3⟩
  · obtain ⟨ps, h1, h2⟩ := j.2 q hq
    exact ⟨ps, by rw [h q (.inr hq)]; exact h1, h2⟩
  · match i with
    | 0 =>
      cases h
      exact ⟨_, rfl, Dp.lst hs' (allI ns)⟩
    | 1 =>
      cases h
      exact ⟨_, rfl, rfl⟩
    | i + 2 => exact absurd h (nn i x)
  · match i with
    | 0 => cases hx
    | 1 => cases hx
    | i + 2 => exact absurd hx (nn i _)
theorem start_st (hT : p ∉ Ps) : StIn (entOf p Ps H).toDl p where
  m := .inl rfl
  at_ := fun H' j => j.1
  put := fun H' k v j k0 v0 => ⟨⟨k, v, k0, v0, upd_same⟩, fun q hq => by
    obtain ⟨ps, h1, h2⟩ := j.2 q hq
    exact ⟨ps, by rw [upd_ne (fun z => hT (by rw [← z]; exact hq))]; exact h1, h2⟩⟩
theorem start_tab {q : Addr} (hT : p ∉ Ps) (hq : q ∈ Ps) : TabIn (entOf p Ps H).toDl q where
  m := .inr hq
  at_ := fun H' j => j.2 q hq
  put := fun H1 H2 j t => ⟨by
    obtain ⟨k, v, h1, h2, h3⟩ := j.1
    exact ⟨k, v, h1, h2, by rw [t.2 p (fun z => hT (by rw [z]; exact hq))]; exact h3⟩, fun r hr => by
    by_cases z : r = q
    · rw [z]
      exact t.1
    · obtain ⟨ps, h1, h2⟩ := j.2 r hr
      exact ⟨ps, by rw [t.2 r z]; exact h1, h2⟩⟩
/-- what the law has to tell: True -/
abbrev lawEs : Es := { nx := fun _ => False, rt := fun pv => pv = .imm (.bool true) }
theorem lawLk {e : Ent} {F : Hp} {Dd : Ends} (h : ∀ H, Dd.rt (.bl true) H) : Lk K e F lawEs Dd := ⟨fun _ _ _ _ _ _ z => z.elim, fun pv v F' H' r z => by
  subst z
  have d : Dp K F' v (.bool true) := r.2
  cases d
  exact h H', fun _ _ _ _ _ _ z => z.elim, fun _ _ _ _ _ _ z => z.elim⟩
end
end PL
set_option Elab.async false
set_option linter.all false
set_option maxRecDepth 100000
set_option maxHeartbeats 4000000
set_option pp.maxSteps 400
namespace K73
open PySem PySem.Spec PyProof.Rows L2 PL
def topS (i : Nat) : Stmt := PySem.Challenge.pw_stagesworn_k73_whole_collector.main.body.getD i (.Pass ⟨0, 0, 0, 0⟩)
-- first_word: topS 2; slots [(0, 'sort'), (1, 'size'), (2, 'bits')]; own []
abbrev s_first_word : Stmt := topS 2
abbrev N_first_word : List Str := ["sort", "size", "bits"]
theorem sc_first_word : FnScope N_first_word ["sort", "size", "bits"] (defScope s_first_word) := ⟨rfl, rfl, rfl, by decide +kernel, rfl, by decide +kernel, by decide +kernel⟩
-- thing_size: topS 3; slots [(0, 'word')]; own []
abbrev s_thing_size : Stmt := topS 3
abbrev N_thing_size : List Str := ["word"]
theorem sc_thing_size : FnScope N_thing_size ["word"] (defScope s_thing_size) := ⟨rfl, rfl, rfl, by decide +kernel, rfl, by decide +kernel, by decide +kernel⟩
-- pointer_places: topS 4; slots [(0, 'word'), (1, 'size'), (2, 'bits'), (3, 'told'), (4, 'at')]; own ['told']
abbrev s_pointer_places : Stmt := topS 4
abbrev N_pointer_places : List Str := ["word", "size", "bits", "told", "at"]
theorem sc_pointer_places : FnScope N_pointer_places ["word"] (defScope s_pointer_places) := ⟨rfl, rfl, rfl, by decide +kernel, rfl, by decide +kernel, by decide +kernel⟩
-- is_first_word: topS 8; slots [(0, 'word'), (1, 'size'), (2, 'bits')]; own []
abbrev s_is_first_word : Stmt := topS 8
abbrev N_is_first_word : List Str := ["word", "size", "bits"]
theorem sc_is_first_word : FnScope N_is_first_word ["word"] (defScope s_is_first_word) := ⟨rfl, rfl, rfl, by decide +kernel, rfl, by decide +kernel, by decide +kernel⟩
section
variable {P : Program} {w : World} {K : PySem.W.Frag} {mg : Str → Option Value} {base : Heap} {f : Addr} {fd : FuncData} {tM : Tok}
def tfFirst : PF := fun _ pvs Q => ∃ a b c : Int, pvs = [.imm (.int a), .imm (.int b), .imm (.int c)] ∧ Q (.imm (.int (a + 4 * b + 4000000 * c)))
theorem M_first_word : MonoF tfFirst := fun _ _ _ _ h ⟨a, b, c, e, q⟩ => ⟨a, b, c, e, h _ q⟩
theorem ok_first_word (F : Fun K "first_word" "first_word" s_first_word f fd) (g_MOST : mg "MOST" = some (.int 1000000 tM)) : FnOk P w K mg base CX0 1 f fd ["sort", "size", "bits"] (Prm K tfFirst) := by
  refine okP F sc_first_word (fun _ _ _ ⟨_, _, _, e, _⟩ => by rw [e] <;> rfl) fun cdv A outer s H E e hr => ?_
  refine ⟨_, (zs_one (z_ret kvD (pd_add (pd_add (pd_v (pv 0)) (pd_mul pd_int (pd_v (pv 1)))) (pd_mul (pd_mul pd_int (pd_k (pe_glob (v := .int 1000000) rfl g_MOST ⟨tM, rfl⟩) (fun _ => .int _))) (pd_v (pv 2)))))), ?_⟩
  rintro pvs Q ⟨a, b, c, rfl, q⟩
  exact ⟨.inl (by decide), .inl (by decide), .inl (by decide), q⟩
def sizeW (w : Int) : Int := w / 4 % 1000000
def thingW (w : Int) : Int := 1 + sizeW w + (if w % 4 = 2 then 1 else 0)
def tfThing : PF := fun _ pvs Q => ∃ a : Int, pvs = [.imm (.int a)] ∧ Q (.imm (.int (thingW a)))
theorem M_thing_size : MonoF tfThing := fun _ _ _ _ h ⟨a, e, q⟩ => ⟨a, e, h _ q⟩
theorem ok_thing_size (F : Fun K "thing_size" "thing_size" s_thing_size f fd) (g_MOST : mg "MOST" = some (.int 1000000 tM)) (m_int : mg "int" = none) : FnOk P w K mg base CX0 1 f fd ["word"] (Prm K tfThing) := by
  refine okP F sc_thing_size (fun _ _ _ ⟨_, e, _⟩ => by rw [e] <;> rfl) fun cdv A outer s H E e hr => ?_
  refine ⟨_, (zs_one (z_ret kvD (pd_add (pd_add pd_int (pd_mod (pd_fdiv (pd_v (pv 0)) pd_int) (pd_k (pe_glob (v := .int 1000000) rfl g_MOST ⟨tM, rfl⟩) (fun _ => .int _)))) (pd_toInt (by rfl) m_int (pd_c (pc_eq (pd_mod (pd_v (pv 0)) pd_int) pd_int) (nomark _)))))), ?_⟩
  rintro pvs Q ⟨a, rfl, q⟩
  refine ⟨⟨by decide, by decide⟩, cm (by decide), cm (by decide), ?_⟩
  show Q (.imm (.int (1 + a / 4 % 1000000 + (if decide (a % 4 = 2) = true then 1 else 0))))
  unfold thingW sizeW at q
  simpa using q
/-- the places of pointers -/
def bitsFrom : Nat → Int → Int → List Int
  | 0, _, _ => []
  | n + 1, k, b => (if b % 2 = 1 then [2 + k] else []) ++ bitsFrom n (k + 1) (b / 2)
def ptrs (w : Int) : List Int := if w % 4 = 2 then bitsFrom (sizeW w).toNat 0 (w / 4000000) else if w % 4 = 1 then (List.range (sizeW w).toNat).map (fun i => 1 + (i : Nat)) else []
def intsP (l : List Int) : List D := l.map .int
def tfPtrs : PF := fun _ pvs Q => ∃ a : Int, pvs = [.imm (.int a)] ∧ Q (.own (.lst (intsP (ptrs a))))
theorem M_pointer_places : MonoF tfPtrs := fun _ _ _ _ h ⟨a, e, q⟩ => ⟨a, e, h _ q⟩
theorem sizeW_bd (a : Int) : 0 ≤ sizeW a ∧ sizeW a < 1000000 := ⟨Int.emod_nonneg _ (by decide), Int.emod_lt_of_pos _ (by decide)⟩
theorem bitsFrom_app (n : Nat) : ∀ (m : Nat) (k b : Int), bitsFrom (n + m) k b = bitsFrom n k b ++ bitsFrom m (k + n) (b / 2 ^ n) := by
  induction n with
  | zero => intro m k b; simp [bitsFrom]
  | succ n ih =>
    intro m k b
    rw [show n + 1 + m = (n + m) + 1 by omega, bitsFrom, bitsFrom, ih, List.append_assoc]
    congr 2
    congr 1
    · push_cast; omega
    · rw [Int.ediv_ediv_of_nonneg (by decide), Int.pow_succ, Int.mul_comm]
theorem bitsFrom_len : ∀ (n : Nat) (k b : Int), (bitsFrom n k b).length ≤ n
  | 0, _, _ => Nat.le_refl _
  | n + 1, k, b => by
    have := bitsFrom_len n (k + 1) (b / 2)
    rw [bitsFrom, List.length_append]
    split <;> simp <;> omega
theorem ok_pointer_places (F : Fun K "pointer_places" "pointer_places" s_pointer_places f fd) (g_MOST : mg "MOST" = some (.int 1000000 tM)) (m_range : mg "range" = none) (m_list : mg "list" = none) : FnOk P w K mg base CX0 1 f fd ["word"] (Prm K tfPtrs) := by
  refine okP F sc_pointer_places (fun _ _ _ ⟨_, e, _⟩ => by rw [e] <;> rfl) fun cdv A outer s H E e hr => ?_
  refine ⟨_, (zs_cons (z_par (i := 1) (j := 2) kvD kvD (by rfl) sc_pointer_places.nd rfl rfl (by decide) rfl rfl (pd_mod (pd_fdiv (pd_v (pv 0)) pd_int) (pd_k (pe_glob (v := .int 1000000) rfl g_MOST ⟨tM, rfl⟩) (fun _ => .int _))) (pd_fdivW (pd_v (pv 0)) (pd_mul pd_int (pd_k (pe_glob (v := .int 1000000) rfl g_MOST ⟨tM, rfl⟩) (fun _ => .int _)))) (by rfl))
  (zs_cons (z_if (pb_c (pc_eq (pd_mod (pd_v (pv 0)) pd_int) pd_int) (nomark _))
    (zs_cons (z_set (i := 3) kvN sc_pointer_places.nd rfl (.inl rfl) (pn_lst pad_nil))
    (zs_cons (z_for PassesOwn.never rfl (pi_r1 (by rfl) m_range (pd_v (pv 1))) (y_name (pg_name (i := 4) sc_pointer_places.nd rfl (.inl rfl)))
      (zs_cons (z_if (pb_c (pc_eq (pd_mod (pd_v (pv 2)) pd_int) pd_int) (nomark _))
        (zs_one (z_app (pv 3) (pd_add pd_int (pd_v (pv 4)))))
        zs_nil)
      (zs_one (z_set (i := 2) kvD sc_pointer_places.nd rfl (.inl rfl) (pd_fdiv (pd_v (pv 2)) pd_int)))))
    (zs_one (z_retO (pv 3)))))
    zs_nil)
  (zs_one (z_ret kvN (px_if (pb_c (pc_eq (pd_mod (pd_v (pv 0)) pd_int) pd_int) (nomark _)) (pn_listRg2 rfl (by rfl) m_list (by rfl) m_range pd_int (pd_add pd_int (pd_v (pv 1)))) (pn_lst pad_nil)))))), ?_⟩
  rintro pvs Q ⟨a, rfl, q⟩
  obtain ⟨b1, b2⟩ := sizeW_bd a
  refine ⟨⟨by decide, by decide⟩, cm (by decide), .inl (by decide), ⟨by decide, by decide +kernel⟩, cm (by decide), ?_⟩
  refine ifD (fun z => ?_) fun z => ?_
  · refine ⟨by decide, ⟨⟨by omega, by omega⟩, ?_⟩⟩
    unfold ptrs at q
    rw [if_pos z] at q
    refine forT_by (fun i ρ => ∃ s4, ρ = [some (.imm (.int a)), some (.imm (.int (a / 4 % 1000000))), some (.imm (.int (a / 4000000 / 2 ^ i))), some (.own (.lst (intsP (bitsFrom i 0 (a / 4000000))))), s4]) _ _ ⟨none, by simp [intsP, bitsFrom]; rfl⟩ (fun i d ρ R hd h hR => ?_) fun ρ h => ?_
    · obtain ⟨s4, rfl⟩ := h
      obtain ⟨hi, rfl⟩ := intsD_get hd
      have hb := bitsFrom_app i 1 0 (a / 4000000)
      have e2 : a / 4000000 / 2 ^ (i + 1) = a / 4000000 / 2 ^ i / 2 := by
        rw [Int.pow_succ, Int.ediv_ediv_of_nonneg (Int.pow_nonneg (by decide))]
      refine ⟨cm (by decide), ?_⟩
      refine ifD (fun y => ?_) fun y => ?_
      · refine ⟨lineL (by
          show (intsP (bitsFrom i 0 (a / 4000000))).length < _
          have := bitsFrom_len i 0 (a / 4000000)
          unfold intsP
          rw [List.length_map]
          have hs : sizeW a = a / 4 % 1000000 := rfl
          omega), ⟨by decide, by decide⟩, hR _ ⟨some (.imm (.int (0 + (i : Nat)))), ?_⟩⟩
        rw [e2, hb]
        simp [bitsFrom, y, intsP]
      · refine ⟨⟨by decide, by decide⟩, hR _ ⟨some (.imm (.int (0 + (i : Nat)))), ?_⟩⟩
        rw [e2, hb]
        simp [bitsFrom, y, intsP]
    · obtain ⟨s4, rfl⟩ := h
      rw [intsD_len]
      exact q
  · unfold ptrs at q
    rw [if_neg z] at q
    refine ⟨cm (by decide), ifD (fun y => ?_) fun y => ?_⟩
    · rw [if_pos y] at q
      have hs : sizeW a = a / 4 % 1000000 := rfl
      refine ⟨RgOk.of_le (by decide) (by omega) (by decide) (by omega), ?_⟩
      have e : intsD 1 (1 + a / 4 % 1000000 - 1).toNat = intsP ((List.range (sizeW a).toNat).map fun i => 1 + (i : Nat)) := by
        unfold intsD intsP
        rw [List.map_map, hs, show 1 + a / 4 % 1000000 - 1 = a / 4 % 1000000 by omega]
        rfl
      show Q (.own (.lst (intsD 1 (1 + a / 4 % 1000000 - 1).toNat)))
      rw [e]
      exact q
    · rw [if_neg y] at q
      exact ⟨by decide, q⟩
/-- is_first_word -/
def firstOk (w : Int) : Bool := if w < 0 ∨ w % 4 = 3 then false else if w % 4 ≠ 2 then decide (w / 4000000 = 0) else decide (w / 4000000 / 2 ^ (sizeW w).toNat = 0)
def tfIsFirst : PF := fun _ pvs Q => ∃ a : Int, pvs = [.imm (.int a)] ∧ Q (.imm (.bool (firstOk a)))
theorem M_is_first_word : MonoF tfIsFirst := fun _ _ _ _ h ⟨a, e, q⟩ => ⟨a, e, h _ q⟩
theorem ok_is_first_word (F : Fun K "is_first_word" "is_first_word" s_is_first_word f fd) (g_MOST : mg "MOST" = some (.int 1000000 tM)) : FnOk P w K mg base CX0 1 f fd ["word"] (Prm K tfIsFirst) := by
  refine okP F sc_is_first_word (fun _ _ _ ⟨_, e, _⟩ => by rw [e] <;> rfl) fun cdv A outer s H E e hr => ?_
  refine ⟨_, (zs_cons (z_par (i := 1) (j := 2) kvD kvD (by rfl) sc_is_first_word.nd rfl rfl (by decide) rfl rfl (pd_mod (pd_fdiv (pd_v (pv 0)) pd_int) (pd_k (pe_glob (v := .int 1000000) rfl g_MOST ⟨tM, rfl⟩) (fun _ => .int _))) (pd_fdivW (pd_v (pv 0)) (pd_mul pd_int (pd_k (pe_glob (v := .int 1000000) rfl g_MOST ⟨tM, rfl⟩) (fun _ => .int _)))) (by rfl))
  (zs_cons (z_if (pb_w (pw_o (pb_c (pc_lt (pd_v (pv 0)) pd_int) (nomark _)) (pw_o1 (pb_c (pc_eq (pd_mod (pd_v (pv 0)) pd_int) pd_int) (nomark _)))))
    (zs_one (z_ret kvD pd_bl))
    zs_nil)
  (zs_one (z_ret kvD (px_if (pb_c (pc_ne (pd_mod (pd_v (pv 0)) pd_int) pd_int) (nomark _)) (pd_c (pc_eq (pd_v (pv 2)) pd_int) (nomark _)) (pd_c (pc_eq (pd_shr (pd_v (pv 2)) (pd_v (pv 1))) pd_int) (nomark _))))))), ?_⟩
  rintro pvs Q ⟨a, rfl, q⟩
  obtain ⟨b1, b2⟩ := sizeW_bd a
  unfold firstOk at q
  refine ⟨⟨by decide, by decide⟩, cm (by decide), .inl (by decide), ⟨by decide, by decide +kernel⟩, ifD (fun z => ?_) fun z => ⟨cm (by decide), ifD (fun y => ?_) fun y => ?_⟩⟩
  · rw [if_pos (.inl z)] at q
    exact q
  · rw [if_pos (.inr y)] at q
    exact q
  · rw [if_neg (fun h => h.elim z y)] at q
    refine ⟨cm (by decide), ifN (fun x => ?_) fun x => ?_⟩
    · rw [if_pos x] at q
      exact q
    · rw [if_neg (fun h => h x)] at q
      exact ⟨csh b1, q⟩
end
end K73
set_option Elab.async false
set_option linter.all false
set_option maxRecDepth 100000
set_option maxHeartbeats 4000000
set_option pp.maxSteps 400
namespace K73
open PySem PySem.Spec PyProof.Rows L2 PL
-- reached: topS 5; slots [(0, 'words'), (1, 'roots'), (2, 'told'), (3, 'seen'), (4, 'at'), (5, 'here'), (6, 'place'), (7, 'other')]; own ['seen', 'told']
abbrev s_reached : Stmt := topS 5
abbrev N_reached : List Str := ["words", "roots", "told", "seen", "at", "here", "place", "other"]
theorem sc_reached : FnScope N_reached ["words", "roots"] (defScope s_reached) := ⟨rfl, rfl, rfl, by decide +kernel, rfl, by decide +kernel, by decide +kernel⟩
/-! ### what is reached -/
def wAt (ws : List Int) (a : Int) : Int := ws.getD a.toNat 0
def succW (ws : List Int) (a : Int) : List Int := (ptrs (wAt ws a)).map fun p => wAt ws (a + p)
def pushI (told : List Int) (o : Int) : List Int := if 0 ≤ o ∧ o ∉ told then told ++ [o] else told
def bfs (succ : Int → List Int) : Nat → List Int → Nat → List Int
  | 0, told, _ => told
  | n + 1, told, here => match told[here]? with
    | some a => bfs succ n ((succ a).foldl pushI told) (here + 1)
    | none => told
structure Closed (ws A : List Int) : Prop where
  at_ : ∀ a ∈ A, 0 ≤ a ∧ a < ws.length
  ptr : ∀ a ∈ A, ∀ p ∈ ptrs (wAt ws a), 0 ≤ p ∧ a + p < ws.length ∧ (0 ≤ wAt ws (a + p) → wAt ws (a + p) ∈ A)
/-- A told row: each once, all of A -/
structure Told (A told : List Int) : Prop where
  nd : told.Nodup
  sub : ∀ a ∈ told, a ∈ A
theorem Told.push {A told : List Int} {o : Int} (h : Told A told) (ho : 0 ≤ o → o ∈ A) : Told A (pushI told o) := by
  unfold pushI
  split
  · rename_i z
    refine ⟨?_, fun a ha => ?_⟩
    · rw [List.nodup_append]
      exact ⟨h.nd, by simp, fun a ha b hb => by
        rw [List.mem_singleton.mp hb]
        intro e
        rw [e] at ha
        exact z.2 ha⟩
    · rcases List.mem_append.mp ha with q | q
      · exact h.sub a q
      · rw [List.mem_singleton.mp q]
        exact ho z.1
  · exact h
theorem Told.pushes {A : List Int} : ∀ (os told : List Int), Told A told → (∀ o ∈ os, 0 ≤ o → o ∈ A) → Told A (os.foldl pushI told)
  | [], _, h, _ => h
  | o :: os, told, h, ho => Told.pushes os _ (h.push (ho o (List.mem_cons_self ..))) fun x hx => ho x (List.mem_cons_of_mem _ hx)
theorem nodup_len {A told : List Int} (h : Told A told) : told.length ≤ A.length := by
  have key : ∀ (told A : List Int), told.Nodup → (∀ a ∈ told, a ∈ A) → told.length ≤ A.length := fun told => by
    induction told with
    | nil => intro A _ _; exact Nat.zero_le _
    | cons x t ih =>
      intro A hn hs
      rw [List.nodup_cons] at hn
      have hx := hs x (List.mem_cons_self ..)
      have := ih (A.erase x) hn.2 fun a ha => (List.mem_erase_of_ne (fun e => hn.1 (by rw [← e]; exact ha))).mpr (hs a (List.mem_cons_of_mem _ ha))
      rw [List.length_erase_of_mem hx] at this
      have := List.length_pos_of_mem hx
      simp
      omega
  exact key told A h.nd h.sub
def seenOf (told : List Int) : List (Key × D) := told.map fun a => (Sum.inl a, PyData.bool true)
theorem seen_val (o : Int) : ∀ told : List Int, (valD (seenOf told) (Sum.inl o)).isSome = decide (o ∈ told)
  | [] => by simp [seenOf, valD]
  | x :: t => by
    have ih := seen_val o t
    by_cases h : x = o
    · subst h
      simp [seenOf, valD]
    · have hk : ¬ ((Sum.inl x : Key) = Sum.inl o) := fun e => h (Sum.inl.inj e)
      have : valD (seenOf (x :: t)) (Sum.inl o) = valD (seenOf t) (Sum.inl o) := by
        simp [seenOf, valD, List.find?_cons, h]
      rw [this, ih]
      simp [Ne.symm h]
theorem seen_put {o : Int} {told : List Int} (h : o ∉ told) : putD (seenOf told) (Sum.inl o) (.bool true) = seenOf (told ++ [o]) := by
  unfold putD
  have : ((seenOf told).any fun kv => decide (kv.1 = Sum.inl o)) = false := by
    rw [List.any_eq_false]
    intro kv hkv
    unfold seenOf at hkv
    obtain ⟨a, ha, rfl⟩ := List.mem_map.mp hkv
    simp
    intro e
    subst e
    exact h ha
  rw [if_neg (by rw [this]; decide)]
  simp [seenOf]
theorem intsP_app (a b : List Int) : intsP (a ++ b) = intsP a ++ intsP b := by simp [intsP]
theorem intsP_len (a : List Int) : (intsP a).length = a.length := by simp [intsP]
theorem intsP_get {a : List Int} {i : Nat} {d : D} (h : (intsP a)[i]? = some d) : ∃ x, a[i]? = some x ∧ d = .int x := by
  unfold intsP at h
  rw [List.getElem?_map] at h
  obtain ⟨x, h1, h2⟩ := Option.map_eq_some_iff.mp h
  exact ⟨x, h1, h2.symm⟩
theorem atI_ints {ws : List Int} {a : Int} (h0 : 0 ≤ a) (h1 : a < ws.length) : atI (intsP ws) a = some (.int (wAt ws a)) := by
  obtain ⟨j, rfl⟩ : ∃ j : Nat, a = (j : Int) := ⟨a.toNat, by omega⟩
  have hj : j < ws.length := by omega
  refine atI_nat ?_
  unfold intsP wAt
  rw [List.getElem?_map]
  simp [hj]
def toldR (roots : List Int) (i : Nat) : List Int := (roots.take i).foldl pushI []
theorem toldR_succ {roots : List Int} {i : Nat} {x : Int} (h : roots[i]? = some x) : toldR roots (i + 1) = pushI (toldR roots i) x := by
  unfold toldR
  rw [List.take_add_one, h, List.foldl_append] <;> rfl
/-- words as a list or a tuple -/
def seqD (b : Bool) (ws : List Int) : D := if b = true then .tuple (intsP ws) else .list (intsP ws)
theorem seqTo {b : Bool} {ws : List Int} {Q : Bool × List D → Prop} (q : Q (b, intsP ws)) : seqOf (seqD b ws) Q := by
  cases b with
  | true => exact q
  | false => exact q
section
variable {P : Program} {w : World} {K : PySem.W.Frag} {mg : Str → Option Value} {base : Heap} {f fp : Addr} {fd fdp : FuncData}
def tfReached : PF := fun _ pvs Q => ∃ (b : Bool) (ws roots A : List Int), pvs = [.imm (seqD b ws), .imm (.list (intsP roots))] ∧ Closed ws A ∧ (∀ r ∈ roots, 0 ≤ r → r ∈ A) ∧ A.length ≤ 1000000 ∧ Q (.own (.lst (intsP (bfs (succW ws) A.length (roots.foldl pushI []) 0))))
theorem M_reached : MonoF tfReached := fun _ _ _ _ h ⟨b, ws, r, A, e, c, r1, l, q⟩ => ⟨b, ws, r, A, e, c, r1, l, h _ q⟩
theorem ok_reached (F : Fun K "reached" "reached" s_reached f fd) (m_len : mg "len" = none) (G_pointer_places : FnOk P w K mg base CX0 1 fp fdp ["word"] (Prm K tfPtrs)) (g_pointer_places : mg "pointer_places" = some (.ref fp)) (F_pointer_places : Fun K "pointer_places" "pointer_places" s_pointer_places fp fdp) (b_pointer_places : Binds K fdp ["word"] []) :
    FnOk P w K mg base CX0 2 f fd ["words", "roots"] (Prm K tfReached) := by
  refine okP F sc_reached (fun _ _ _ ⟨_, _, _, _, e, _⟩ => by rw [e] <;> rfl) fun cdv A outer s H E e hr => ?_
  refine ⟨_, (zs_cons (z_par (i := 2) (j := 3) kvN kvN (by rfl) sc_reached.nd rfl rfl (by decide) rfl rfl (pn_lst pad_nil) pn_dnew (by rfl))
  (zs_cons (z_for PassesOwn.never rfl (pi_l (pd_v (pv 1))) (y_name (pg_name (i := 4) sc_reached.nd rfl (.inl rfl)))
    (zs_one (z_if (pb_w (pw_a (pb_c (pc_ge (pd_v (pv 4)) pd_int) (nomark _)) (pw_a1 (pb_c (pc_dnin_v hr.units (pd_v (pv 4)) (pv 3)) rfl))))
      (zs_cons (z_dput hr.units (pv 3) (pd_v (pv 4)) pd_bl)
      (zs_one (z_app (pv 2) (pd_v (pv 4)))))
      zs_nil)))
  (zs_cons (z_set (i := 5) kvD sc_reached.nd rfl (.inl rfl) pd_int)
  (zs_cons (z_while PassesOwn.never (pb_c (pc_lt (pd_v (pv 5)) (pd_len (by rfl) m_len (pq_v (pv 2)))) (nomark _))
    (zs_cons (z_set (i := 4) kvD sc_reached.nd rfl (.inl rfl) (pd_ix (pq_v (pv 2)) (pd_v (pv 5)) (fun _ _ => rfl)))
    (zs_cons (z_for PassesOwn.never rfl (pi_l (pd_n (pn_call M_pointer_places G_pointer_places (hr.mono (by omega)) (by rfl) g_pointer_places F_pointer_places.kp b_pointer_places pass0 (pav_d (pd_ix (pq_d (pd_v (pv 0))) (pd_v (pv 4)) (fun _ _ => rfl)) pav_nil)))) (y_name (pg_name (i := 6) sc_reached.nd rfl (.inl rfl)))
      (zs_cons (z_set (i := 7) kvD sc_reached.nd rfl (.inl rfl) (pd_ix (pq_d (pd_v (pv 0))) (pd_add (pd_v (pv 4)) (pd_v (pv 6))) (fun _ _ => rfl)))
      (zs_one (z_if (pb_w (pw_a (pb_c (pc_ge (pd_v (pv 7)) pd_int) (nomark _)) (pw_a1 (pb_c (pc_dnin_v hr.units (pd_v (pv 7)) (pv 3)) rfl))))
        (zs_cons (z_dput hr.units (pv 3) (pd_v (pv 7)) pd_bl)
        (zs_one (z_app (pv 2) (pd_v (pv 7)))))
        zs_nil))))
    (zs_one (z_set (i := 5) kvD sc_reached.nd rfl (.inl rfl) (pd_add (pd_v (pv 5)) pd_int))))))
  (zs_one (z_retO (pv 2))))))), ?_⟩
  rintro pvs Q ⟨b, ws, roots, A, rfl, hc, hr1, hl, q⟩
  cases b
  all_goals
    have tR : ∀ i, Told A (toldR roots i) := fun i => Told.pushes _ _ ⟨List.nodup_nil, fun a ha => by cases ha⟩ fun o ho h0 => hr1 o (List.mem_of_mem_take ho) h0
    have small : ∀ t, Told A t → t.length < sizeLine := fun t ht => lineL (by have := nodup_len ht; omega)
    refine ⟨Nat.zero_le _, ?_⟩
    refine forT_by (fun i ρ => ∃ s4, ρ = [some (.imm (seqD _ ws)), some (.imm (.list (intsP roots))), some (.own (.lst (intsP (toldR roots i)))), some (.own (.dic (seenOf (toldR roots i)))), s4, none, none, none]) _ _ ⟨none, rfl⟩ (fun i d ρ R hd h hR => ?_) fun ρ h => ?_
    · obtain ⟨s4, rfl⟩ := h
      obtain ⟨x, hx, rfl⟩ := intsP_get hd
      have hs := toldR_succ hx
      refine ifD (fun h0 => ifB (fun h1 => ?_) fun h1 => ?_) fun h0 => ?_
      · have h1 : (!(valD (seenOf (toldR roots i)) (Sum.inl x)).isSome) = true := h1
        rw [seen_val] at h1
        have h1 : x ∉ toldR roots i := by simpa using h1
        have hp : pushI (toldR roots i) x = toldR roots i ++ [x] := if_pos ⟨h0, h1⟩
        refine ⟨by unfold seenOf; rw [List.length_map]; exact small _ (tR i), by rw [intsP_len]; exact small _ (tR i), hR _ ⟨some (.imm (.int x)), ?_⟩⟩
        rw [hs, hp, intsP_app, ← seen_put h1]
        rfl
      · have h1 : (!(valD (seenOf (toldR roots i)) (Sum.inl x)).isSome) = false := h1
        rw [seen_val] at h1
        have h1 : x ∈ toldR roots i := by simpa using h1
        refine hR _ ⟨some (.imm (.int x)), ?_⟩
        rw [hs, show pushI (toldR roots i) x = toldR roots i from if_neg fun z => z.2 h1]
        rfl
      · refine hR _ ⟨some (.imm (.int x)), ?_⟩
        rw [hs, show pushI (toldR roots i) x = toldR roots i from if_neg fun z => h0 z.1]
        rfl
    · obtain ⟨s4, rfl⟩ := h
      rw [intsP_len]
      have e0 : toldR roots roots.length = roots.foldl pushI [] := by unfold toldR; rw [List.take_length]
      refine ⟨fun m ρ => ∃ told here s4 s6 s7, ρ = [some (.imm (seqD _ ws)), some (.imm (.list (intsP roots))), some (.own (.lst (intsP told))), some (.own (.dic (seenOf told))), s4, some (.imm (.int (here : Nat))), s6, s7] ∧ Told A told ∧ here ≤ told.length ∧ m = A.length - here ∧ bfs (succW ws) (A.length - here) told here = bfs (succW ws) A.length (roots.foldl pushI []) 0,
        ⟨A.length, toldR roots roots.length, 0, s4, none, none, rfl, tR _, Nat.zero_le _, rfl, by rw [e0]; rfl⟩, fun m ρ h => ?_⟩
      obtain ⟨told, here, s4, s6, s7, rfl, ht, hh, rfl, hb⟩ := h
      refine ifD (fun h0 => ?_) fun h0 => ?_
      · have h0 : (here : Int) < ((intsP told).length : Nat) := h0
        rw [intsP_len] at h0
        have hlt : here < told.length := by omega
        have hlA := nodup_len ht
        obtain ⟨a, ha⟩ : ∃ a, told[here]? = some a := ⟨told[here], by simp [hlt]⟩
        have haA := ht.sub a (List.mem_of_getElem? ha)
        obtain ⟨n, hn⟩ : ∃ n, A.length - here = n + 1 := ⟨A.length - here - 1, by omega⟩
        rw [hn, bfs, ha] at hb
        obtain ⟨a0, a1⟩ := hc.at_ a haA
        refine ixTo (atI_nat (j := here) (v := .int a) (by unfold intsP; rw [List.getElem?_map, ha] <;> rfl)) ?_
        refine ixTo (atI_ints a0 a1) ?_
        refine ⟨_, rfl, ?_⟩
        have hP := hc.ptr a haA
        have tS : ∀ i, Told A (((succW ws a).take i).foldl pushI told) := fun i => Told.pushes _ _ ht fun o ho h0 => by
          obtain ⟨p, hp, rfl⟩ := List.mem_map.mp (List.mem_of_mem_take ho)
          exact (hP p hp).2.2 h0
        refine forT_by (fun i ρ => ∃ s6 s7, ρ = [some (.imm (seqD _ ws)), some (.imm (.list (intsP roots))), some (.own (.lst (intsP (((succW ws a).take i).foldl pushI told)))), some (.own (.dic (seenOf (((succW ws a).take i).foldl pushI told)))), some (.imm (.int a)), some (.imm (.int (here : Nat))), s6, s7]) _ _ ⟨s6, s7, rfl⟩ (fun i d ρ R hd h hR => ?_) fun ρ h => ?_
        · obtain ⟨s6, s7, rfl⟩ := h
          obtain ⟨p, hp, rfl⟩ := intsP_get hd
          obtain ⟨p0, p1, p2⟩ := hP p (List.mem_of_getElem? hp)
          refine ixTo (atI_ints (by omega) p1) ?_
          have hsx : (succW ws a)[i]? = some (wAt ws (a + p)) := by unfold succW; rw [List.getElem?_map, hp] <;> rfl
          have hs : ((succW ws a).take (i + 1)).foldl pushI told = pushI (((succW ws a).take i).foldl pushI told) (wAt ws (a + p)) := by rw [List.take_add_one, hsx, List.foldl_append] <;> rfl
          generalize wAt ws (a + p) = x at *
          have tt := tS i
          generalize ((succW ws a).take i).foldl pushI told = t at *
          refine ifD (fun h0 => ifB (fun h1 => ?_) fun h1 => ?_) fun h0 => ?_
          · have h1 : (!(valD (seenOf t) (Sum.inl x)).isSome) = true := h1
            rw [seen_val] at h1
            have h1 : x ∉ t := by simpa using h1
            have hp : pushI t x = t ++ [x] := if_pos ⟨h0, h1⟩
            refine ⟨by unfold seenOf; rw [List.length_map]; exact small _ tt, by rw [intsP_len]; exact small _ tt, hR _ ⟨some (.imm (.int p)), some (.imm (.int x)), ?_⟩⟩
            rw [hs, hp, intsP_app, ← seen_put h1]
            rfl
          · have h1 : (!(valD (seenOf t) (Sum.inl x)).isSome) = false := h1
            rw [seen_val] at h1
            have h1 : x ∈ t := by simpa using h1
            refine hR _ ⟨some (.imm (.int p)), some (.imm (.int x)), ?_⟩
            rw [hs, show pushI t x = t from if_neg fun z => z.2 h1]
            rfl
          · refine hR _ ⟨some (.imm (.int p)), some (.imm (.int x)), ?_⟩
            rw [hs, show pushI t x = t from if_neg fun z => h0 z.1]
            rfl
        · obtain ⟨s6, s7, rfl⟩ := h
          rw [intsP_len]
          have el : (ptrs (wAt ws a)).length = (succW ws a).length := by unfold succW; rw [List.length_map]
          have tt := tS (succW ws a).length
          rw [List.take_length] at tt
          rw [el, List.take_length]
          have hle : told.length ≤ ((succW ws a).foldl pushI told).length := by
            have : ∀ (os t : List Int), t.length ≤ (os.foldl pushI t).length := fun os => by
              induction os with
              | nil => intro t; exact Nat.le_refl _
              | cons o os ih =>
                intro t
                refine Nat.le_trans ?_ (ih (pushI t o))
                unfold pushI
                split <;> simp
            exact this _ _
          refine ⟨n, by omega, _, here + 1, some (.imm (.int a)), s6, s7, ?_, tt, by omega, by omega, ?_⟩
          · show _ = [_, _, _, _, _, some (PV.imm (.int ((here + 1 : Nat) : Int))), _, _]
            rw [show ((here + 1 : Nat) : Int) = (here : Int) + 1 by omega]
            rfl
          · rw [show A.length - (here + 1) = n by omega]
            exact hb
      · have h0 : ¬ (here : Int) < ((intsP told).length : Nat) := h0
        rw [intsP_len] at h0
        have e : bfs (succW ws) (A.length - here) told here = told := by
          cases z : A.length - here with
          | zero => rfl
          | succ n =>
            rw [bfs, List.getElem?_eq_none (by omega)]
        rw [← hb, e] at q
        exact q
end
end K73
set_option Elab.async false
set_option linter.all false
set_option maxRecDepth 100000
set_option maxHeartbeats 4000000
set_option pp.maxSteps 400
namespace K73
open PySem PySem.Spec PyProof.Rows L2 PL
-- reached_words: topS 6; slots [(0, 'words'), (1, 'roots'), (2, 'at')]; own []
abbrev s_reached_words : Stmt := topS 6
abbrev N_reached_words : List Str := ["words", "roots", "at"]
theorem sc_reached_words : FnScope N_reached_words ["words", "roots"] (defScope s_reached_words) := ⟨rfl, rfl, rfl, by decide +kernel, rfl, by decide +kernel, by decide +kernel⟩
-- collect: topS 7; slots [(0, 'words'), (1, 'roots'), (2, 'told'), (3, 'book'), (4, 'at'), (5, 'place'), (6, 'spot')]; own ['book']
abbrev s_collect : Stmt := topS 7
abbrev N_collect : List Str := ["words", "roots", "told", "book", "at", "place", "spot"]
theorem sc_collect : FnScope N_collect ["words", "roots"] (defScope s_collect) := ⟨rfl, rfl, rfl, by decide +kernel, rfl, by decide +kernel, by decide +kernel⟩
/-! ### a collection -/
def sliceW (ws : List Int) (a : Int) : List Int := (ws.drop a.toNat).take (thingW (wAt ws a)).toNat
def bookI (ws : List Int) : Int → List Int → List (Int × Int)
  | _, [] => []
  | o, a :: r => (a, o) :: bookI ws (o + (sliceW ws a).length) r
def place (bk : List (Int × Int)) (x : Int) : Int := ((bk.find? fun p => decide (p.1 = x)).map (·.2)).getD x
def put1 (bk : List (Int × Int)) (told : List Int) (spot : Int) : List Int := told.set spot.toNat (place bk (wAt told spot))
def fixW (ws : List Int) (bk : List (Int × Int)) (told : List Int) (a : Int) : List Int := ((ptrs (wAt ws a)).map fun p => place bk a + p).foldl (put1 bk) told
def reachW (ws A roots : List Int) : List Int := bfs (succW ws) A.length (roots.foldl pushI []) 0
def collW (ws A roots : List Int) : List Int × List Int :=
  let ord := reachW ws A roots
  let bk := bookI ws 0 ord
  (ord.foldl (fixW ws bk) (ord.flatMap (sliceW ws)), roots.map (place bk))
structure Fits (ws A : List Int) : Prop extends Closed ws A where
  fit : ∀ a ∈ A, a + thingW (wAt ws a) ≤ ws.length
  small : ∀ l, Told A l → (l.flatMap (sliceW ws)).length ≤ 1000000
theorem thing_pos (x : Int) : 1 ≤ thingW x := by
  have := sizeW_bd x
  unfold thingW
  split <;> omega
theorem bitsFrom_bd : ∀ (n : Nat) (k b : Int), ∀ p ∈ bitsFrom n k b, 2 + k ≤ p ∧ p < 2 + k + n
  | 0, _, _, p, h => by cases h
  | n + 1, k, b, p, h => by
    rw [bitsFrom] at h
    rcases List.mem_append.mp h with h | h
    · split at h
      · rw [List.mem_singleton.mp h]
        omega
      · cases h
    · have := bitsFrom_bd n (k + 1) (b / 2) p h
      omega
theorem ptrs_bd {x p : Int} (h : p ∈ ptrs x) : 1 ≤ p ∧ p < thingW x := by
  have b := sizeW_bd x
  unfold ptrs at h
  unfold thingW
  split at h
  · rename_i z
    have := bitsFrom_bd _ _ _ p h
    rw [if_pos z]
    omega
  · rename_i z
    rw [if_neg z]
    split at h
    · obtain ⟨i, hi, rfl⟩ := List.mem_map.mp h
      have := List.mem_range.mp hi
      omega
    · cases h
theorem slice_len {ws A : List Int} (f : Fits ws A) {a : Int} (h : a ∈ A) : ((sliceW ws a).length : Int) = thingW (wAt ws a) := by
  have h1 := f.at_ a h
  have h2 := f.fit a h
  have h3 := thing_pos (wAt ws a)
  unfold sliceW
  rw [List.length_take, List.length_drop]
  omega
theorem bfs_told {A : List Int} {succ : Int → List Int} (hs : ∀ a ∈ A, ∀ o ∈ succ a, 0 ≤ o → o ∈ A) : ∀ (n : Nat) (told : List Int) (here : Nat), Told A told → Told A (bfs succ n told here)
  | 0, told, _, h => h
  | n + 1, told, here, h => by
    rw [bfs]
    split
    · rename_i a ha
      exact bfs_told hs n _ _ (Told.pushes _ _ h (hs a (h.sub a (List.mem_of_getElem? ha))))
    · exact h
theorem reach_told {ws A roots : List Int} (c : Closed ws A) (hr : ∀ r ∈ roots, 0 ≤ r → r ∈ A) : Told A (reachW ws A roots) :=
  bfs_told (fun a ha o ho h0 => by
    obtain ⟨p, hp, rfl⟩ := List.mem_map.mp ho
    exact (c.ptr a ha p hp).2.2 h0) _ _ _ (Told.pushes _ _ ⟨List.nodup_nil, fun a h => by cases h⟩ hr)
def bookD (bk : List (Int × Int)) : List (Key × D) := bk.map fun p => (Sum.inl p.1, PyData.int p.2)
theorem book_val (x : Int) : ∀ bk : List (Int × Int), valD (bookD bk) (Sum.inl x) = ((bk.find? fun p => decide (p.1 = x)).map (·.2)).map PyData.int
  | [] => rfl
  | p :: r => by
    have ih := book_val x r
    by_cases h : p.1 = x
    · simp [bookD, valD, List.find?_cons, h]
    · have e1 : valD (bookD (p :: r)) (Sum.inl x) = valD (bookD r) (Sum.inl x) := by simp [bookD, valD, List.find?_cons, h]
      rw [e1, ih, List.find?_cons]
      simp [h]
theorem book_get (bk : List (Int × Int)) (x : Int) : (valD (bookD bk) (Sum.inl x)).getD (.int x) = .int (place bk x) := by
  rw [book_val]
  unfold place
  cases bk.find? fun p => decide (p.1 = x) <;> rfl
theorem book_put {bk : List (Int × Int)} {x o : Int} (h : ∀ p ∈ bk, p.1 ≠ x) : putD (bookD bk) (Sum.inl x) (.int o) = bookD (bk ++ [(x, o)]) := by
  unfold putD
  have : ((bookD bk).any fun kv => decide (kv.1 = Sum.inl x)) = false := by
    rw [List.any_eq_false]
    intro kv hkv
    unfold bookD at hkv
    obtain ⟨p, hp, rfl⟩ := List.mem_map.mp hkv
    simp
    exact h p hp
  rw [if_neg (by rw [this]; decide)]
  simp [bookD]
theorem bookI_app (ws : List Int) : ∀ (l m : List Int) (o : Int), bookI ws o (l ++ m) = bookI ws o l ++ bookI ws (o + (l.flatMap (sliceW ws)).length) m
  | [], m, o => by simp [bookI]
  | a :: l, m, o => by
    rw [List.cons_append, bookI, bookI, bookI_app ws l m, List.flatMap_cons, List.length_append, List.cons_append]
    congr 3
    push_cast
    omega
theorem bookI_keys (ws : List Int) : ∀ (l : List Int) (o : Int), (bookI ws o l).map (·.1) = l
  | [], _ => rfl
  | a :: l, o => by rw [bookI, List.map_cons, bookI_keys ws l]
theorem intsP_cut (ws : List Int) (a : Int) (n : Int) (h0 : 0 ≤ a) (h1 : 0 ≤ n) (h2 : a + n ≤ ws.length) : PL.cutD (intsP ws) (some a) (some (a + n)) = intsP ((ws.drop a.toNat).take n.toNat) := by
  have e1 : HT.sIx (intsP ws).length 0 (some a) = a.toNat := by
    unfold HT.sIx
    simp only [intsP_len]
    repeat' split
    all_goals omega
  have e2 : HT.sIx (intsP ws).length (intsP ws).length (some (a + n)) = (a + n).toNat := by
    unfold HT.sIx
    simp only [intsP_len]
    repeat' split
    all_goals omega
  unfold PL.cutD
  rw [e1, e2]
  unfold intsP
  rw [List.map_take, List.map_drop, show (a + n).toNat - a.toNat = n.toNat by omega]
section
variable {P : Program} {w : World} {K : PySem.W.Frag} {mg : Str → Option Value} {base : Heap} {f fp fr ft : Addr} {fd fdp fdr fdt : FuncData}
def tfRW : PF := fun _ pvs Q => ∃ (b : Bool) (ws roots A : List Int), pvs = [.imm (seqD b ws), .imm (.list (intsP roots))] ∧ Closed ws A ∧ (∀ r ∈ roots, 0 ≤ r → r ∈ A) ∧ A.length ≤ 1000000 ∧ Q (.imm (.int ((reachW ws A roots).map fun a => thingW (wAt ws a)).sum))
theorem M_reached_words : MonoF tfRW := fun _ _ _ _ h ⟨b, ws, r, A, e, c, r1, l, q⟩ => ⟨b, ws, r, A, e, c, r1, l, h _ q⟩
theorem ints_of (l : List Int) : intsOf (intsP l) = some l := by
  induction l with
  | nil => rfl
  | cons x l ih =>
    show (intsOf (intsP l)).map (x :: ·) = some (x :: l)
    rw [ih] <;> rfl
theorem ok_reached_words (F : Fun K "reached_words" "reached_words" s_reached_words f fd) (m_sum : mg "sum" = none) (G_reached : FnOk P w K mg base CX0 2 fr fdr ["words", "roots"] (Prm K tfReached)) (g_reached : mg "reached" = some (.ref fr)) (F_reached : Fun K "reached" "reached" s_reached fr fdr) (b_reached : Binds K fdr ["words", "roots"] [])
    (G_thing_size : FnOk P w K mg base CX0 1 ft fdt ["word"] (Prm K tfThing)) (g_thing_size : mg "thing_size" = some (.ref ft)) (F_thing_size : Fun K "thing_size" "thing_size" s_thing_size ft fdt) (b_thing_size : Binds K fdt ["word"] []) :
    FnOk P w K mg base CX0 3 f fd ["words", "roots"] (Prm K tfRW) := by
  refine okP F sc_reached_words (fun _ _ _ ⟨_, _, _, _, e, _⟩ => by rw [e] <;> rfl) fun cdv A outer s H E e hr => ?_
  refine ⟨_, (zs_one (z_ret kvD (pd_sum rfl (by rfl) m_sum (by decide +kernel) (pq_n (pn_lc (own := [("at", 2)]) rfl sc_reached_words.nd (pi_o (pq_n (pn_call M_reached G_reached (hr.mono (by omega)) (by rfl) g_reached F_reached.kp b_reached pass0 (pav_d (pd_v (pv 0)) (pav_d (pd_v (pv 1)) pav_nil))))) (blkOk_by (own := [("at", 2)]) (N := N_reached_words) (sc := defScope s_reached_words) (by decide +kernel)) (fun _ _ _ _ _ => (y_name (pg_name (i := 2) sc_reached_words.nd rfl (.inl rfl)))) (fun _ _ _ _ _ => px_yes) (fun _ _ _ _ _ => (pd_call M_thing_size G_thing_size (hr.mono (by omega)) (by rfl) g_thing_size F_thing_size.kp b_thing_size pass0 (pav_d (pd_ix (pq_d (pd_v (pv 0))) (pd_v (pv 2)) (fun _ _ => rfl)) pav_nil))) (by decide)))))), ?_⟩
  rintro pvs Q ⟨b, ws, roots, A, rfl, hc, hr1, hl, q⟩
  have ht := reach_told hc hr1
  have hn := nodup_len ht
  cases b
  all_goals
    refine ⟨_, ws, roots, A, rfl, hc, hr1, hl, rfl, ?_⟩
    refine compT_map (fun d => match d with | .int a => .int (thingW (wAt ws a)) | d => d) _ _ (fun i d B C hd hB => ?_) (line3 (by show (intsP (reachW ws A roots)).length ≤ _; rw [intsP_len]; omega)) ?_
    · obtain ⟨a, ha, rfl⟩ := intsP_get hd
      obtain ⟨a0, a1⟩ := hc.at_ a (ht.sub a (List.mem_of_getElem? ha))
      refine ixTo (atI_ints a0 a1) ?_
      exact ⟨_, rfl, hB⟩
    · have e : (intsP (reachW ws A roots)).map (fun d => match d with | .int a => PyData.int (thingW (wAt ws a)) | d => d) = intsP ((reachW ws A roots).map fun a => thingW (wAt ws a)) := by
        unfold intsP
        rw [List.map_map, List.map_map]
        rfl
      refine ⟨rfl, ?_⟩
      refine someTo (d := (reachW ws A roots).map fun a => thingW (wAt ws a)) ?_ q
      show intsOf ((intsP (reachW ws A roots)).map _) = _
      rw [e, ints_of]
theorem flat_take (ws : List Int) {ord : List Int} {i : Nat} {a : Int} (h : ord[i]? = some a) : (ord.take (i + 1)).flatMap (sliceW ws) = (ord.take i).flatMap (sliceW ws) ++ sliceW ws a := by
  rw [List.take_add_one, h, List.flatMap_append]
  simp
theorem book_take (ws : List Int) {ord : List Int} {i : Nat} {a : Int} (h : ord[i]? = some a) : bookI ws 0 (ord.take (i + 1)) = bookI ws 0 (ord.take i) ++ [(a, (((ord.take i).flatMap (sliceW ws)).length : Int))] := by
  rw [List.take_add_one, h, bookI_app]
  simp [bookI]
theorem told_take {A ord : List Int} (h : Told A ord) (i : Nat) : Told A (ord.take i) := ⟨(List.take_sublist i ord).nodup h.nd, fun a ha => h.sub a (List.mem_of_mem_take ha)⟩
theorem notin_take {ord : List Int} {i : Nat} {a : Int} (hn : ord.Nodup) (h : ord[i]? = some a) : a ∉ ord.take i := fun hm => by
  have hi := (List.getElem?_eq_some_iff.mp h).1
  have e : ord = ord.take i ++ (a :: ord.drop (i + 1)) := by
    have := List.take_append_drop i ord
    rw [List.drop_eq_getElem_cons hi] at this
    rw [← (List.getElem?_eq_some_iff.mp h).2]
    exact this.symm
  rw [e, List.nodup_append] at hn
  exact hn.2.2 a hm a (List.mem_cons_self ..) rfl
/-- where a thing comes to lie -/
theorem place_at (ws : List Int) {ord : List Int} {i : Nat} {a : Int} (hn : ord.Nodup) (h : ord[i]? = some a) : (bookI ws 0 ord).find? (fun p => decide (p.1 = a)) = some (a, (((ord.take i).flatMap (sliceW ws)).length : Int)) := by
  have hi := (List.getElem?_eq_some_iff.mp h).1
  have e : ord = ord.take i ++ (a :: ord.drop (i + 1)) := by
    have := List.take_append_drop i ord
    rw [List.drop_eq_getElem_cons hi] at this
    rw [← (List.getElem?_eq_some_iff.mp h).2]
    exact this.symm
  have hna : a ∉ ord.take i := fun hm => by
    rw [e, List.nodup_append] at hn
    exact hn.2.2 a hm a (List.mem_cons_self ..) rfl
  have eb : bookI ws 0 ord = bookI ws 0 (ord.take i) ++ bookI ws (0 + ((ord.take i).flatMap (sliceW ws)).length) (a :: ord.drop (i + 1)) := by
    rw [← bookI_app, ← e]
  rw [eb, List.find?_append, bookI]
  have : (bookI ws 0 (ord.take i)).find? (fun p => decide (p.1 = a)) = none := by
    rw [List.find?_eq_none]
    intro p hp
    simp
    intro z
    apply hna
    rw [← z, ← bookI_keys ws (ord.take i) 0]
    exact List.mem_map.mpr ⟨p, hp, rfl⟩
  rw [this]
  simp
theorem place_off (ws : List Int) {ord : List Int} {i : Nat} {a : Int} (hn : ord.Nodup) (h : ord[i]? = some a) : place (bookI ws 0 ord) a = (((ord.take i).flatMap (sliceW ws)).length : Int) := by
  unfold place
  rw [place_at ws hn h] <;> rfl
theorem fix_len (ws : List Int) (bk : List (Int × Int)) : ∀ (ss told : List Int), (ss.foldl (put1 bk) told).length = told.length
  | [], _ => rfl
  | s :: ss, told => by
    rw [List.foldl_cons, fix_len ws bk ss]
    unfold put1
    rw [List.length_set]
theorem fixs_len (ws : List Int) (bk : List (Int × Int)) : ∀ (as told : List Int), (as.foldl (fixW ws bk) told).length = told.length
  | [], _ => rfl
  | s :: ss, told => by
    rw [List.foldl_cons, fixs_len ws bk ss]
    exact fix_len ws bk _ _
def tfColl : PF := fun _ pvs Q => ∃ (b : Bool) (ws roots A : List Int), pvs = [.imm (seqD b ws), .imm (.list (intsP roots))] ∧ Fits ws A ∧ (∀ r ∈ roots, 0 ≤ r → r ∈ A) ∧ A.length ≤ 1000000 ∧ roots.length ≤ 1000000 ∧ Q (.imm (.tuple [.list (intsP (collW ws A roots).1), .list (intsP (collW ws A roots).2)]))
theorem M_collect : MonoF tfColl := fun _ _ _ _ h ⟨b, ws, r, A, e, c, r1, l, l2, q⟩ => ⟨b, ws, r, A, e, c, r1, l, l2, h _ q⟩
theorem ok_collect (F : Fun K "collect" "collect" s_collect f fd) (m_len : mg "len" = none) (m_list : mg "list" = none) (G_reached : FnOk P w K mg base CX0 2 fr fdr ["words", "roots"] (Prm K tfReached)) (g_reached : mg "reached" = some (.ref fr)) (F_reached : Fun K "reached" "reached" s_reached fr fdr) (b_reached : Binds K fdr ["words", "roots"] [])
    (G_thing_size : FnOk P w K mg base CX0 1 ft fdt ["word"] (Prm K tfThing)) (g_thing_size : mg "thing_size" = some (.ref ft)) (F_thing_size : Fun K "thing_size" "thing_size" s_thing_size ft fdt) (b_thing_size : Binds K fdt ["word"] [])
    (G_pointer_places : FnOk P w K mg base CX0 1 fp fdp ["word"] (Prm K tfPtrs)) (g_pointer_places : mg "pointer_places" = some (.ref fp)) (F_pointer_places : Fun K "pointer_places" "pointer_places" s_pointer_places fp fdp) (b_pointer_places : Binds K fdp ["word"] []) :
    FnOk P w K mg base CX0 3 f fd ["words", "roots"] (Prm K tfColl) := by
  refine okP F sc_collect (fun _ _ _ ⟨_, _, _, _, e, _⟩ => by rw [e] <;> rfl) fun cdv A outer s H E e hr => ?_
  refine ⟨_, (zs_cons (z_parC kvN kvN rfl (pg_name (i := 2) sc_collect.nd rfl (.inl rfl)) (pg_name (i := 3) sc_collect.nd rfl (.inr rfl)) (pn_lst pad_nil) pn_dnew)
  (zs_cons (z_for PassesOwn.never rfl (pi_l (pd_n (pn_call M_reached G_reached (hr.mono (by omega)) (by rfl) g_reached F_reached.kp b_reached pass0 (pav_d (pd_v (pv 0)) (pav_d (pd_v (pv 1)) pav_nil))))) (y_name (pg_name (i := 4) sc_collect.nd rfl (.inl rfl)))
    (zs_cons (z_dput hr.units (pv 3) (pd_v (pv 4)) (pd_len (by rfl) m_len (pq_v (pv 2))))
    (zs_one (z_set (i := 2) kvN sc_collect.nd rfl (.inl rfl) (pn_cat (pq_v (pv 2)) (pq_n (pn_list (by rfl) m_list (pq_sl (pq_d (pd_v (pv 0))) (pod_some (pd_v (pv 4))) (pod_some (pd_add (pd_v (pv 4)) (pd_call M_thing_size G_thing_size (hr.mono (by omega)) (by rfl) g_thing_size F_thing_size.kp b_thing_size pass0 (pav_d (pd_ix (pq_d (pd_v (pv 0))) (pd_v (pv 4)) (fun _ _ => rfl)) pav_nil))))))))))))
  (zs_cons (z_forD PassesOwn.never rfl (pv 3) (y_name (pg_name (i := 4) sc_collect.nd rfl (.inl rfl)))
    (zs_one (z_for PassesOwn.never rfl (pi_l (pd_n (pn_call M_pointer_places G_pointer_places (hr.mono (by omega)) (by rfl) g_pointer_places F_pointer_places.kp b_pointer_places pass0 (pav_d (pd_ix (pq_d (pd_v (pv 0))) (pd_v (pv 4)) (fun _ _ => rfl)) pav_nil)))) (y_name (pg_name (i := 5) sc_collect.nd rfl (.inl rfl)))
      (zs_cons (z_set (i := 6) kvD sc_collect.nd rfl (.inl rfl) (pd_add (pd_dget_v hr.units (pv 3) (pd_v (pv 4)) (fun _ _ => rfl)) (pd_v (pv 5))))
      (zs_one (z_store (pd_dget2_v hr.units (pv 3) (pd_ix (pq_v (pv 2)) (pd_v (pv 6)) (fun _ _ => rfl)) (pd_ix (pq_v (pv 2)) (pd_v (pv 6)) (fun _ _ => rfl)) ⟨rfl, rfl, rfl, rfl⟩) (pv 2) (pd_v (pv 6))))))))
  (zs_one (z_frz (i := 2) (z_ret kvD (pd_tup (pad_cons (pd_v (pv 2)) (pad_cons (pd_n (pn_lc (own := [("at", 4)]) rfl sc_collect.nd (pi_l (pd_v (pv 1))) (blkOk_by (own := [("at", 4)]) (N := N_collect) (sc := defScope s_collect) (by decide +kernel)) (fun _ _ _ _ _ => (y_name (pg_name (i := 4) sc_collect.nd rfl (.inl rfl)))) (fun _ _ _ _ _ => px_yes) (fun _ _ _ _ _ => (pd_dget2_v hr.units (pv 3) (pd_v (pv 4)) (pd_v (pv 4)) ⟨rfl, rfl, rfl, rfl⟩)) (by decide))) pad_nil))))))))), ?_⟩
  rintro pvs Q ⟨b, ws, roots, A, rfl, hc, hr1, hl, hl2, q⟩
  have ht := reach_told hc.toClosed hr1
  have hn := nodup_len ht
  have q : Q (.imm (.tuple [.list (intsP (((reachW ws A roots).foldl (fixW ws (bookI ws 0 (reachW ws A roots))) ((reachW ws A roots).flatMap (sliceW ws))))), .list (intsP (roots.map (place (bookI ws 0 (reachW ws A roots)))))])) := q
  have hR : bfs (succW ws) A.length (roots.foldl pushI []) 0 = reachW ws A roots := rfl
  generalize reachW ws A roots = ord at *
  cases b
  all_goals
    refine ⟨Nat.zero_le _, ?_⟩
    refine ⟨_, ws, roots, A, rfl, hc.toClosed, hr1, hl, ?_⟩
    rw [hR]
    refine forT_by (fun i ρ => ∃ s4, ρ = [some (.imm (seqD _ ws)), some (.imm (.list (intsP roots))), some (.own (.lst (intsP ((ord.take i).flatMap (sliceW ws))))), some (.own (.dic (bookD (bookI ws 0 (ord.take i))))), s4, none, none]) _ _ ⟨none, rfl⟩ (fun i d ρ R hd h hR => ?_) fun ρ h => ?_
    · obtain ⟨s4, rfl⟩ := h
      obtain ⟨a, ha, rfl⟩ := intsP_get hd
      have haA := ht.sub a (List.mem_of_getElem? ha)
      obtain ⟨a0, a1⟩ := hc.at_ a haA
      have hf := hc.fit a haA
      have tp := thing_pos (wAt ws a)
      have hsm := hc.small _ (told_take ht i)
      have hsm1 := hc.small _ (told_take ht (i + 1))
      have hb : (bookI ws 0 (ord.take i)).length ≤ 1000000 := by
        have := congrArg List.length (bookI_keys ws (ord.take i) 0)
        rw [List.length_map] at this
        rw [this, List.length_take]
        omega
      have hkey : ∀ p ∈ bookI ws 0 (ord.take i), p.1 ≠ a := fun p hp z => by
        have hm : a ∈ ord.take i := by
          rw [← z, ← bookI_keys ws (ord.take i) 0]
          exact List.mem_map.mpr ⟨p, hp, rfl⟩
        exact notin_take ht.nd ha hm
      refine ⟨lineL (by unfold bookD; rw [List.length_map]; omega), ?_⟩
      refine ixTo (atI_ints a0 a1) ?_
      refine ⟨_, rfl, ?_⟩
      refine ⟨rfl, rfl, line3 (by
        show (intsP _).length + (PL.cutD (intsP ws) (some a) (some (a + thingW (wAt ws a)))).length ≤ _
        rw [intsP_cut ws a _ a0 (by omega) hf, intsP_len, intsP_len]
        rw [flat_take ws ha, List.length_append] at hsm1
        exact Nat.le_trans hsm1 (by decide)), hR _ ⟨some (.imm (.int a)), ?_⟩⟩
      show [_, _, some (PV.own (.lst (intsP ((ord.take i).flatMap (sliceW ws)) ++ PL.cutD (intsP ws) (some a) (some (a + thingW (wAt ws a)))))), some (PV.own (.dic (putD (bookD (bookI ws 0 (ord.take i))) (Sum.inl a) (.int ((intsP ((ord.take i).flatMap (sliceW ws))).length))))), _, _, _] = _
      rw [intsP_cut ws a _ a0 (by omega) hf, flat_take ws ha, intsP_app, intsP_len, book_put hkey, book_take ws ha]
      rfl
    · obtain ⟨s4, rfl⟩ := h
      rw [intsP_len, List.take_length]
      refine fun d => ?_
      have tot := hc.small _ ht
      have keyl : keysD (bookD (bookI ws 0 ord)) = intsP ord := by
        have := bookI_keys ws ord 0
        unfold keysD bookD intsP
        rw [List.map_map]
        conv => rhs; rw [← this, List.map_map]
        rfl
      refine forT_by (fun i ρ => ∃ s4 s5 s6, ρ = [some (.imm (seqD _ ws)), some (.imm (.list (intsP roots))), some (.own (.lst (intsP ((ord.take i).foldl (fixW ws (bookI ws 0 ord)) (ord.flatMap (sliceW ws)))))), some (.std d (bookD (bookI ws 0 ord))), s4, s5, s6]) _ _ ⟨s4, none, none, rfl⟩ (fun i x ρ R hd h hR => ?_) fun ρ h => ?_
      · obtain ⟨s4, s5, s6, rfl⟩ := h
        rw [keyl] at hd
        obtain ⟨a, ha, rfl⟩ := intsP_get hd
        have haA := ht.sub a (List.mem_of_getElem? ha)
        obtain ⟨a0, a1⟩ := hc.at_ a haA
        refine ixTo (atI_ints a0 a1) ?_
        refine ⟨_, rfl, ?_⟩
        have hoff := place_off ws ht.nd ha
        have hval : valD (bookD (bookI ws 0 ord)) (Sum.inl a) = some (.int (place (bookI ws 0 ord) a)) := by
          rw [book_val, place_at ws ht.nd ha, hoff] <;> rfl
        have hsl := slice_len hc haA
        have hle : ((ord.take i).flatMap (sliceW ws)).length + (sliceW ws a).length ≤ (ord.flatMap (sliceW ws)).length := by
          rw [← List.length_append, ← flat_take ws ha]
          conv => rhs; rw [← List.take_append_drop (i + 1) ord, List.flatMap_append, List.length_append]
          omega
        have hlen := fixs_len ws (bookI ws 0 ord) (ord.take i) (ord.flatMap (sliceW ws))
        have hfx : (ord.take (i + 1)).foldl (fixW ws (bookI ws 0 ord)) (ord.flatMap (sliceW ws)) = fixW ws (bookI ws 0 ord) ((ord.take i).foldl (fixW ws (bookI ws 0 ord)) (ord.flatMap (sliceW ws))) a := by
          rw [List.take_add_one, ha, List.foldl_append] <;> rfl
        generalize (ord.take i).foldl (fixW ws (bookI ws 0 ord)) (ord.flatMap (sliceW ws)) = told at *
        refine forT_by (fun j ρ => ∃ s5 s6, ρ = [some (.imm (seqD _ ws)), some (.imm (.list (intsP roots))), some (.own (.lst (intsP ((((ptrs (wAt ws a)).map fun p => place (bookI ws 0 ord) a + p).take j).foldl (put1 (bookI ws 0 ord)) told)))), some (.std d (bookD (bookI ws 0 ord))), some (.imm (.int a)), s5, s6]) _ _ ⟨s5, s6, rfl⟩ (fun j y ρ R' hd' h hR' => ?_) fun ρ h => ?_
        · obtain ⟨s5, s6, rfl⟩ := h
          obtain ⟨p, hp, rfl⟩ := intsP_get hd'
          have hpb := ptrs_bd (List.mem_of_getElem? hp)
          have hpm : ((ptrs (wAt ws a)).map fun p => place (bookI ws 0 ord) a + p)[j]? = some (place (bookI ws 0 ord) a + p) := by rw [List.getElem?_map, hp] <;> rfl
          have htk : (((ptrs (wAt ws a)).map fun p => place (bookI ws 0 ord) a + p).take (j + 1)).foldl (put1 (bookI ws 0 ord)) told = put1 (bookI ws 0 ord) ((((ptrs (wAt ws a)).map fun p => place (bookI ws 0 ord) a + p).take j).foldl (put1 (bookI ws 0 ord)) told) (place (bookI ws 0 ord) a + p) := by
            rw [List.take_add_one, hpm, List.foldl_append] <;> rfl
          have hlj := fix_len ws (bookI ws 0 ord) (((ptrs (wAt ws a)).map fun p => place (bookI ws 0 ord) a + p).take j) told
          generalize (((ptrs (wAt ws a)).map fun p => place (bookI ws 0 ord) a + p).take j).foldl (put1 (bookI ws 0 ord)) told = t at *
          refine someTo hval ?_
          have s0 : 0 ≤ place (bookI ws 0 ord) a + p := by omega
          have s1 : place (bookI ws 0 ord) a + p < t.length := by omega
          refine ixTo (atI_ints s0 s1) ?_
          refine ixTo (atI_ints s0 s1) ?_
          have hix : ixN (intsP t).length (place (bookI ws 0 ord) a + p) = some (place (bookI ws 0 ord) a + p).toNat := by
            unfold ixN
            rw [intsP_len, if_pos s0, if_pos s1]
          refine someTo hix (hR' _ ⟨some (.imm (.int p)), some (.imm (.int (place (bookI ws 0 ord) a + p))), ?_⟩)
          rw [book_get, htk]
          unfold put1 intsP
          rw [List.map_set]
          rfl
        · obtain ⟨s5, s6, rfl⟩ := h
          rw [intsP_len]
          refine hR _ ⟨some (.imm (.int a)), s5, s6, ?_⟩
          rw [hfx]
          unfold fixW
          rw [List.take_of_length_le (by rw [List.length_map]; exact Nat.le_refl _)]
      · obtain ⟨s4, s5, s6, rfl⟩ := h
        rw [keyl, intsP_len, List.take_length]
        refine ⟨rfl, ?_⟩
        refine compT_map (fun d => match d with | .int x => .int (place (bookI ws 0 ord) x) | d => d) _ _ (fun i d B C hd hB => ?_) (line3 (by rw [intsP_len]; omega)) ?_
        · obtain ⟨x, hx, rfl⟩ := intsP_get hd
          have e := book_get (bookI ws 0 ord) x
          show B ((valD (bookD (bookI ws 0 ord)) (Sum.inl x)).getD (.int x))
          rw [e]
          exact hB
        · have e : (intsP roots).map (fun d => match d with | .int x => PyData.int (place (bookI ws 0 ord) x) | d => d) = intsP (roots.map (place (bookI ws 0 ord))) := by
            unfold intsP
            rw [List.map_map, List.map_map]
            rfl
          show 2 ≤ sizeLine ∧ Q (.imm (.tuple [_, .list ((intsP roots).map _)]))
          rw [e]
          exact ⟨by decide, q⟩
end
end K73
set_option Elab.async false
set_option linter.all false
set_option maxRecDepth 100000
set_option maxHeartbeats 4000000
set_option pp.maxSteps 400
namespace K73
open PySem PySem.Spec PyProof.Rows L2 PL
-- _law_power: topS 18; slots [(0, 'many'), (1, 'out'), (2, 'step')]; own []
abbrev s__law_power : Stmt := topS 18
abbrev N__law_power : List Str := ["many", "out", "step"]
theorem sc__law_power : FnScope N__law_power ["many"] (defScope s__law_power) := ⟨rfl, rfl, rfl, by decide +kernel, rfl, by decide +kernel, by decide +kernel⟩
-- _law_flat: topS 14; slots [(0, 'rows'), (1, 'out'), (2, 'row')]; own []
abbrev s__law_flat : Stmt := topS 14
abbrev N__law_flat : List Str := ["rows", "out", "row"]
theorem sc__law_flat : FnScope N__law_flat ["rows"] (defScope s__law_flat) := ⟨rfl, rfl, rfl, by decide +kernel, rfl, by decide +kernel, by decide +kernel⟩
-- _law_refill: topS 11; slots [(0, 'script'), (1, 'k'), (2, 'cell')]; own []
abbrev s__law_refill : Stmt := topS 11
abbrev N__law_refill : List Str := ["script", "k", "cell"]
theorem sc__law_refill : FnScope N__law_refill ["script", "k"] (defScope s__law_refill) := ⟨rfl, rfl, rfl, by decide +kernel, rfl, by decide +kernel, by decide +kernel⟩
section
variable {P : Program} {w : World} {K : PySem.W.Frag} {mg : Str → Option Value} {base : Heap} {f : Addr} {fd : FuncData} {tM : Tok}
def tfPower : PF := fun _ pvs Q => ∃ n : Nat, pvs = [.imm (.int n)] ∧ n ≤ 100 ∧ Q (.imm (.int (2 ^ n)))
theorem M__law_power : MonoF tfPower := fun _ _ _ _ h ⟨n, e, b, q⟩ => ⟨n, e, b, h _ q⟩
theorem ok__law_power (F : Fun K "_law_power" "_law_power" s__law_power f fd) (m_range : mg "range" = none) : FnOk P w K mg base CX0 1 f fd ["many"] (Prm K tfPower) := by
  refine okP F sc__law_power (fun _ _ _ ⟨_, e, _⟩ => by rw [e] <;> rfl) fun cdv A outer s H E e hr => ?_
  refine ⟨_, (zs_cons (z_set (i := 1) kvD sc__law_power.nd rfl (.inl rfl) pd_int)
  (zs_cons (z_for PassesOwn.never rfl (pi_r1 (by rfl) m_range (pd_v (pv 0))) (y_name (pg_name (i := 2) sc__law_power.nd rfl (.inl rfl)))
    (zs_one (z_set (i := 1) kvD sc__law_power.nd rfl (.inl rfl) (pd_mul pd_int (pd_v (pv 1))))))
  (zs_one (z_ret kvD (pd_v (pv 1)))))), ?_⟩
  rintro pvs Q ⟨n, rfl, b, q⟩
  refine ⟨⟨by omega, by omega⟩, forT_by (fun i ρ => ∃ s2, ρ = [some (.imm (.int n)), some (.imm (.int (2 ^ i))), s2]) _ _ ⟨none, rfl⟩ (fun i d ρ R hd h hR => ?_) fun ρ h => ?_⟩
  · obtain ⟨s2, rfl⟩ := h
    obtain ⟨hi, rfl⟩ := intsD_get hd
    refine ⟨.inl (by decide), hR _ ⟨some (.imm (.int (0 + (i : Nat)))), ?_⟩⟩
    rw [Int.pow_succ, Int.mul_comm]
    rfl
  · obtain ⟨s2, rfl⟩ := h
    rw [intsD_len, Int.toNat_natCast]
    exact q
theorem cp18 : CPow 10 18 := ⟨by decide, by decide, by decide⟩
theorem ok__law_refill (F : Fun K "_law_refill" "_law_refill" s__law_refill f fd) (m_len : mg "len" = none) (m_int : mg "int" = none) : FnOk P w K mg base CX0 1 f fd ["script", "k"] (Prm K tfRefill) := by
  refine okP F sc__law_refill (fun _ _ _ ⟨_, _, e, _⟩ => by rw [e] <;> rfl) fun cdv A outer s H E e hr => ?_
  refine ⟨_, (zs_cons (z_set (i := 2) kvD sc__law_refill.nd rfl (.inl rfl) pd_int)
  (zs_cons (z_if (pb_tr (pd_v (pv 0)) (by intro _; rfl))
    (zs_one (z_set (i := 2) kvD sc__law_refill.nd rfl (.inl rfl) (pd_ix (pq_d (pd_v (pv 0))) (pd_mod (pd_v (pv 1)) (pd_len (by rfl) m_len (pq_d (pd_v (pv 0))))) (fun _ _ => rfl))))
    zs_nil)
  (zs_cons (z_if (pb_c (pc_lt (pd_v (pv 2)) pd_int) (nomark _))
    (zs_one (z_set (i := 2) kvD sc__law_refill.nd rfl (.inl rfl) (pd_sub pd_int (pd_mul pd_int (pd_v (pv 2))))))
    zs_nil)
  (zs_cons (z_if (pb_w (pw_a (pb_c (pc_ge (pd_v (pv 2)) (pd_pow pd_int pd_int)) (nomark _)) (pw_a1 (pb_c (pc_lt (pd_v (pv 1)) (pd_len (by rfl) m_len (pq_d (pd_v (pv 0))))) (nomark _)))))
    (zs_one (z_ret kvD (pd_v (pv 2))))
    zs_nil)
  (zs_one (z_ret kvD (pd_mod (pd_toInt (by rfl) m_int (pd_add (pd_mul (pd_toInt (by rfl) m_int (pd_add (pd_add (pd_mul (pd_v (pv 2)) pd_int) (pd_mul (pd_v (pv 1)) pd_int)) pd_int)) pd_int) pd_int)) pd_int))))))), ?_⟩
  rintro pvs Q ⟨ns, k, rfl, k0, q⟩
  have last : ∀ x : Int, Q (.imm (.int (x % 2147483399))) := fun x => q _ (Int.emod_nonneg _ (by decide))
  cases ns with
  | nil =>
    generalize hz : (0 : Int) = z0
    refine ifD (fun z => absurd z (by omega)) fun _ => ⟨cp18, ifD (fun y => absurd y (by subst hz; decide)) fun _ => ?_⟩
    exact ⟨.inr (by decide), .inr (by decide), .inr (by decide), cm (by decide), last _⟩
  | cons c r =>
    have hl : (0 : Int) < ((c :: r).length : Nat) := by simp
    have h0 := Int.emod_nonneg k (show (((c :: r).length : Nat) : Int) ≠ 0 by omega)
    have h1 := Int.emod_lt_of_pos k hl
    obtain ⟨j, hj⟩ := Int.eq_ofNat_of_zero_le h0
    have hj' : j < (c :: r).length := by omega
    have hg : ((c :: r).map PyData.int)[j]? = some (.int ((c :: r)[j])) := by
      rw [List.getElem?_map, List.getElem?_eq_getElem hj']
      rfl
    generalize (c :: r)[j] = x at hg
    refine ⟨cm (by rw [List.length_map]; exact hl), someTo (by rw [List.length_map, hj]; exact atI_nat hg) ?_⟩
    refine ifD (fun z => ⟨.inl (by decide), ?_⟩) fun z => ?_
    · refine ⟨cp18, ifD (fun y => ifD (fun _ => q _ (by omega)) fun _ => ?_) fun _ => ?_⟩
      · exact ⟨.inr (by decide), .inr (by decide), .inr (by decide), cm (by decide), last _⟩
      · exact ⟨.inr (by decide), .inr (by decide), .inr (by decide), cm (by decide), last _⟩
    · refine ⟨cp18, ifD (fun y => ifD (fun _ => q _ (by omega)) fun _ => ?_) fun _ => ?_⟩
      · exact ⟨.inr (by decide), .inr (by decide), .inr (by decide), cm (by decide), last _⟩
      · exact ⟨.inr (by decide), .inr (by decide), .inr (by decide), cm (by decide), last _⟩
def tfFlat : PF := fun _ pvs Q => ∃ ls : List (List Int), pvs = [.imm (.list (ls.map fun l => .list (intsP l)))] ∧ ls.flatten.length ≤ 1000000 ∧ Q (.imm (.list (intsP ls.flatten)))
theorem M__law_flat : MonoF tfFlat := fun _ _ _ _ h ⟨n, e, b, q⟩ => ⟨n, e, b, h _ q⟩
theorem take_flat {ls : List (List Int)} {i : Nat} {l : List Int} (h : ls[i]? = some l) : (ls.take (i + 1)).flatten = (ls.take i).flatten ++ l := by
  rw [List.take_add_one, h]
  simp
theorem take_flat_len (ls : List (List Int)) (i : Nat) : (ls.take i).flatten.length ≤ ls.flatten.length := by
  have h : ls.flatten = (ls.take i).flatten ++ (ls.drop i).flatten := by rw [← List.flatten_append, List.take_append_drop]
  rw [h, List.length_append]
  omega
theorem ok__law_flat (F : Fun K "_law_flat" "_law_flat" s__law_flat f fd) (m_list : mg "list" = none) : FnOk P w K mg base CX0 1 f fd ["rows"] (Prm K tfFlat) := by
  refine okP F sc__law_flat (fun _ _ _ ⟨_, e, _⟩ => by rw [e] <;> rfl) fun cdv A outer s H E e hr => ?_
  refine ⟨_, (zs_cons (z_set (i := 1) kvD sc__law_flat.nd rfl (.inl rfl) (pd_n (pn_lst pad_nil)))
  (zs_cons (z_for PassesOwn.never rfl (pi_l (pd_v (pv 0))) (y_name (pg_name (i := 2) sc__law_flat.nd rfl (.inl rfl)))
    (zs_one (z_set (i := 1) kvD sc__law_flat.nd rfl (.inl rfl) (pd_n (pn_cat (pq_d (pd_v (pv 1))) (pq_n (pn_list (by rfl) m_list (pq_d (pd_v (pv 2))))))))))
  (zs_one (z_ret kvD (pd_v (pv 1)))))), ?_⟩
  rintro pvs Q ⟨ls, rfl, b, q⟩
  refine ⟨by decide, forT_by (fun i ρ => ∃ s2, ρ = [some (.imm (.list (ls.map fun l => .list (intsP l)))), some (.imm (.list (intsP (ls.take i).flatten))), s2]) _ _ ⟨none, rfl⟩ (fun i d ρ R hd h hR => ?_) fun ρ h => ?_⟩
  · obtain ⟨s2, rfl⟩ := h
    rw [List.getElem?_map] at hd
    obtain ⟨l, hl, rfl⟩ := Option.map_eq_some_iff.mp hd
    have e1 := take_flat hl
    have e2 := take_flat_len ls (i + 1)
    rw [e1, List.length_append] at e2
    refine ⟨rfl, rfl, line3 ?_, hR _ ⟨some (.imm (.list (intsP l))), ?_⟩⟩
    · show (intsP (ls.take i).flatten).length + (intsP l).length ≤ _
      unfold intsP
      rw [List.length_map, List.length_map]
      omega
    · rw [e1]
      unfold intsP
      rw [List.map_append]
      rfl
  · obtain ⟨s2, rfl⟩ := h
    rw [List.length_map, List.take_length]
    exact q
end
end K73
set_option Elab.async false
set_option linter.all false
set_option maxRecDepth 100000
set_option maxHeartbeats 4000000
set_option pp.maxSteps 400
namespace K73
open PySem PySem.Spec PyProof.Rows L2 PL
-- _law_exact: topS 13; slots [(0, 'first'), (1, 'second'), (2, 'alike'), (3, 'k')]; own []
abbrev s__law_exact : Stmt := topS 13
abbrev N__law_exact : List Str := ["first", "second", "alike", "k"]
theorem sc__law_exact : FnScope N__law_exact ["first", "second"] (defScope s__law_exact) := ⟨rfl, rfl, rfl, by decide +kernel, rfl, by decide +kernel, by decide +kernel⟩
section
variable {P : Program} {w : World} {K : PySem.W.Frag} {mg : Str → Option Value} {base : Heap} {f : Addr} {fd : FuncData} {tM : Tok}
/-- data of depth below n that _law_exact can ask -/
def Exd : Nat → D → Prop
  | 0, _ => False
  | _ + 1, .int _ => True
  | _ + 1, .bool _ => True
  | _ + 1, .str _ => True
  | _ + 1, .none => True
  | n + 1, .list l => (∀ x ∈ l, Exd n x) ∧ l.length ≤ 1000000
  | n + 1, .tuple l => (∀ x ∈ l, Exd n x) ∧ l.length ≤ 1000000
  | _, _ => False
theorem isi2T {x : D} {T U : String} {b b' : Bool} {Q : D → Prop} (h1 : kitB (tyN x) T = some b) (h2 : kitB (tyN x) U = some b') (q : Q (.bool (b || b'))) : rdIsi2 T U x Q := by
  unfold rdIsi2
  rw [h1, h2]
  exact q
theorem isiT {x : D} {T : String} {b : Bool} {Q : D → Prop} (h1 : kitB (tyN x) T = some b) (q : Q (.bool b)) : rdIsi T x Q := by
  unfold rdIsi
  rw [h1]
  exact q
theorem xb_isi2 {t : TX D} {ρ : Ev} {x : D} {T U : String} {b b' : Bool} {Q : Bool → Prop} (ht : ∀ Q : D → Prop, Q x → t ρ Q) (h1 : kitB (tyN x) T = some b) (h2 : kitB (tyN x) U = some b') (q : Q (b || b')) : xB (xUn (rdIsi2 T U) t) ρ Q := by
  unfold xB xUn
  exact ht _ (isi2T h1 h2 q)
theorem eqIsi {t u : TX D} {ρ : Ev} {x : D} {T : String} {b neg : Bool} {Q : D → Prop} (ht : ∀ Q : D → Prop, Q x → t ρ Q) (hu : ∀ Q : D → Prop, Q x → u ρ Q) (h : kitB (tyN x) T = some b) (q : Q (.bool (ng neg true))) : xBin (rdEqP neg) (xUn (rdIsi T) t) (xUn (rdIsi T) u) ρ Q := by
  unfold xBin xUn
  refine ht _ (isiT h (hu _ (isiT h ?_)))
  unfold rdEqP
  rw [show eqP (.bool b) (.bool b) = some true by simp [eqP]]
  exact q
theorem zif_to {s : TX Bool} {t u : TSt} {P : Es} {ρ : Ev} (k : Bool) (h : ∀ Q : Bool → Prop, Q k → s ρ Q) (q : (if k = true then t else u) P ρ) : zIf s t u P ρ := by
  unfold zIf
  refine h _ ?_
  cases k <;> exact q
theorem xor_FF {e1 e2 : TX D} {ρ : Ev} {Q : Bool → Prop} (h1 : ∀ Q : D → Prop, Q (.bool false) → e1 ρ Q) (h2 : ∀ Q : D → Prop, Q (.bool false) → e2 ρ Q) (q : Q false) : xOr (xB e1) (xB e2) ρ Q := by
  unfold xOr xB
  exact h1 _ (h2 _ q)
theorem xandV_T {e1 e2 : TX D} {ρ : Ev} {Q : D → Prop} (h1 : ∀ Q : D → Prop, Q (.bool true) → e1 ρ Q) (h2 : e2 ρ Q) : xAndV e1 e2 ρ Q := by
  unfold xAndV
  exact h1 _ h2
theorem zset_to {e : TX D} {i : Nat} {d : D} {P : Es} {ρ : Ev} (h : ∀ Q : D → Prop, Q d → e ρ Q) (q : P.nx (ρ.set i (some (.imm d)))) : zSet PV.imm i e P ρ := h _ q
theorem zret_to {e : TX D} {d : D} {P : Es} {ρ : Ev} (h : ∀ Q : D → Prop, Q d → e ρ Q) (q : P.rt (.imm d)) : zRet PV.imm e P ρ := h _ q
theorem zif_T {s : TX Bool} {t u : TSt} {P : Es} {ρ : Ev} (h : ∀ Q : Bool → Prop, Q true → s ρ Q) (q : t P ρ) : zIf s t u P ρ := zif_to true h q
theorem zif_N {s : TX Bool} {t : TSt} {P : Es} {ρ : Ev} (h : ∀ Q : Bool → Prop, Q false → s ρ Q) (q : P.nx ρ) : zIf s t zNil P ρ := zif_to false h q
theorem eqPT {x : D} {Q : D → Prop} (h : eqP x x = some true) (q : Q (.bool true)) : rdEqP false x x Q := by
  unfold rdEqP
  rw [h]
  exact q
theorem trues : ∀ n : Nat, boolsOf (List.replicate n (PyData.bool true)) = some (List.replicate n true)
  | 0 => rfl
  | n + 1 => by
    rw [List.replicate_succ, boolsOf, trues n]
    rfl
def tfExact (n : Nat) : PF := fun _ pvs Q => ∃ d : D, pvs = [.imm d, .imm d] ∧ Exd n d ∧ Q (.imm (.bool true))
theorem M__law_exact {n : Nat} : MonoF (tfExact n) := fun _ _ _ _ h ⟨d, e, x, q⟩ => ⟨d, e, x, h _ q⟩
theorem ex_law_exact {r : Nat} (n : Nat) (F__law_exact : Fun K "_law_exact" "_law_exact" s__law_exact f fd) (g__law_exact : mg "_law_exact" = some (.ref f)) (G__law_exact : FnOk P w K mg base CX0 (r + 1) f fd ["first", "second"] (Prm K (tfExact n))) (b__law_exact : Binds K fd ["first", "second"] []) (m_isinstance : mg "isinstance" = none) (m_list : mg "list" = none) (m_tuple : mg "tuple" = none) (m_len : mg "len" = none) (m_all : mg "all" = none) (m_range : mg "range" = none) (m_str : mg "str" = none) (m_bool : mg "bool" = none) (m_int : mg "int" = none) : FnOk P w K mg base CX0 (r + 2) f fd ["first", "second"] (Prm K (tfExact (n + 1))) := by
  refine okP F__law_exact sc__law_exact (fun _ _ _ ⟨_, e, _⟩ => by rw [e] <;> rfl) fun cdv A outer s H E e hr => ?_
  refine ⟨_, (zs_cons (z_if (pb_val (pd_isi2 (by rfl) m_isinstance (by decide +kernel) (pd_v (pv 0)) (pe_bltn (by rfl) m_list (by decide +kernel) (rfl : RelV (.ty "list") _)) (pe_bltn (by rfl) m_tuple (by decide +kernel) (rfl : RelV (.ty "tuple") _))))
    (zs_cons (z_if (pb_w (pw_o (pb_c (pc_ne (pd_isi (by rfl) m_isinstance (by decide +kernel) (pd_v (pv 0)) (pe_bltn (by rfl) m_list (by decide +kernel) (rfl : RelV (.ty "list") _))) (pd_isi (by rfl) m_isinstance (by decide +kernel) (pd_v (pv 1)) (pe_bltn (by rfl) m_list (by decide +kernel) (rfl : RelV (.ty "list") _)))) (nomark _)) (pw_o1 (pb_c (pc_ne (pd_isi (by rfl) m_isinstance (by decide +kernel) (pd_v (pv 0)) (pe_bltn (by rfl) m_tuple (by decide +kernel) (rfl : RelV (.ty "tuple") _))) (pd_isi (by rfl) m_isinstance (by decide +kernel) (pd_v (pv 1)) (pe_bltn (by rfl) m_tuple (by decide +kernel) (rfl : RelV (.ty "tuple") _)))) (nomark _)))))
      (zs_one (z_ret kvD pd_bl))
      zs_nil)
    (zs_one (z_ret kvD (pd_and (pd_c (pc_eq (pd_len (by rfl) m_len (pq_d (pd_v (pv 0)))) (pd_len (by rfl) m_len (pq_d (pd_v (pv 1))))) (nomark _)) (pd_one (pd_all rfl (by rfl) m_all (by decide +kernel) (pq_n (pn_lc (own := [("k", 3)]) rfl sc__law_exact.nd (pi_r1 (by rfl) m_range (pd_len (by rfl) m_len (pq_d (pd_v (pv 0))))) (blkOk_by (own := [("k", 3)]) (N := N__law_exact) (sc := defScope s__law_exact) (by decide +kernel)) (fun _ _ _ _ _ => (y_name (pg_name (i := 3) sc__law_exact.nd rfl (.inl rfl)))) (fun _ _ _ _ _ => px_yes) (fun _ _ _ _ _ => (pd_call M__law_exact G__law_exact (hr.mono (by omega)) (by rfl) g__law_exact F__law_exact.kp b__law_exact pass0 (pav_d (pd_ix (pq_d (pd_v (pv 0))) (pd_v (pv 3)) (fun _ _ => rfl)) (pav_d (pd_ix (pq_d (pd_v (pv 1))) (pd_v (pv 3)) (fun _ _ => rfl)) pav_nil)))) (by decide)))))))))
    zs_nil)
  (zs_cons (z_if (pb_w (pw_o (pb_c (pc_is (pd_v (pv 0)) pd_non) (nomark _)) (pw_o1 (pb_c (pc_is (pd_v (pv 1)) pd_non) (nomark _)))))
    (zs_one (z_ret kvD (pd_and (pd_c (pc_is (pd_v (pv 0)) pd_non) (nomark _)) (pd_one (pd_c (pc_is (pd_v (pv 1)) pd_non) (nomark _))))))
    zs_nil)
  (zs_cons (z_set (i := 2) kvD sc__law_exact.nd rfl (.inl rfl) (pd_and (pd_c (pc_eq (pd_isi (by rfl) m_isinstance (by decide +kernel) (pd_v (pv 0)) (pe_bltn (by rfl) m_str (by decide +kernel) (rfl : RelV (.ty "str") _))) (pd_isi (by rfl) m_isinstance (by decide +kernel) (pd_v (pv 1)) (pe_bltn (by rfl) m_str (by decide +kernel) (rfl : RelV (.ty "str") _)))) (nomark _)) (pd_one (pd_c (pc_eq (pd_isi (by rfl) m_isinstance (by decide +kernel) (pd_v (pv 0)) (pe_bltn (by rfl) m_bool (by decide +kernel) (rfl : RelV (.ty "bool") _))) (pd_isi (by rfl) m_isinstance (by decide +kernel) (pd_v (pv 1)) (pe_bltn (by rfl) m_bool (by decide +kernel) (rfl : RelV (.ty "bool") _)))) (nomark _)))))
  (zs_one (z_ret kvD (pd_and (pd_v (pv 2)) (pd_and (pd_c (pc_eq (pd_isi (by rfl) m_isinstance (by decide +kernel) (pd_v (pv 0)) (pe_bltn (by rfl) m_int (by decide +kernel) (rfl : RelV (.ty "int") _))) (pd_isi (by rfl) m_isinstance (by decide +kernel) (pd_v (pv 1)) (pe_bltn (by rfl) m_int (by decide +kernel) (rfl : RelV (.ty "int") _)))) (nomark _)) (pd_one (pd_c (pc_eq (pd_v (pv 0)) (pd_v (pv 1))) (nomark _)))))))))), ?_⟩
  rintro pvs Q ⟨d, rfl, x, q⟩
  cases d with
  | list l =>
    refine zif_T (fun Q q => xb_isi2 (x := (.list l)) (b := true) (b' := false) (fun _ q => q) (by dsimp only [tyN]; decide +kernel) (by dsimp only [tyN]; decide +kernel) q) ?_
    refine zif_N (fun Q q => xor_FF (fun _ q => eqIsi (neg := true) (T := "list") (x := (.list l)) (b := true) (fun _ q => q) (fun _ q => q) (by dsimp only [tyN]; decide +kernel) q) (fun _ q => eqIsi (neg := true) (T := "tuple") (x := (.list l)) (b := false) (fun _ q => q) (fun _ q => q) (by dsimp only [tyN]; decide +kernel) q) q) ?_
    dsimp only
    refine zret_to (d := .bool true) (fun Q q => ?_) ?_
    case refine_2 => exact q
    refine xandV_T (fun _ q => eqPT (x := .int (l.length : Nat)) (by simp [eqP]) q) ?_
    obtain ⟨x1, x2⟩ := (show (∀ y ∈ l, Exd n y) ∧ l.length ≤ 1000000 from x)
    refine ⟨⟨by dsimp only; omega, by dsimp only; omega⟩, ?_⟩
    refine compT_map (fun _ => .bool true) _ _ (fun i d B C hd hB => ?_) (line3 (by rw [intsD_len]; dsimp only; omega)) ⟨rfl, ?_⟩
    · obtain ⟨hi, rfl⟩ := intsD_get hd
      rw [Int.toNat_natCast] at hi
      have hl := List.getElem?_eq_getElem hi
      refine ixTo (by rw [Int.zero_add]; exact atI_nat (j := i) hl) ?_
      refine ixTo (by rw [Int.zero_add]; exact atI_nat (j := i) hl) ?_
      exact ⟨_, rfl, x1 _ (List.getElem_mem hi), hB⟩
    · rw [List.map_const', intsD_len, Int.toNat_natCast]
      refine someTo (trues _) ?_
      rw [show (List.replicate l.length true).all id = true by simp]
      exact q
  | tuple l =>
    refine zif_T (fun Q q => xb_isi2 (x := (.tuple l)) (b := false) (b' := true) (fun _ q => q) (by dsimp only [tyN]; decide +kernel) (by dsimp only [tyN]; decide +kernel) q) ?_
    refine zif_N (fun Q q => xor_FF (fun _ q => eqIsi (neg := true) (T := "list") (x := (.tuple l)) (b := false) (fun _ q => q) (fun _ q => q) (by dsimp only [tyN]; decide +kernel) q) (fun _ q => eqIsi (neg := true) (T := "tuple") (x := (.tuple l)) (b := true) (fun _ q => q) (fun _ q => q) (by dsimp only [tyN]; decide +kernel) q) q) ?_
    dsimp only
    refine zret_to (d := .bool true) (fun Q q => ?_) ?_
    case refine_2 => exact q
    refine xandV_T (fun _ q => eqPT (x := .int (l.length : Nat)) (by simp [eqP]) q) ?_
    obtain ⟨x1, x2⟩ := (show (∀ y ∈ l, Exd n y) ∧ l.length ≤ 1000000 from x)
    refine ⟨⟨by dsimp only; omega, by dsimp only; omega⟩, ?_⟩
    refine compT_map (fun _ => .bool true) _ _ (fun i d B C hd hB => ?_) (line3 (by rw [intsD_len]; dsimp only; omega)) ⟨rfl, ?_⟩
    · obtain ⟨hi, rfl⟩ := intsD_get hd
      rw [Int.toNat_natCast] at hi
      have hl := List.getElem?_eq_getElem hi
      refine ixTo (by rw [Int.zero_add]; exact atI_nat (j := i) hl) ?_
      refine ixTo (by rw [Int.zero_add]; exact atI_nat (j := i) hl) ?_
      exact ⟨_, rfl, x1 _ (List.getElem_mem hi), hB⟩
    · rw [List.map_const', intsD_len, Int.toNat_natCast]
      refine someTo (trues _) ?_
      rw [show (List.replicate l.length true).all id = true by simp]
      exact q
  | none =>
    refine zif_N (fun Q q => xb_isi2 (x := .none) (b := false) (b' := false) (fun _ q => q) (by dsimp only [tyN]; decide +kernel) (by dsimp only [tyN]; decide +kernel) q) ?_
    exact q
  | int i =>
    refine zif_N (fun Q q => xb_isi2 (x := (.int i)) (b := false) (b' := false) (fun _ q => q) (by dsimp only [tyN]; decide +kernel) (by dsimp only [tyN]; decide +kernel) q) ?_
    dsimp only
    refine zif_N (fun _ q => q) ?_
    dsimp only
    refine zset_to (d := .bool true) (fun Q q => ?_) ?_
    case refine_1 => exact xandV_T (fun _ q => eqIsi (neg := false) (T := "str") (x := (.int i)) (b := false) (fun _ q => q) (fun _ q => q) (by dsimp only [tyN]; decide +kernel) q) (eqIsi (neg := false) (T := "bool") (x := (.int i)) (b := false) (fun _ q => q) (fun _ q => q) (by dsimp only [tyN]; decide +kernel) q)
    dsimp only
    refine zret_to (d := .bool true) (fun Q q => ?_) ?_
    case refine_2 => exact q
    exact xandV_T (fun _ q => q) (xandV_T (fun _ q => eqIsi (neg := false) (T := "int") (x := (.int i)) (b := true) (fun _ q => q) (fun _ q => q) (by dsimp only [tyN]; decide +kernel) q) (eqPT (x := (.int i)) (by simp [eqP]) q))
  | bool b =>
    refine zif_N (fun Q q => xb_isi2 (x := (.bool b)) (b := false) (b' := false) (fun _ q => q) (by dsimp only [tyN]; decide +kernel) (by dsimp only [tyN]; decide +kernel) q) ?_
    dsimp only
    refine zif_N (fun _ q => q) ?_
    dsimp only
    refine zset_to (d := .bool true) (fun Q q => ?_) ?_
    case refine_1 => exact xandV_T (fun _ q => eqIsi (neg := false) (T := "str") (x := (.bool b)) (b := false) (fun _ q => q) (fun _ q => q) (by dsimp only [tyN]; decide +kernel) q) (eqIsi (neg := false) (T := "bool") (x := (.bool b)) (b := true) (fun _ q => q) (fun _ q => q) (by dsimp only [tyN]; decide +kernel) q)
    dsimp only
    refine zret_to (d := .bool true) (fun Q q => ?_) ?_
    case refine_2 => exact q
    exact xandV_T (fun _ q => q) (xandV_T (fun _ q => eqIsi (neg := false) (T := "int") (x := (.bool b)) (b := true) (fun _ q => q) (fun _ q => q) (by dsimp only [tyN]; decide +kernel) q) (eqPT (x := (.bool b)) (by simp [eqP]) q))
  | str z =>
    refine zif_N (fun Q q => xb_isi2 (x := (.str z)) (b := false) (b' := false) (fun _ q => q) (by dsimp only [tyN]; decide +kernel) (by dsimp only [tyN]; decide +kernel) q) ?_
    dsimp only
    refine zif_N (fun _ q => q) ?_
    dsimp only
    refine zset_to (d := .bool true) (fun Q q => ?_) ?_
    case refine_1 => exact xandV_T (fun _ q => eqIsi (neg := false) (T := "str") (x := (.str z)) (b := true) (fun _ q => q) (fun _ q => q) (by dsimp only [tyN]; decide +kernel) q) (eqIsi (neg := false) (T := "bool") (x := (.str z)) (b := false) (fun _ q => q) (fun _ q => q) (by dsimp only [tyN]; decide +kernel) q)
    dsimp only
    refine zret_to (d := .bool true) (fun Q q => ?_) ?_
    case refine_2 => exact q
    exact xandV_T (fun _ q => q) (xandV_T (fun _ q => eqIsi (neg := false) (T := "int") (x := (.str z)) (b := false) (fun _ q => q) (fun _ q => q) (by dsimp only [tyN]; decide +kernel) q) (eqPT (x := (.str z)) (by simp [eqP]) q))
  | dict z => exact (show False from x).elim
end
end K73
set_option Elab.async false
set_option linter.all false
set_option maxRecDepth 100000
set_option maxHeartbeats 4000000
set_option pp.maxSteps 400
namespace K73
open PySem PySem.Spec PyProof.Rows L2 PL
section
variable {P : Program} {w : World} {K : PySem.W.Frag} {mg : Str → Option Value} {base : Heap} {f : Addr} {fd : FuncData} {tM : Tok}
theorem never_law_exact {r : Nat} : FnOk P w K mg base CX0 r f fd ["first", "second"] (Prm K (tfExact 0)) :=
  ⟨fun vs H Q E ⟨_, _, _, _, _, _, _, _, x, _⟩ => (show False from x).elim, fun A outer s H args us vs Q E _ _ _ _ ⟨_, _, _, _, _, _, _, _, x, _⟩ => (show False from x).elim⟩
theorem ok__law_exact (F__law_exact : Fun K "_law_exact" "_law_exact" s__law_exact f fd) (g__law_exact : mg "_law_exact" = some (.ref f)) (b__law_exact : Binds K fd ["first", "second"] []) (m_isinstance : mg "isinstance" = none) (m_list : mg "list" = none) (m_tuple : mg "tuple" = none) (m_len : mg "len" = none) (m_all : mg "all" = none) (m_range : mg "range" = none) (m_str : mg "str" = none) (m_bool : mg "bool" = none) (m_int : mg "int" = none) : ∀ n : Nat, FnOk P w K mg base CX0 (n + 1) f fd ["first", "second"] (Prm K (tfExact n))
  | 0 => never_law_exact
  | n + 1 => ex_law_exact n F__law_exact g__law_exact (ok__law_exact F__law_exact g__law_exact b__law_exact m_isinstance m_list m_tuple m_len m_all m_range m_str m_bool m_int n) b__law_exact m_isinstance m_list m_tuple m_len m_all m_range m_str m_bool m_int
end
end K73
set_option Elab.async false
set_option linter.all false
set_option maxRecDepth 100000
set_option maxHeartbeats 4000000
namespace K73
/-! ### things laid one behind the other -/
/-- a part: 0 a number, 1 a thing, 2 a def -/
structure Pt where
  k : Nat
  v : Int
structure Th where
  sort : Int
  parts : List Pt
  code : Int
def bitsP : List Pt → Int
  | [] => 0
  | p :: r => (if p.k = 0 then 0 else 1) + 2 * bitsP r
def Th.ex (t : Th) : Int := if t.sort = 2 then 1 else 0
def Th.size (t : Th) : Int := 1 + t.parts.length + t.ex
def Th.bits (t : Th) : Int := if t.sort = 2 then bitsP t.parts else 0
def Th.head (t : Th) : Int := t.sort + 4 * t.parts.length + 4000000 * t.bits
def enc (st : Int → Int) (p : Pt) : Int := if p.k = 1 then st p.v else if p.k = 2 then -1 - p.v else p.v
def Th.pre (t : Th) : List Int := if t.sort = 2 then [t.code] else []
def layT (st : Int → Int) (t : Th) : List Int := t.head :: (t.pre ++ t.parts.map (enc st))
structure Th.Ok (n : Nat) (t : Th) : Prop where
  sort : t.sort = 0 ∨ t.sort = 1 ∨ t.sort = 2
  len : t.parts.length ≤ 3
  s0 : t.sort = 0 → ∀ p ∈ t.parts, p.k = 0
  s1 : t.sort = 1 → ∀ p ∈ t.parts, p.k ≠ 0
  pt : ∀ p ∈ t.parts, p.k = 1 → 0 ≤ p.v ∧ p.v < n
  df : ∀ p ∈ t.parts, p.k = 2 → 0 ≤ p.v
  kk : ∀ p ∈ t.parts, p.k ≤ 2
/-- the places of the pointers, from k on -/
def ptsFrom : List Pt → Int → List Int
  | [], _ => []
  | p :: r, k => (if p.k = 0 then [] else [k]) ++ ptsFrom r (k + 1)
def Th.pts (t : Th) : List Int := if t.sort = 0 then [] else ptsFrom t.parts (1 + t.ex)
theorem bitsP_bd : ∀ l : List Pt, 0 ≤ bitsP l
  | [] => Int.le_refl _
  | p :: r => by
    have := bitsP_bd r
    unfold bitsP
    split <;> omega
theorem Th.Ok.bits0 {n : Nat} {t : Th} (h : t.Ok n) : 0 ≤ t.bits := by
  unfold Th.bits
  have := bitsP_bd t.parts
  split <;> omega
theorem head_facts {n : Nat} {t : Th} (h : t.Ok n) : t.head % 4 = t.sort ∧ sizeW t.head = t.parts.length ∧ t.head / 4000000 = t.bits ∧ 0 ≤ t.head := by
  have b := h.bits0
  have l := h.len
  have s := h.sort
  unfold sizeW Th.head
  refine ⟨by omega, by omega, by omega, by omega⟩
theorem thing_head {n : Nat} {t : Th} (h : t.Ok n) : thingW t.head = t.size := by
  obtain ⟨h1, h2, _, _⟩ := head_facts h
  unfold thingW Th.size Th.ex
  rw [h1, h2]
theorem bits_pts : ∀ (l : List Pt) (k : Int), bitsFrom l.length k (bitsP l) = ptsFrom l (2 + k)
  | [], _ => rfl
  | p :: r, k => by
    have b := bitsP_bd r
    rw [List.length_cons, bitsFrom, ptsFrom, bitsP]
    have e1 : ((if p.k = 0 then (0 : Int) else 1) + 2 * bitsP r) / 2 = bitsP r := by split <;> omega
    rw [e1, bits_pts r (k + 1), show 2 + (k + 1) = 2 + k + 1 by omega]
    congr 1
    by_cases z : p.k = 0
    · rw [if_pos z, if_pos z, if_neg (by omega)]
    · rw [if_neg z, if_neg z, if_pos (by omega)]
theorem all_pts : ∀ (l : List Pt) (k : Int), (∀ p ∈ l, p.k ≠ 0) → ptsFrom l k = (List.range l.length).map fun i => k + (i : Nat)
  | [], _, _ => rfl
  | p :: r, k, h => by
    rw [ptsFrom, if_neg (h p (List.mem_cons_self ..)), all_pts r (k + 1) fun q hq => h q (List.mem_cons_of_mem _ hq), List.length_cons, List.range_succ_eq_map, List.map_cons, List.map_map]
    simp only [List.singleton_append, List.cons.injEq]
    refine ⟨by simp, ?_⟩
    apply List.map_congr_left
    intro i _
    show k + 1 + (i : Int) = k + ((i + 1 : Nat) : Int)
    omega
theorem ptrs_head {n : Nat} {t : Th} (h : t.Ok n) : ptrs t.head = t.pts := by
  obtain ⟨h1, h2, h3, _⟩ := head_facts h
  unfold ptrs Th.pts
  rw [h1, h2, h3]
  rcases h.sort with z | z | z
  · rw [z]
    rfl
  · have hk := h.s1 z
    rw [if_neg (by omega), if_pos z, if_neg (by omega), all_pts _ _ hk]
    unfold Th.ex
    rw [if_neg (by omega)]
    rfl
  · rw [if_pos z, if_neg (by omega)]
    unfold Th.ex Th.bits
    rw [if_pos z, if_pos z]
    exact bits_pts t.parts 0
theorem layT_len (st : Int → Int) (t : Th) : ((layT st t).length : Int) = t.size := by
  unfold layT Th.size Th.ex Th.pre
  simp
  split <;> simp <;> omega
/-- where the pointers of a thing lead, numbers are left out -/
def Th.heads (st : Int → Int) (t : Th) : List Int := (t.parts.filter fun p => decide (p.k ≠ 0)).map (enc st)
theorem pts_bd : ∀ (l : List Pt) (k : Int), ∀ x ∈ ptsFrom l k, k ≤ x ∧ x < k + l.length
  | [], _, x, h => by cases h
  | p :: r, k, x, h => by
    rw [ptsFrom] at h
    rcases List.mem_append.mp h with h | h
    · split at h
      · cases h
      · rw [List.mem_singleton.mp h]
        simp
        omega
    · have := pts_bd r (k + 1) x h
      simp
      omega
theorem getD_app {a b : List Int} {i : Int} (h : i = (a.length : Int)) : wAt (a ++ b) i = b.headD 0 := by
  unfold wAt
  rw [h, Int.toNat_natCast, List.getD_eq_getElem?_getD, List.getElem?_append_right (Nat.le_refl _), Nat.sub_self]
  cases b <;> rfl
theorem pts_heads (st : Int → Int) : ∀ (l : List Pt) (pre post : List Int), (ptsFrom l pre.length).map (fun p => wAt (pre ++ (l.map (enc st) ++ post)) p) = (l.filter fun p => decide (p.k ≠ 0)).map (enc st)
  | [], _, _ => rfl
  | p :: r, pre, post => by
    have ih := pts_heads st r (pre ++ [enc st p]) post
    have e : pre ++ [enc st p] ++ (r.map (enc st) ++ post) = pre ++ ((p :: r).map (enc st) ++ post) := by simp
    rw [e] at ih
    rw [ptsFrom, List.map_append, List.filter_cons]
    have e2 : ((pre ++ [enc st p]).length : Int) = pre.length + 1 := by simp
    rw [e2] at ih
    rw [ih]
    by_cases z : p.k = 0
    · rw [if_pos z, if_neg (by simp [z])]
      rfl
    · rw [if_neg z, if_pos (by simp [z])]
      simp only [List.map_cons, List.map_nil, List.singleton_append, List.cons.injEq, and_true]
      rw [getD_app rfl]
      rfl
/-- what a laid thing's pointers are -/
theorem pts_layT (st : Int → Int) {n : Nat} {t : Th} (h : t.Ok n) (pre post : List Int) : (ptrs t.head).map (fun p => wAt (pre ++ (layT st t ++ post)) ((pre.length : Int) + p)) = if t.sort = 0 then [] else t.heads st := by
  rw [ptrs_head h]
  unfold Th.pts
  by_cases z : t.sort = 0
  · rw [if_pos z, if_pos z]
    rfl
  · rw [if_neg z, if_neg z]
    have q := pts_heads st t.parts (pre ++ (t.head :: t.pre)) post
    have e1 : pre ++ (t.head :: t.pre) ++ (t.parts.map (enc st) ++ post) = pre ++ (layT st t ++ post) := by simp [layT]
    have e2 : ((pre ++ (t.head :: t.pre)).length : Int) = pre.length + (1 + t.ex) := by
      unfold Th.pre Th.ex
      split <;> simp
    rw [e1, e2] at q
    unfold Th.heads
    rw [← q]
    have : ∀ (l : List Pt) (k d : Int), (ptsFrom l (d + k)).map (fun p => wAt (pre ++ (layT st t ++ post)) p) = (ptsFrom l k).map fun p => wAt (pre ++ (layT st t ++ post)) (d + p) := fun l => by
      induction l with
      | nil => intro _ _; rfl
      | cons p r ih =>
        intro k d
        rw [ptsFrom, ptsFrom, List.map_append, List.map_append, show d + k + 1 = d + (k + 1) by omega, ih]
        congr 1
        split <;> rfl
    exact (this _ _ _).symm
end K73
namespace K73
/-! ### a laid heap -/
def offs (th : Int → Th) : Int → List Int → Int → Int
  | _, [], _ => 0
  | o, a :: r, j => if a = j then o else offs th (o + (th a).size) r j
def layAll (th : Int → Th) (st : Int → Int) (ord : List Int) : List Int := ord.flatMap fun j => layT st (th j)
def tp (th : Int → Th) (j : Int) : List Int := ((th j).parts.filter fun p => decide (p.k = 1)).map Pt.v
structure Laid (th : Int → Th) (n : Nat) (ord : List Int) : Prop where
  nd : ord.Nodup
  ok : ∀ j ∈ ord, (th j).Ok n
  cl : ∀ j ∈ ord, ∀ v ∈ tp th j, v ∈ ord
  pos : ∀ j ∈ ord, 0 ≤ j
theorem layAll_app (th : Int → Th) (st : Int → Int) (l m : List Int) : layAll th st (l ++ m) = layAll th st l ++ layAll th st m := List.flatMap_append
theorem layAll_len (th : Int → Th) (st st' : Int → Int) (l : List Int) : (layAll th st l).length = (layAll th st' l).length := by
  induction l with
  | nil => rfl
  | cons a r ih =>
    have h1 := layT_len st (th a)
    have h2 := layT_len st' (th a)
    unfold layAll at ih ⊢
    rw [List.flatMap_cons, List.flatMap_cons, List.length_append, List.length_append, ih]
    omega
theorem layAll_cons (th : Int → Th) (st : Int → Int) (a : Int) (r : List Int) : (layAll th st (a :: r)).length = (layT st (th a)).length + (layAll th st r).length := by
  unfold layAll
  rw [List.flatMap_cons, List.length_append]
theorem size_pos (t : Th) : 1 ≤ t.size := by
  unfold Th.size Th.ex
  split <;> omega
theorem offs_split (th : Int → Th) (st : Int → Int) : ∀ (l1 : List Int) (j : Int) (l2 : List Int) (o : Int), j ∉ l1 → offs th o (l1 ++ j :: l2) j = o + (layAll th st l1).length
  | [], j, l2, o, _ => by simp [offs, layAll]
  | a :: r, j, l2, o, h => by
    have ha : a ≠ j := fun e => h (by rw [e]; exact List.mem_cons_self ..)
    rw [List.cons_append, offs, if_neg ha, offs_split th st r j l2 _ fun z => h (List.mem_cons_of_mem _ z)]
    have := layT_len st (th a)
    unfold layAll
    rw [List.flatMap_cons, List.length_append]
    push_cast
    omega
theorem split_at {ord : List Int} {j : Int} (hn : ord.Nodup) (h : j ∈ ord) : ∃ l1 l2, ord = l1 ++ j :: l2 ∧ j ∉ l1 := by
  obtain ⟨l1, l2, e⟩ := List.append_of_mem h
  refine ⟨l1, l2, e, fun hm => ?_⟩
  rw [e, List.nodup_append] at hn
  exact hn.2.2 j hm j (List.mem_cons_self ..) rfl
section
variable {th : Int → Th} {n : Nat} {ord : List Int}
/-- the words around a thing -/
theorem Laid.around (L : Laid th n ord) {j : Int} (h : j ∈ ord) : ∃ pre post, layAll th (offs th 0 ord) ord = pre ++ (layT (offs th 0 ord) (th j) ++ post) ∧ (pre.length : Int) = offs th 0 ord j := by
  obtain ⟨l1, l2, e, hn⟩ := split_at L.nd h
  have hs : ∀ st, layAll th st ord = layAll th st l1 ++ (layT st (th j) ++ layAll th st l2) := fun st => by
    rw [e, layAll_app]
    rfl
  refine ⟨layAll th (offs th 0 ord) l1, layAll th (offs th 0 ord) l2, hs _, ?_⟩
  have := offs_split th (offs th 0 ord) l1 j l2 0 hn
  rw [← e] at this
  omega
theorem Laid.head_at (L : Laid th n ord) {j : Int} (h : j ∈ ord) : wAt (layAll th (offs th 0 ord) ord) (offs th 0 ord j) = (th j).head := by
  obtain ⟨pre, post, e, hl⟩ := L.around h
  rw [e, getD_app hl.symm]
  rfl
theorem Laid.slice_at (L : Laid th n ord) {j : Int} (h : j ∈ ord) : sliceW (layAll th (offs th 0 ord) ord) (offs th 0 ord j) = layT (offs th 0 ord) (th j) := by
  unfold sliceW
  rw [L.head_at h, thing_head (L.ok j h)]
  obtain ⟨pre, post, e, hl⟩ := L.around h
  have h2 := layT_len (offs th 0 ord) (th j)
  rw [e, show (offs th 0 ord j).toNat = pre.length by omega, List.drop_left, show (th j).size.toNat = (layT (offs th 0 ord) (th j)).length by omega, List.take_left]
theorem Laid.bound (L : Laid th n ord) {j : Int} (h : j ∈ ord) : 0 ≤ offs th 0 ord j ∧ offs th 0 ord j + (th j).size ≤ (layAll th (offs th 0 ord) ord).length := by
  obtain ⟨pre, post, e, hl⟩ := L.around h
  have h2 := layT_len (offs th 0 ord) (th j)
  rw [e, List.length_append, List.length_append]
  omega
theorem Laid.succ_at (L : Laid th n ord) {j : Int} (h : j ∈ ord) : succW (layAll th (offs th 0 ord) ord) (offs th 0 ord j) = if (th j).sort = 0 then [] else (th j).heads (offs th 0 ord) := by
  unfold succW
  rw [L.head_at h]
  obtain ⟨pre, post, e, hl⟩ := L.around h
  rw [e, ← hl]
  exact pts_layT _ (L.ok j h) pre post
theorem Laid.inj (L : Laid th n ord) {i j : Int} (hi : i ∈ ord) (hj : j ∈ ord) (e : offs th 0 ord i = offs th 0 ord j) : i = j := by
  obtain ⟨l1, l2, e1, n1⟩ := split_at L.nd hi
  obtain ⟨m1, m2, e2, n2⟩ := split_at L.nd hj
  have o1 := offs_split th id l1 i l2 0 n1
  have o2 := offs_split th id m1 j m2 0 n2
  rw [← e1] at o1
  rw [← e2] at o2
  have le : (layAll th id l1).length = (layAll th id m1).length := by omega
  -- both are beginnings of one row
  have key : ∀ (l1 m1 : List Int) (i j : Int) (l2 m2 : List Int), l1 ++ i :: l2 = m1 ++ j :: m2 → (layAll th id l1).length = (layAll th id m1).length → i = j := fun l1 => by
    induction l1 with
    | nil =>
      intro m1 i j l2 m2 e le
      cases m1 with
      | nil => simpa using (List.cons.inj e).1
      | cons b r =>
        have := layT_len id (th b)
        have := size_pos (th b)
        rw [layAll_cons, show (layAll th id []).length = 0 from rfl] at le
        omega
    | cons a r ih =>
      intro m1 i j l2 m2 e le
      cases m1 with
      | nil =>
        have := layT_len id (th a)
        have := size_pos (th a)
        rw [layAll_cons, show (layAll th id []).length = 0 from rfl] at le
        omega
      | cons b r' =>
        obtain ⟨h1, h2⟩ := List.cons.inj e
        subst h1
        refine ih r' i j l2 m2 h2 ?_
        rw [layAll_cons, layAll_cons] at le
        omega
  exact key l1 m1 i j l2 m2 (e1.symm.trans e2) le
def addrs (th : Int → Th) (ord : List Int) : List Int := ord.map (offs th 0 ord)
theorem Laid.st_mem (L : Laid th n ord) {j : Int} (h : j ∈ ord) : offs th 0 ord j ∈ addrs th ord := List.mem_map.mpr ⟨j, h, rfl⟩
theorem mem_tp {t : Th} {p : Pt} (hp : p ∈ t.parts) (hk : p.k = 1) : p.v ∈ (t.parts.filter fun p => decide (p.k = 1)).map Pt.v := List.mem_map.mpr ⟨p, List.mem_filter.mpr ⟨hp, by simp [hk]⟩, rfl⟩
theorem Laid.closed (L : Laid th n ord) : Closed (layAll th (offs th 0 ord) ord) (addrs th ord) where
  at_ := fun a ha => by
    obtain ⟨j, hj, rfl⟩ := List.mem_map.mp ha
    have := L.bound hj
    have := size_pos (th j)
    omega
  ptr := fun a ha p hp => by
    obtain ⟨j, hj, rfl⟩ := List.mem_map.mp ha
    have hs := L.succ_at hj
    have hm : wAt (layAll th (offs th 0 ord) ord) (offs th 0 ord j + p) ∈ succW (layAll th (offs th 0 ord) ord) (offs th 0 ord j) := List.mem_map.mpr ⟨p, hp, rfl⟩
    rw [L.head_at hj, ptrs_head (L.ok j hj)] at hp
    have hb : 1 ≤ p ∧ p < (th j).size := by
      unfold Th.pts at hp
      split at hp
      · cases hp
      · have := pts_bd _ _ p hp
        unfold Th.size
        have : 0 ≤ (th j).ex := by unfold Th.ex; split <;> omega
        omega
    have := L.bound hj
    refine ⟨by omega, by omega, fun h0 => ?_⟩
    rw [hs] at hm
    split at hm
    · cases hm
    · unfold Th.heads at hm
      obtain ⟨q, hq, e⟩ := List.mem_map.mp hm
      obtain ⟨hq1, hq2⟩ := List.mem_filter.mp hq
      rw [← e]
      rw [← e] at h0
      have hk := (L.ok j hj).kk q hq1
      have hq2 : q.k ≠ 0 := by simpa using hq2
      by_cases z : q.k = 1
      · unfold enc
        rw [if_pos z]
        exact L.st_mem (L.cl j hj _ (mem_tp hq1 z))
      · have z2 : q.k = 2 := by omega
        have := (L.ok j hj).df q hq1 z2
        unfold enc at h0
        rw [if_neg z, if_pos z2] at h0
        omega
theorem flat_bound {ws : List Int} : ∀ (l : List Int), (∀ a ∈ l, (sliceW ws a).length ≤ 5) → (l.flatMap (sliceW ws)).length ≤ 5 * l.length
  | [], _ => Nat.zero_le _
  | a :: r, h => by
    have := flat_bound r fun b hb => h b (List.mem_cons_of_mem _ hb)
    have := h a (List.mem_cons_self ..)
    rw [List.flatMap_cons, List.length_append, List.length_cons]
    omega
theorem Laid.fits (L : Laid th n ord) (hl : ord.length ≤ 100000) : Fits (layAll th (offs th 0 ord) ord) (addrs th ord) where
  toClosed := L.closed
  fit := fun a ha => by
    obtain ⟨j, hj, rfl⟩ := List.mem_map.mp ha
    rw [L.head_at hj, thing_head (L.ok j hj)]
    exact (L.bound hj).2
  small := fun l hT => by
    have h1 := nodup_len hT
    have h2 := flat_bound (ws := layAll th (offs th 0 ord) ord) l fun a ha => by
      obtain ⟨j, hj, rfl⟩ := List.mem_map.mp (hT.sub a ha)
      rw [L.slice_at hj]
      have := layT_len (offs th 0 ord) (th j)
      have := (L.ok j hj).len
      have : (th j).ex ≤ 1 := by unfold Th.ex; split <;> omega
      unfold Th.size at *
      omega
    unfold addrs at h1
    rw [List.length_map] at h1
    omega
/-! ### what is reached -/
theorem push_map (L : Laid th n ord) {told : List Int} {o : Int} (ht : ∀ a ∈ told, a ∈ ord) (ho : o ∈ ord) : pushI (told.map (offs th 0 ord)) (offs th 0 ord o) = (pushI told o).map (offs th 0 ord) := by
  have h0 := (L.bound ho).1
  have h1 := L.pos o ho
  unfold pushI
  by_cases z : o ∈ told
  · rw [if_neg (fun h => h.2 (List.mem_map.mpr ⟨o, z, rfl⟩)), if_neg (fun h => h.2 z)]
  · rw [if_pos ⟨h0, fun h => by
      obtain ⟨a, ha, e⟩ := List.mem_map.mp h
      exact z (by rw [← L.inj (ht a ha) ho e]; exact ha)⟩, if_pos ⟨h1, z⟩, List.map_append]
    rfl
theorem push_mem {told : List Int} {o : Int} {A : List Int} (ht : ∀ a ∈ told, a ∈ A) (ho : o ∈ A) : ∀ a ∈ pushI told o, a ∈ A := fun a ha => by
  unfold pushI at ha
  split at ha
  · rcases List.mem_append.mp ha with h | h
    · exact ht a h
    · rw [List.mem_singleton.mp h]
      exact ho
  · exact ht a ha
theorem push_neg {told : List Int} {o : Int} (h : o < 0) : pushI told o = told := if_neg fun z => by omega
theorem pushes_map (L : Laid th n ord) : ∀ (ps : List Pt) (told : List Int), (∀ a ∈ told, a ∈ ord) → (∀ p ∈ ps, p.k = 1 → p.v ∈ ord) → (∀ p ∈ ps, p.k ≠ 0 → p.k = 1 ∨ (p.k = 2 ∧ 0 ≤ p.v)) →
    ((ps.filter fun p => decide (p.k ≠ 0)).map (enc (offs th 0 ord))).foldl pushI (told.map (offs th 0 ord)) = (((ps.filter fun p => decide (p.k = 1)).map Pt.v).foldl pushI told).map (offs th 0 ord)
  | [], _, _, _, _ => rfl
  | p :: r, told, ht, h1, h2 => by
    have ih := fun told' ht' => pushes_map L r told' ht' (fun q hq => h1 q (List.mem_cons_of_mem _ hq)) fun q hq => h2 q (List.mem_cons_of_mem _ hq)
    by_cases z : p.k = 0
    · rw [List.filter_cons, if_neg (by simp [z]), List.filter_cons, if_neg (by simp [z])]
      exact ih told ht
    · rw [List.filter_cons, if_pos (by simp [z]), List.map_cons, List.foldl_cons]
      rcases h2 p (List.mem_cons_self ..) z with k | ⟨k, v0⟩
      · have ho := h1 p (List.mem_cons_self ..) k
        have e : enc (offs th 0 ord) p = offs th 0 ord p.v := by unfold enc; rw [if_pos k]
        rw [e, push_map L ht ho, List.filter_cons, if_pos (by simp [k]), List.map_cons, List.foldl_cons]
        exact ih _ (push_mem ht ho)
      · have e : enc (offs th 0 ord) p = -1 - p.v := by unfold enc; rw [if_neg (by omega), if_pos k]
        rw [e, push_neg (by omega), List.filter_cons, if_neg (by simp [k])]
        exact ih told ht
theorem pushes_mem {A : List Int} : ∀ (os told : List Int), (∀ a ∈ told, a ∈ A) → (∀ o ∈ os, o ∈ A) → ∀ a ∈ os.foldl pushI told, a ∈ A
  | [], _, h, _ => h
  | o :: os, told, h, ho => pushes_mem os _ (push_mem h (ho o (List.mem_cons_self ..))) fun x hx => ho x (List.mem_cons_of_mem _ hx)
theorem succ_push (L : Laid th n ord) {j : Int} (hj : j ∈ ord) {told : List Int} (ht : ∀ a ∈ told, a ∈ ord) : (succW (layAll th (offs th 0 ord) ord) (offs th 0 ord j)).foldl pushI (told.map (offs th 0 ord)) = ((tp th j).foldl pushI told).map (offs th 0 ord) := by
  have ok := L.ok j hj
  rw [L.succ_at hj]
  have main := pushes_map L (th j).parts told ht (fun p hp k => L.cl j hj _ (mem_tp hp k)) fun p hp k => by
    have := ok.kk p hp
    by_cases z : p.k = 1
    · exact .inl z
    · exact .inr ⟨by omega, ok.df p hp (by omega)⟩
  by_cases z : (th j).sort = 0
  · rw [if_pos z]
    have e : (th j).parts.filter (fun p => decide (p.k ≠ 0)) = [] := by
      rw [List.filter_eq_nil_iff]
      intro p hp
      simp [ok.s0 z p hp]
    rw [e] at main
    exact main
  · rw [if_neg z]
    exact main
theorem bfs_map (L : Laid th n ord) : ∀ (m : Nat) (told : List Int) (here : Nat), (∀ a ∈ told, a ∈ ord) → bfs (succW (layAll th (offs th 0 ord) ord)) m (told.map (offs th 0 ord)) here = (bfs (tp th) m told here).map (offs th 0 ord)
  | 0, _, _, _ => rfl
  | m + 1, told, here, ht => by
    rw [bfs, bfs, List.getElem?_map]
    cases h : told[here]? with
    | none => rfl
    | some j =>
      have hj := ht j (List.mem_of_getElem? h)
      show bfs _ m (List.foldl pushI (told.map (offs th 0 ord)) (succW _ (offs th 0 ord j))) (here + 1) = _
      rw [succ_push L hj ht]
      exact bfs_map L m _ _ (pushes_mem _ _ ht fun o ho => L.cl j hj o ho)
/-- the law's own row -/
def rowJ (th : Int → Th) (m : Nat) (roots : List Int) : List Int := bfs (tp th) m (roots.foldl pushI []) 0
def ask (st : Int → Int) (r : Option Int) : Int := match r with | none => -3 | some j => st j
theorem ask_push (L : Laid th n ord) : ∀ (rs : List (Option Int)) (told : List Int), (∀ a ∈ told, a ∈ ord) → (∀ j, some j ∈ rs → j ∈ ord) → (rs.map (ask (offs th 0 ord))).foldl pushI (told.map (offs th 0 ord)) = ((rs.filterMap id).foldl pushI told).map (offs th 0 ord)
  | [], _, _, _ => rfl
  | none :: rs, told, ht, hr => by
    show (rs.map (ask (offs th 0 ord))).foldl pushI (pushI (told.map (offs th 0 ord)) (-3)) = _
    rw [push_neg (by decide)]
    exact ask_push L rs told ht fun j hj => hr j (List.mem_cons_of_mem _ hj)
  | some o :: rs, told, ht, hr => by
    have ho := hr o (List.mem_cons_self ..)
    show (rs.map (ask (offs th 0 ord))).foldl pushI (pushI (told.map (offs th 0 ord)) (offs th 0 ord o)) = ((rs.filterMap id).foldl pushI (pushI told o)).map (offs th 0 ord)
    rw [push_map L ht ho]
    exact ask_push L rs _ (push_mem ht ho) fun j hj => hr j (List.mem_cons_of_mem _ hj)
theorem reach_laid (L : Laid th n ord) {rs : List (Option Int)} (hr : ∀ j, some j ∈ rs → j ∈ ord) : reachW (layAll th (offs th 0 ord) ord) (addrs th ord) (rs.map (ask (offs th 0 ord))) = (rowJ th ord.length (rs.filterMap id)).map (offs th 0 ord) := by
  unfold reachW rowJ addrs
  have h := ask_push L rs [] (fun a h => by cases h) hr
  rw [List.map_nil] at h
  rw [h, List.length_map]
  refine bfs_map L _ _ _ (pushes_mem _ _ (fun a h => by cases h) fun o ho => ?_)
  obtain ⟨x, hx, e⟩ := List.mem_filterMap.mp ho
  cases x with
  | none => cases e
  | some j =>
    cases e
    exact hr _ hx
end
end K73
namespace K73
/-! ### the row is closed -/
theorem push_keep {told : List Int} {o a : Int} (h : a ∈ told) : a ∈ pushI told o := by
  unfold pushI
  split
  · exact List.mem_append_left _ h
  · exact h
theorem push_in {told : List Int} {o : Int} (h : 0 ≤ o) : o ∈ pushI told o := by
  unfold pushI
  split
  · exact List.mem_append_right _ (List.mem_singleton.mpr rfl)
  · rename_i z
    exact Classical.not_not.mp fun q => z ⟨h, q⟩
theorem pushes_keep {a : Int} : ∀ (os told : List Int), a ∈ told → a ∈ os.foldl pushI told
  | [], _, h => h
  | o :: os, _, h => pushes_keep os _ (push_keep h)
theorem pushes_in : ∀ (os told : List Int), ∀ o ∈ os, 0 ≤ o → o ∈ os.foldl pushI told
  | o :: os, told, x, hx, h0 => by
    rcases List.mem_cons.mp hx with e | e
    · rw [e]
      exact pushes_keep os _ (push_in (by rw [← e]; exact h0))
    · exact pushes_in os _ x e h0
theorem push_pre (told : List Int) (o : Int) : ∃ t, pushI told o = told ++ t := by
  unfold pushI
  split
  · exact ⟨[o], rfl⟩
  · exact ⟨[], by simp⟩
theorem pushes_pre : ∀ (os told : List Int), ∃ t, os.foldl pushI told = told ++ t
  | [], told => ⟨[], by simp⟩
  | o :: os, told => by
    obtain ⟨t, h⟩ := push_pre told o
    obtain ⟨u, h2⟩ := pushes_pre os (pushI told o)
    exact ⟨t ++ u, by rw [List.foldl_cons, h2, h, List.append_assoc]⟩
theorem bfs_keep (succ : Int → List Int) {a : Int} : ∀ (m : Nat) (told : List Int) (here : Nat), a ∈ told → a ∈ bfs succ m told here
  | 0, _, _, h => h
  | m + 1, told, here, h => by
    rw [bfs]
    split
    · exact bfs_keep succ m _ _ (pushes_keep _ _ h)
    · exact h
/-- enough turns close the row -/
theorem bfs_closed {A : List Int} {succ : Int → List Int} (hs : ∀ a ∈ A, ∀ o ∈ succ a, o ∈ A) (hp : ∀ a ∈ A, 0 ≤ a) : ∀ (m : Nat) (told : List Int) (here : Nat), Told A told → A.length - here ≤ m → (∀ i a, i < here → told[i]? = some a → ∀ o ∈ succ a, o ∈ told) → ∀ a ∈ bfs succ m told here, ∀ o ∈ succ a, o ∈ bfs succ m told here
  | 0, told, here, ht, hm, hc => fun a ha o ho => by
    obtain ⟨i, hi, e⟩ := List.getElem_of_mem (show a ∈ told from ha)
    have := nodup_len ht
    exact hc i a (by omega) (by rw [List.getElem?_eq_getElem hi, e]) o ho
  | m + 1, told, here, ht, hm, hc => by
    rw [bfs]
    cases h : told[here]? with
    | none =>
      intro a ha o ho
      obtain ⟨i, hi, e⟩ := List.getElem_of_mem (show a ∈ told from ha)
      have : told.length ≤ here := List.getElem?_eq_none_iff.mp h
      exact hc i a (by omega) (by rw [List.getElem?_eq_getElem hi, e]) o ho
    | some x =>
      have hx := ht.sub x (List.mem_of_getElem? h)
      obtain ⟨t, et⟩ := pushes_pre (succ x) told
      refine bfs_closed hs hp m _ _ (Told.pushes _ _ ht fun o ho _ => hs x hx o ho) (by omega) fun i a hi ha o ho => ?_
      have hlt : here < told.length := (List.getElem?_eq_some_iff.mp h).1
      by_cases z : i = here
      · rw [et, List.getElem?_append_left (by omega), z, h] at ha
        cases ha
        exact pushes_in _ _ o ho (hp o (hs x hx o ho))
      · rw [et, List.getElem?_append_left (by omega)] at ha
        exact pushes_keep _ _ (hc i a (by omega) ha o ho)
/-- more turns than needed do nothing -/
theorem bfs_more {A : List Int} {succ : Int → List Int} (hs : ∀ a ∈ A, ∀ o ∈ succ a, o ∈ A) : ∀ (k m : Nat) (told : List Int) (here : Nat), Told A told → A.length - here = k → k ≤ m → bfs succ m told here = bfs succ k told here
  | 0, m, told, here, ht, hk, _ => by
    have := nodup_len ht
    cases m with
    | zero => rfl
    | succ m =>
      have h : told[here]? = none := List.getElem?_eq_none (by omega)
      rw [bfs, bfs, h]
  | k + 1, m, told, here, ht, hk, hm => by
    obtain ⟨m, rfl⟩ : ∃ m', m = m' + 1 := ⟨m - 1, by omega⟩
    rw [bfs, bfs]
    cases h : told[here]? with
    | none => rfl
    | some x => exact bfs_more hs k m _ _ (Told.pushes _ _ ht fun o ho _ => hs x (ht.sub x (List.mem_of_getElem? h)) o ho) (by omega) (by omega)
section
variable {th : Int → Th} {n : Nat} {ord : List Int} {rs : List Int}
theorem told_nil {A : List Int} : Told A [] := ⟨List.nodup_nil, fun a h => by cases h⟩
theorem Laid.row (L : Laid th n ord) (hr : ∀ j ∈ rs, j ∈ ord) : Told ord (rowJ th ord.length rs) := bfs_told (fun a ha o ho _ => L.cl a ha o ho) _ _ _ (Told.pushes _ _ told_nil fun o ho _ => hr o ho)
theorem Laid.sub (L : Laid th n ord) (hr : ∀ j ∈ rs, j ∈ ord) : Laid th n (rowJ th ord.length rs) where
  nd := (L.row hr).nd
  ok := fun j hj => L.ok j ((L.row hr).sub j hj)
  cl := bfs_closed (fun a ha o ho => L.cl a ha o ho) L.pos _ _ _ (Told.pushes _ _ told_nil fun o ho _ => hr o ho) (by omega) fun i a hi => absurd hi (Nat.not_lt_zero _)
  pos := fun j hj => L.pos j ((L.row hr).sub j hj)
theorem Laid.root (L : Laid th n ord) (hr : ∀ j ∈ rs, j ∈ ord) {j : Int} (hj : j ∈ rs) : j ∈ rowJ th ord.length rs := bfs_keep _ _ _ _ (pushes_in _ _ j hj (L.pos j (hr j hj)))
/-- the row of the row -/
theorem Laid.again (L : Laid th n ord) (hr : ∀ j ∈ rs, j ∈ ord) : rowJ th (rowJ th ord.length rs).length rs = rowJ th ord.length rs := by
  have S := L.sub hr
  have hk := nodup_len (L.row hr)
  have := bfs_more (A := rowJ th ord.length rs) (succ := tp th) S.cl (rowJ th ord.length rs).length ord.length (rs.foldl pushI []) 0 (Told.pushes _ _ told_nil fun o ho _ => L.root hr ho) rfl hk
  exact this.symm
/-! ### a collection of a laid heap -/
theorem fix_pts (bk : List (Int × Int)) (st st2 : Int → Int) : ∀ (l : List Pt) (pre post : List Int), (∀ p ∈ l, p.k ≠ 0 → place bk (enc st p) = enc st2 p) → (∀ p ∈ l, p.k = 0 → enc st p = enc st2 p) →
    (ptsFrom l pre.length).foldl (put1 bk) (pre ++ (l.map (enc st) ++ post)) = pre ++ (l.map (enc st2) ++ post)
  | [], _, _, _, _ => rfl
  | p :: r, pre, post, h1, h2 => by
    have ih := fix_pts bk st st2 r (pre ++ [enc st2 p]) post (fun q hq => h1 q (List.mem_cons_of_mem _ hq)) fun q hq => h2 q (List.mem_cons_of_mem _ hq)
    have e2 : ((pre ++ [enc st2 p]).length : Int) = pre.length + 1 := by simp
    have e3 : pre ++ [enc st2 p] ++ (r.map (enc st2) ++ post) = pre ++ ((p :: r).map (enc st2) ++ post) := by simp
    have e4 : pre ++ [enc st2 p] ++ (r.map (enc st) ++ post) = pre ++ (enc st2 p :: (r.map (enc st) ++ post)) := by simp
    rw [e2, e3, e4] at ih
    rw [ptsFrom]
    by_cases z : p.k = 0
    · rw [if_pos z, List.nil_append]
      have := h2 p (List.mem_cons_self ..) z
      rw [← ih, List.map_cons, this]
      rfl
    · rw [if_neg z, List.singleton_append, List.foldl_cons]
      have e5 : put1 bk (pre ++ ((p :: r).map (enc st) ++ post)) pre.length = pre ++ (enc st2 p :: (r.map (enc st) ++ post)) := by
        unfold put1
        rw [getD_app rfl, Int.toNat_natCast, List.set_append_right _ _ (Nat.le_refl _), Nat.sub_self]
        show pre ++ (place bk (enc st p) :: _) = _
        rw [h1 p (List.mem_cons_self ..) z]
        rfl
      rw [e5]
      exact ih
theorem ptsFrom_shift : ∀ (l : List Pt) (k d : Int), (ptsFrom l k).map (fun p => d + p) = ptsFrom l (d + k)
  | [], _, _ => rfl
  | p :: r, k, d => by
    rw [ptsFrom, ptsFrom, List.map_append, ptsFrom_shift r, show d + (k + 1) = d + k + 1 by omega]
    congr 1
    split <;> rfl
/-- one thing is put right -/
theorem fix_thing {t : Th} (h : t.Ok n) (bk : List (Int × Int)) (st st2 : Int → Int) (pre post : List Int) (h1 : ∀ p ∈ t.parts, p.k = 1 → place bk (st p.v) = st2 p.v) (h2 : ∀ x, x < 0 → place bk x = x) :
    ((ptrs t.head).map fun p => (pre.length : Int) + p).foldl (put1 bk) (pre ++ (layT st t ++ post)) = pre ++ (layT st2 t ++ post) := by
  have k0 : ∀ p ∈ t.parts, p.k = 0 → enc st p = enc st2 p := fun p _ z => by
    unfold enc
    rw [if_neg (by omega), if_neg (by omega), if_neg (by omega)]
  rw [ptrs_head h]
  unfold Th.pts
  by_cases z : t.sort = 0
  · rw [if_pos z]
    have : t.parts.map (enc st) = t.parts.map (enc st2) := List.map_congr_left fun p hp => k0 p hp (h.s0 z p hp)
    unfold layT
    rw [this]
    rfl
  · rw [if_neg z, ptsFrom_shift]
    have e1 : ∀ st : Int → Int, pre ++ (layT st t ++ post) = (pre ++ (t.head :: t.pre)) ++ (t.parts.map (enc st) ++ post) := fun st => by simp [layT]
    have e2 : (pre.length : Int) + (1 + t.ex) = ((pre ++ (t.head :: t.pre)).length : Int) := by
      unfold Th.pre Th.ex
      split <;> simp
    rw [e1, e1, e2]
    refine fix_pts bk st st2 t.parts _ _ (fun p hp hk => ?_) k0
    have hk2 := h.kk p hp
    unfold enc
    by_cases y : p.k = 1
    · rw [if_pos y, if_pos y]
      exact h1 p hp y
    · have y2 : p.k = 2 := by omega
      have := h.df p hp y2
      rw [if_neg y, if_pos y2, if_neg y]
      exact h2 _ (by omega)
theorem book_neg {ws : List Int} {l : List Int} {o x : Int} (hl : ∀ a ∈ l, 0 ≤ a) (hx : x < 0) : place (bookI ws o l) x = x := by
  unfold place
  have : (bookI ws o l).find? (fun p => decide (p.1 = x)) = none := by
    rw [List.find?_eq_none]
    intro p hp
    have hm : p.1 ∈ (bookI ws o l).map (·.1) := List.mem_map.mpr ⟨p, hp, rfl⟩
    rw [bookI_keys] at hm
    have := hl _ hm
    simp
    omega
  rw [this] <;> rfl
theorem slices_laid (L : Laid th n ord) : ∀ (l : List Int), (∀ j ∈ l, j ∈ ord) → (l.map (offs th 0 ord)).flatMap (sliceW (layAll th (offs th 0 ord) ord)) = layAll th (offs th 0 ord) l
  | [], _ => rfl
  | j :: l, h => by
    rw [List.map_cons, List.flatMap_cons, L.slice_at (h j (List.mem_cons_self ..)), slices_laid L l fun x hx => h x (List.mem_cons_of_mem _ hx)]
    rfl
/-- where the things of a row come to lie -/
theorem place_laid (L : Laid th n ord) {l : List Int} (hn : l.Nodup) (hl : ∀ j ∈ l, j ∈ ord) {j : Int} (hj : j ∈ l) : place (bookI (layAll th (offs th 0 ord) ord) 0 (l.map (offs th 0 ord))) (offs th 0 ord j) = offs th 0 l j := by
  obtain ⟨l1, l2, e, hnj⟩ := split_at hn hj
  have hnd : (l.map (offs th 0 ord)).Nodup := by
    rw [List.nodup_iff_pairwise_ne, List.pairwise_map]
    refine List.Pairwise.imp_of_mem (fun {a b} ha hb h z => h (L.inj (hl a ha) (hl b hb) z)) (List.nodup_iff_pairwise_ne.mp hn)
  have hi : (l.map (offs th 0 ord))[l1.length]? = some (offs th 0 ord j) := by
    rw [List.getElem?_map]
    have : l[l1.length]? = some j := by rw [e]; simp
    rw [this] <;> rfl
  rw [place_off _ hnd hi, ← List.map_take]
  have : l.take l1.length = l1 := by rw [e]; simp
  rw [this, slices_laid L l1 fun x hx => hl x (by rw [e]; exact List.mem_append_left _ hx)]
  have := offs_split th (offs th 0 ord) l1 j l2 0 hnj
  rw [← e] at this
  omega
theorem coll_laid (L : Laid th n ord) {rs : List (Option Int)} (hr : ∀ j, some j ∈ rs → j ∈ ord) :
    collW (layAll th (offs th 0 ord) ord) (addrs th ord) (rs.map (ask (offs th 0 ord))) = (layAll th (offs th 0 (rowJ th ord.length (rs.filterMap id))) (rowJ th ord.length (rs.filterMap id)), rs.map (ask (offs th 0 (rowJ th ord.length (rs.filterMap id))))) := by
  have hr' : ∀ j ∈ rs.filterMap id, j ∈ ord := fun j hj => by
    obtain ⟨x, hx, e⟩ := List.mem_filterMap.mp hj
    cases x with
    | none => cases e
    | some j => cases e; exact hr _ hx
  have S := L.sub hr'
  have T := L.row hr'
  have hroot : ∀ j, some j ∈ rs → j ∈ rowJ th ord.length (rs.filterMap id) := fun j hj => L.root hr' (List.mem_filterMap.mpr ⟨some j, hj, rfl⟩)
  unfold collW
  rw [reach_laid L hr]
  generalize rowJ th ord.length (rs.filterMap id) = row at *
  have neg : ∀ x, x < 0 → place (bookI (layAll th (offs th 0 ord) ord) 0 (row.map (offs th 0 ord))) x = x := fun x hx => book_neg (fun a ha => by
    obtain ⟨j, hj, rfl⟩ := List.mem_map.mp ha
    exact (L.bound (T.sub j hj)).1) hx
  have pl : ∀ j ∈ row, place (bookI (layAll th (offs th 0 ord) ord) 0 (row.map (offs th 0 ord))) (offs th 0 ord j) = offs th 0 row j := fun j hj => place_laid L S.nd T.sub hj
  generalize hbk : bookI (layAll th (offs th 0 ord) ord) 0 (row.map (offs th 0 ord)) = bk at *
  refine Prod.ext ?_ ?_
  · dsimp only
    rw [hbk]
    show (row.map (offs th 0 ord)).foldl (fixW _ bk) ((row.map (offs th 0 ord)).flatMap (sliceW _)) = _
    rw [slices_laid L row T.sub]
    have key : ∀ (l2 l1 : List Int), row = l1 ++ l2 → (l2.map (offs th 0 ord)).foldl (fixW (layAll th (offs th 0 ord) ord) bk) (layAll th (offs th 0 row) l1 ++ layAll th (offs th 0 ord) l2) = layAll th (offs th 0 row) row := fun l2 => by
      induction l2 with
      | nil =>
        intro l1 e
        rw [List.append_nil] at e
        rw [← e]
        show layAll th (offs th 0 row) row ++ [] = _
        rw [List.append_nil]
      | cons j l2 ih =>
        intro l1 e
        have hj : j ∈ row := by rw [e]; simp
        have hn : j ∉ l1 := fun hm => by
          have := S.nd
          rw [e, List.nodup_append] at this
          exact this.2.2 j hm j (List.mem_cons_self ..) rfl
        have ho := offs_split th (offs th 0 row) l1 j l2 0 hn
        rw [← e] at ho
        have hlen : ((layAll th (offs th 0 row) l1).length : Int) = offs th 0 row j := by omega
        rw [List.map_cons, List.foldl_cons]
        have step : fixW (layAll th (offs th 0 ord) ord) bk (layAll th (offs th 0 row) l1 ++ layAll th (offs th 0 ord) (j :: l2)) (offs th 0 ord j) = layAll th (offs th 0 row) (l1 ++ [j]) ++ layAll th (offs th 0 ord) l2 := by
          unfold fixW
          rw [L.head_at (T.sub j hj), pl j hj, ← hlen]
          have := fix_thing (S.ok j hj) bk (offs th 0 ord) (offs th 0 row) (layAll th (offs th 0 row) l1) (layAll th (offs th 0 ord) l2) (fun p hp hk => pl _ (S.cl j hj _ (mem_tp hp hk))) neg
          rw [show layAll th (offs th 0 ord) (j :: l2) = layT (offs th 0 ord) (th j) ++ layAll th (offs th 0 ord) l2 from rfl, this, layAll_app]
          simp [layAll]
        rw [step]
        exact ih (l1 ++ [j]) (by rw [e]; simp)
    exact key row [] rfl
  · dsimp only
    rw [hbk]
    show (rs.map (ask (offs th 0 ord))).map (place bk) = rs.map (ask (offs th 0 row))
    rw [List.map_map]
    apply List.map_congr_left
    intro x hx
    cases x with
    | none => exact neg (-3) (by decide)
    | some j => exact pl j (hroot j hx)
end
end K73
namespace K73
/-! ### is it a heap -/
def scanS (ws : List Int) : Nat → Int → List Int → Option (List Int)
  | 0, _, _ => none
  | n + 1, at_, acc => if at_ < ws.length then (if firstOk (wAt ws at_) = true then scanS ws n (at_ + thingW (wAt ws at_)) (acc ++ [at_]) else none) else if at_ = ws.length then some acc else none
def pairOk (starts : List Int) (x : Int) : Bool := decide (x < 0) || decide (x ∈ starts)
def isHeapF (ws : List Int) : Bool := match scanS ws (ws.length + 1) 0 [] with
  | none => false
  | some starts => (starts.flatMap (succW ws)).all (pairOk starts)
theorem bitsP_lt : ∀ l : List Pt, bitsP l < 2 ^ l.length
  | [] => by decide
  | p :: r => by
    have := bitsP_lt r
    unfold bitsP
    rw [List.length_cons, Int.pow_succ]
    split <;> omega
theorem first_head {n : Nat} {t : Th} (h : t.Ok n) : firstOk t.head = true := by
  obtain ⟨h1, h2, h3, h4⟩ := head_facts h
  unfold firstOk
  rw [h1, h2, h3]
  have hs := h.sort
  rw [if_neg (by omega)]
  by_cases z : t.sort = 2
  · rw [if_neg (by omega)]
    unfold Th.bits
    rw [if_pos z, Int.toNat_natCast, decide_eq_true]
    exact Int.ediv_eq_zero_of_lt (bitsP_bd _) (bitsP_lt _)
  · rw [if_pos z]
    unfold Th.bits
    rw [if_neg z]
    rfl
section
variable {th : Int → Th} {n : Nat} {ord : List Int}
theorem Laid.isHeap (L : Laid th n ord) : isHeapF (layAll th (offs th 0 ord) ord) = true := by
  have key : ∀ (l2 l1 : List Int) (m : Nat), ord = l1 ++ l2 → l2.length < m → scanS (layAll th (offs th 0 ord) ord) m ((layAll th (offs th 0 ord) l1).length : Int) (l1.map (offs th 0 ord)) = some (addrs th ord) := fun l2 => by
    induction l2 with
    | nil =>
      intro l1 m e hm
      obtain ⟨m, rfl⟩ : ∃ m', m = m' + 1 := ⟨m - 1, by simp at hm; omega⟩
      rw [List.append_nil] at e
      rw [scanS, ← e, if_neg (by omega), if_pos rfl]
      rfl
    | cons j l2 ih =>
      intro l1 m e hm
      obtain ⟨m, rfl⟩ : ∃ m', m = m' + 1 := ⟨m - 1, by simp at hm; omega⟩
      have hj : j ∈ ord := by rw [e]; simp
      have hn : j ∉ l1 := fun hm => by
        have := L.nd
        rw [e, List.nodup_append] at this
        exact this.2.2 j hm j (List.mem_cons_self ..) rfl
      have ho := offs_split th (offs th 0 ord) l1 j l2 0 hn
      rw [← e] at ho
      have hlen : ((layAll th (offs th 0 ord) l1).length : Int) = offs th 0 ord j := by omega
      have hb := L.bound hj
      have hp := size_pos (th j)
      have hl := layT_len (offs th 0 ord) (th j)
      rw [scanS, hlen, if_pos (by omega), L.head_at hj, if_pos (first_head (L.ok j hj)), thing_head (L.ok j hj)]
      have := ih (l1 ++ [j]) m (by rw [e]; simp) (by simp at hm; omega)
      rw [layAll_app, List.length_append, List.map_append] at this
      have e1 : (layAll th (offs th 0 ord) [j]).length = (layT (offs th 0 ord) (th j)).length := by simp [layAll]
      rw [e1] at this
      rw [show offs th 0 ord j + (th j).size = (((layAll th (offs th 0 ord) l1).length + (layT (offs th 0 ord) (th j)).length : Nat) : Int) by omega]
      exact this
  have hlen : ord.length ≤ (layAll th (offs th 0 ord) ord).length := by
    have : ∀ l : List Int, l.length ≤ (layAll th (offs th 0 ord) l).length := fun l => by
      induction l with
      | nil => exact Nat.zero_le _
      | cons a r ih =>
        have h1 := layT_len (offs th 0 ord) (th a)
        have h2 := size_pos (th a)
        rw [layAll_cons, List.length_cons]
        omega
    exact this ord
  have := key ord [] ((layAll th (offs th 0 ord) ord).length + 1) rfl (by omega)
  unfold isHeapF
  rw [show scanS (layAll th (offs th 0 ord) ord) ((layAll th (offs th 0 ord) ord).length + 1) 0 [] = some (addrs th ord) from this]
  show List.all _ _ = true
  rw [List.all_eq_true]
  intro x hx
  obtain ⟨a, ha, hx⟩ := List.mem_flatMap.mp hx
  obtain ⟨j, hj, rfl⟩ := List.mem_map.mp ha
  rw [L.succ_at hj] at hx
  split at hx
  · cases hx
  · obtain ⟨p, hp, rfl⟩ := List.mem_map.mp hx
    obtain ⟨hp1, hp2⟩ := List.mem_filter.mp hp
    have hk := (L.ok j hj).kk p hp1
    have hp2 : p.k ≠ 0 := by simpa using hp2
    unfold pairOk enc
    by_cases z : p.k = 1
    · rw [if_pos z, decide_eq_true (L.st_mem (L.cl j hj _ (mem_tp hp1 z))), Bool.or_true]
    · have := (L.ok j hj).df p hp1 (by omega)
      rw [if_neg z, if_pos (by omega), decide_eq_true (show -1 - p.v < 0 by omega), Bool.true_or]
end
/-! ### a chain -/
def chTh (m : Nat) (j : Int) : Th := if j < m then ⟨2, [⟨1, j + 1⟩], 0⟩ else ⟨0, [], 0⟩
def chOrd (m : Nat) : List Int := (List.range (m + 1)).map fun (i : Nat) => (i : Int)
theorem chOrd_mem {m : Nat} {j : Int} : j ∈ chOrd m ↔ 0 ≤ j ∧ j ≤ m := by
  unfold chOrd
  rw [List.mem_map]
  constructor
  · rintro ⟨i, hi, rfl⟩
    have := List.mem_range.mp hi
    omega
  · intro ⟨h0, h1⟩
    exact ⟨j.toNat, List.mem_range.mpr (by omega), by omega⟩
theorem chLaid (m : Nat) : Laid (chTh m) (m + 1) (chOrd m) where
  nd := by
    unfold chOrd
    rw [List.nodup_iff_pairwise_ne, List.pairwise_map]
    refine List.Pairwise.imp (fun {a b} h z => h (by omega)) (List.nodup_iff_pairwise_ne.mp List.nodup_range)
  ok := fun j hj => by
    obtain ⟨h0, h1⟩ := chOrd_mem.mp hj
    unfold chTh
    split
    · have hv : ∀ p : Pt, p ∈ [(⟨1, j + 1⟩ : Pt)] → p = ⟨1, j + 1⟩ := fun p hp => List.mem_singleton.mp hp
      refine ⟨.inr (.inr rfl), by simp, fun z => absurd (show (2 : Int) = 0 from z) (by decide), fun z => absurd (show (2 : Int) = 1 from z) (by decide), fun p hp _ => ?_, fun p hp z => ?_, fun p hp => ?_⟩
      · rw [hv p hp]
        exact ⟨show 0 ≤ j + 1 by omega, show j + 1 < ((m + 1 : Nat) : Int) by omega⟩
      · rw [hv p hp] at z
        exact absurd (show (1 : Nat) = 2 from z) (by decide)
      · rw [hv p hp]
        exact (by decide : (1 : Nat) ≤ 2)
    · exact ⟨.inl rfl, by simp, fun _ p hp => absurd hp (by simp), fun z => absurd z (by decide), fun p hp => absurd hp (by simp), fun p hp => absurd hp (by simp), fun p hp => absurd hp (by simp)⟩
  cl := fun j hj v hv => by
    obtain ⟨h0, h1⟩ := chOrd_mem.mp hj
    unfold tp chTh at hv
    split at hv
    · have : v = j + 1 := by simpa using hv
      rw [this]
      exact chOrd_mem.mpr ⟨by omega, by omega⟩
    · cases hv
  pos := fun j hj => (chOrd_mem.mp hj).1
theorem ch_tp (m : Nat) (j : Int) : tp (chTh m) j = if j < m then [j + 1] else [] := by
  unfold tp chTh
  split <;> rfl
theorem ch_bfs (m : Nat) : ∀ (k i : Nat), i + k = m + 1 → 0 < k → bfs (tp (chTh m)) k ((List.range (i + 1)).map fun (i : Nat) => (i : Int)) i = chOrd m
  | 0, i, _, h => absurd h (Nat.lt_irrefl 0)
  | k + 1, i, e, _ => by
    have hi : ((List.range (i + 1)).map fun (i : Nat) => (i : Int))[i]? = some (i : Int) := by simp
    rw [bfs, hi]
    show bfs _ k ((tp (chTh m) i).foldl pushI _) (i + 1) = _
    rw [ch_tp]
    by_cases z : i < m
    · rw [if_pos (by omega)]
      have : [(i : Int) + 1].foldl pushI ((List.range (i + 1)).map fun (i : Nat) => (i : Int)) = (List.range (i + 1 + 1)).map fun (i : Nat) => (i : Int) := by
        rw [List.foldl_cons, List.foldl_nil]
        unfold pushI
        rw [if_pos ⟨by omega, fun h => by
          obtain ⟨x, hx, e⟩ := List.mem_map.mp h
          have := List.mem_range.mp hx
          omega⟩]
        conv => rhs; rw [List.range_succ, List.map_append]
        rfl
      rw [this]
      exact ch_bfs m k (i + 1) (by omega) (by omega)
    · have hk : k = 0 := by omega
      have him : i = m := by omega
      subst hk him
      rw [if_neg (by omega)]
      rfl
theorem ch_row (m : Nat) : rowJ (chTh m) (chOrd m).length [0, 0] = chOrd m := by
  have h := ch_bfs m (m + 1) 0 (by omega) (by omega)
  have hl : (chOrd m).length = m + 1 := by simp [chOrd]
  unfold rowJ
  rw [hl]
  exact h
/-- the words of the chain -/
def chain (m : Nat) : List Int := ((List.range m).map fun (j : Nat) => [4000006, 0, 3 * (j : Int) + 3]).flatten ++ [0]
theorem ch_offs (m : Nat) : ∀ (k i : Nat) (j : Int), (i : Int) ≤ j → j ≤ m → i + k = m + 1 → offs (chTh m) (3 * i) ((List.range' i k).map fun (i : Nat) => (i : Int)) j = 3 * j
  | 0, i, j, h, h2, e => by omega
  | k + 1, i, j, h, h2, e => by
    rw [List.range'_succ, List.map_cons, offs]
    by_cases z : (i : Int) = j
    · rw [if_pos z]
      omega
    · rw [if_neg z]
      have hs : (chTh m i).size = 3 := by
        unfold chTh Th.size Th.ex
        rw [if_pos (by omega)]
        rfl
      rw [hs]
      have := ch_offs m k (i + 1) j (by omega) h2 (by omega)
      rw [← this]
      congr 1
theorem ch_off {m : Nat} {j : Int} (h : 0 ≤ j) (h2 : j ≤ m) : offs (chTh m) 0 (chOrd m) j = 3 * j := by
  have := ch_offs m (m + 1) 0 j (by omega) h2 (by omega)
  unfold chOrd
  rw [List.range_eq_range']
  exact this
theorem ch_pair (a : Int) (f : Int → Int) (x : Int) : layT f ⟨2, [⟨1, a⟩], 0⟩ = [4000006, 0, f a] := by
  have h : (⟨2, [⟨1, a⟩], 0⟩ : Th).head = 4000006 := by
    unfold Th.head Th.bits
    simp [bitsP]
  unfold layT
  rw [h]
  rfl
theorem ch_words (m : Nat) : layAll (chTh m) (offs (chTh m) 0 (chOrd m)) (chOrd m) = chain m := by
  unfold layAll chain
  conv => lhs; rw [show chOrd m = ((List.range m).map fun (i : Nat) => (i : Int)) ++ [(m : Int)] by unfold chOrd; rw [List.range_succ, List.map_append]; rfl]
  rw [List.flatMap_append]
  congr 1
  · rw [List.flatMap_map, List.flatMap_def]
    congr 1
    apply List.map_congr_left
    intro i hi
    have := List.mem_range.mp hi
    have ho := ch_off (m := m) (j := (i : Int) + 1) (by omega) (by omega)
    show layT (offs (chTh m) 0 (((List.range m).map fun (i : Nat) => (i : Int)) ++ [(m : Int)])) (chTh m i) = _
    rw [show ((List.range m).map fun (i : Nat) => (i : Int)) ++ [(m : Int)] = chOrd m by unfold chOrd; rw [List.range_succ, List.map_append]; rfl]
    have ht : chTh m i = ⟨2, [⟨1, (i : Int) + 1⟩], 0⟩ := by
      unfold chTh
      rw [if_pos (by omega)]
    rw [ht]
    rw [ch_pair _ _ 0, ho, show 3 * ((i : Int) + 1) = 3 * i + 3 by omega]
  · have ht : chTh m m = ⟨0, [], 0⟩ := by
      unfold chTh
      rw [if_neg (by omega)]
    rw [List.flatMap_cons, ht]
    rfl
end K73
set_option Elab.async false
set_option linter.all false
set_option maxRecDepth 100000
set_option maxHeartbeats 4000000
set_option pp.maxSteps 400
namespace K73
open PySem PySem.Spec PyProof.Rows L2 PL
-- _law_draw: topS 12; slots [(0, 'state'), (1, 'script'), (2, 'size'), (3, 'digit')]; own []
abbrev s__law_draw : Stmt := topS 12
abbrev N__law_draw : List Str := ["state", "script", "size", "digit"]
theorem sc__law_draw : FnScope N__law_draw ["state", "script", "size"] (defScope s__law_draw) := ⟨rfl, rfl, rfl, by decide +kernel, rfl, by decide +kernel, by decide +kernel⟩
-- is_heap: topS 9; slots [(0, 'words'), (1, 'at'), (2, 'inner'), (3, 'starts'), (4, 'place'), (5, 'one')]; own ['starts']
abbrev s_is_heap : Stmt := topS 9
abbrev N_is_heap : List Str := ["words", "at", "inner", "starts", "place", "one"]
theorem sc_is_heap : FnScope N_is_heap ["words"] (defScope s_is_heap) := ⟨rfl, rfl, rfl, by decide +kernel, rfl, by decide +kernel, by decide +kernel⟩
section
variable {P : Program} {w : World} {K : PySem.W.Frag} {mg : Str → Option Value} {base : Heap} {f fp fq fr : Addr} {fd fdp fdq fdr : FuncData} {tM : Tok}
theorem ok__law_draw (F : Fun K "_law_draw" "_law_draw" s__law_draw f fd) (m_int : mg "int" = none) (G__law_refill : FnOk P w K mg base CX0 1 fp fdp ["script", "k"] (Prm K tfRefill)) (g__law_refill : mg "_law_refill" = some (.ref fp)) (F__law_refill : Fun K "_law_refill" "_law_refill" s__law_refill fp fdp) (b__law_refill : Binds K fdp ["script", "k"] []) :
    FnOk P w K mg base CX0 2 f fd ["state", "script", "size"] (Prm K tfDraw2) := by
  have M__law_refill : MonoF tfRefill := tfRefill_mono
  refine okP F sc__law_draw (fun _ _ _ ⟨_, _, _, e, _⟩ => by rw [e] <;> rfl) fun cdv A outer s H E e hr => ?_
  refine ⟨_, (zs_cons (z_if (pb_c (pc_eq (pd_st (pv 0) (.inr rfl)) pd_int) (nomark _))
    (zs_cons (z_st (pd_call M__law_refill G__law_refill (hr.mono (by omega)) (by rfl) g__law_refill F__law_refill.kp b__law_refill pass0 (pav_d (pd_v (pv 1)) (pav_d (pd_st (pv 0) (.inl rfl)) pav_nil))) (pv 0) (.inr rfl))
    (zs_one (z_st (pd_add (pd_st (pv 0) (.inl rfl)) pd_int) (pv 0) (.inl rfl))))
    zs_nil)
  (zs_cons (z_set (i := 3) kvD sc__law_draw.nd rfl (.inl rfl) (pd_mod (pd_toInt (by rfl) m_int (pd_st (pv 0) (.inr rfl))) (pd_v (pv 2))))
  (zs_cons (z_st (pd_fdivW (pd_st (pv 0) (.inr rfl)) (pd_v (pv 2))) (pv 0) (.inr rfl))
  (zs_one (z_ret kvD (pd_v (pv 3))))))), ?_⟩
  rintro pvs Q ⟨st, ns, n, rfl, hs, n0, n1, q⟩
  have rest : ∀ v : Int, 0 ≤ v → Q (.imm (.int (v % n))) := fun v v0 => q _ (Int.emod_nonneg _ (by omega)) (Int.emod_lt_of_pos _ n0)
  have wide : ∀ v : Int, CDivW v n := fun v => wide_div n0 (b := 60) n1 (by decide) (by decide)
  refine ⟨st, rfl, hs, fun v v0 => ifD (fun z => ?_) fun z => ?_⟩
  · refine ⟨st, rfl, hs, fun k k0 => ?_⟩
    refine ⟨ns, k, rfl, k0, fun r r0 => ?_⟩
    refine ⟨r0, ⟨st, rfl, hs⟩, ?_⟩
    refine ⟨st, rfl, hs, fun k2 k20 => ?_⟩
    refine ⟨by omega, ⟨st, rfl, hs⟩, ?_⟩
    refine ⟨st, rfl, hs, fun v2 v20 => ⟨cm n0, ?_⟩⟩
    refine ⟨st, rfl, hs, fun v3 v30 => ⟨wide _, ?_⟩⟩
    exact ⟨Int.ediv_nonneg v30 (by omega), ⟨st, rfl, hs⟩, rest _ v20⟩
  · refine ⟨st, rfl, hs, fun v2 v20 => ⟨cm n0, ?_⟩⟩
    refine ⟨st, rfl, hs, fun v3 v30 => ⟨wide _, ?_⟩⟩
    exact ⟨Int.ediv_nonneg v30 (by omega), ⟨st, rfl, hs⟩, rest _ v20⟩
/-- is_heap's scan so far -/
def fnS (ws : List Int) : D → List D
  | .int x => intsP (succW ws x)
  | _ => []
def fnP (ws : List Int) (y : Int) : D → D
  | .int p => .int (wAt ws (y + p))
  | z => z
structure Scn (ws : List Int) (n : Nat) (a : Int) (acc : List Int) : Prop where
  a0 : 0 ≤ a
  fu : (ws.length : Int) - a + 1 ≤ n ∧ 1 ≤ n
  old : ∀ x ∈ acc, 0 ≤ x ∧ x < a ∧ x + thingW (wAt ws x) ≤ a
  sum : ((acc.flatMap (succW ws)).length : Int) ≤ a
  len : (acc.length : Int) ≤ a
  eq : scanS ws n a acc = scanS ws (ws.length + 1) 0 []
theorem ptrs_len (x : Int) : ((ptrs x).length : Int) < thingW x := by
  have b := sizeW_bd x
  unfold ptrs thingW
  split
  · have := bitsFrom_len (sizeW x).toNat 0 (x / 4000000)
    omega
  · split
    · rw [List.length_map, List.length_range]
      omega
    · simp
      omega
theorem Scn.start (ws : List Int) : Scn ws (ws.length + 1) 0 [] := ⟨by omega, ⟨by omega, by omega⟩, fun x h => (by cases h), by simp, by simp, rfl⟩
theorem Scn.next {ws acc : List Int} {n : Nat} {a : Int} (s : Scn ws n a acc) (h : a < ws.length) (hf : firstOk (wAt ws a) = true) : ∃ m, n = m + 1 ∧ Scn ws m (a + thingW (wAt ws a)) (acc ++ [a]) := by
  obtain ⟨m, rfl⟩ : ∃ m, n = m + 1 := ⟨n - 1, by have := s.fu; omega⟩
  have t1 := thing_pos (wAt ws a)
  have e := s.eq
  rw [scanS, if_pos h, if_pos hf] at e
  have fu := s.fu
  have a0 := s.a0
  refine ⟨m, rfl, ⟨by omega, ⟨by omega, by omega⟩, fun x hx => ?_, ?_, ?_, e⟩⟩
  · rcases List.mem_append.mp hx with q | q
    · have := s.old x q
      omega
    · rw [List.mem_singleton.mp q]
      omega
  · rw [List.flatMap_append, List.length_append]
    have h1 := s.sum
    have h2 := ptrs_len (wAt ws a)
    have h3 : ([a].flatMap (succW ws)).length = (ptrs (wAt ws a)).length := by simp [succW]
    omega
  · have := s.len
    rw [List.length_append, List.length_singleton]
    omega
theorem Scn.bad {ws acc : List Int} {n : Nat} {a : Int} (s : Scn ws n a acc) (h : a < ws.length) (hf : firstOk (wAt ws a) = false) : isHeapF ws = false := by
  obtain ⟨m, rfl⟩ : ∃ m, n = m + 1 := ⟨n - 1, by have := s.fu; omega⟩
  have e := s.eq
  rw [scanS, if_pos h, if_neg (by rw [hf]; decide)] at e
  unfold isHeapF
  rw [← e]
theorem Scn.over {ws acc : List Int} {n : Nat} {a : Int} (s : Scn ws n a acc) (h : a > ws.length) : isHeapF ws = false := by
  obtain ⟨m, rfl⟩ : ∃ m, n = m + 1 := ⟨n - 1, by have := s.fu; omega⟩
  have e := s.eq
  rw [scanS, if_neg (by omega), if_neg (by omega)] at e
  unfold isHeapF
  rw [← e]
theorem Scn.done {ws acc : List Int} {n : Nat} {a : Int} (s : Scn ws n a acc) (h : a = ws.length) : isHeapF ws = (acc.flatMap (succW ws)).all (pairOk acc) := by
  obtain ⟨m, rfl⟩ : ∃ m, n = m + 1 := ⟨n - 1, by have := s.fu; omega⟩
  have e := s.eq
  rw [scanS, if_neg (by omega), if_pos h] at e
  unfold isHeapF
  rw [← e]
def tfIsHeap (Pt : Addr) : PF := fun dl pvs Q => ∃ ws : List Int, pvs = [.imm (.list (intsP ws))] ∧ ws.length ≤ 1000000 ∧ TabIn dl Pt ∧ Q (.imm (.bool (isHeapF ws)))
theorem M_is_heap {Pt : Addr} : MonoF (tfIsHeap Pt) := fun _ _ _ _ h ⟨ws, e, l, t, q⟩ => ⟨ws, e, l, t, h _ q⟩
theorem ok_is_heap {c Pt : Addr} (F : Fun K "is_heap" "is_heap" s_is_heap f fd) (hcd : fd.code = .ref c) (TB : GxR.TabB base mg c Pt) (m_len : mg "len" = none) (m_all : mg "all" = none)
    (G_is_first_word : FnOk P w K mg base CX0 1 fr fdr ["word"] (Prm K tfIsFirst)) (g_is_first_word : mg "is_first_word" = some (.ref fr)) (F_is_first_word : Fun K "is_first_word" "is_first_word" s_is_first_word fr fdr) (b_is_first_word : Binds K fdr ["word"] [])
    (G_thing_size : FnOk P w K mg base CX0 1 fq fdq ["word"] (Prm K tfThing)) (g_thing_size : mg "thing_size" = some (.ref fq)) (F_thing_size : Fun K "thing_size" "thing_size" s_thing_size fq fdq) (b_thing_size : Binds K fdq ["word"] [])
    (G_pointer_places : FnOk P w K mg base CX0 1 fp fdp ["word"] (Prm K tfPtrs)) (g_pointer_places : mg "pointer_places" = some (.ref fp)) (F_pointer_places : Fun K "pointer_places" "pointer_places" s_pointer_places fp fdp) (b_pointer_places : Binds K fdp ["word"] []) :
    FnOk P w K mg base CX0 2 f fd ["words"] (Prm K (tfIsHeap Pt)) := by
  refine okPC F hcd sc_is_heap (fun _ _ _ ⟨_, e, _⟩ => by rw [e] <;> rfl) fun A outer s H E e hr => ?_
  refine ⟨_, (zs_cons (z_parC kvN kvD rfl (pg_name (i := 3) sc_is_heap.nd rfl (.inr rfl)) (pg_name (i := 1) sc_is_heap.nd rfl (.inl rfl)) pn_dnew pd_int)
  (zs_cons (z_while PassesOwn.never (pb_c (pc_lt (pd_v (pv 1)) (pd_len (by rfl) m_len (pq_d (pd_v (pv 0))))) (nomark _))
    (zs_cons (z_if (pb_not (pb_val (pd_call M_is_first_word G_is_first_word (hr.mono (by omega)) (by rfl) g_is_first_word F_is_first_word.kp b_is_first_word pass0 (pav_d (pd_ix (pq_d (pd_v (pv 0))) (pd_v (pv 1)) (fun _ _ => rfl)) pav_nil))))
      (zs_one (z_ret kvD pd_bl))
      zs_nil)
    (zs_cons (z_dput hr.units (pv 3) (pd_v (pv 1)) pd_bl)
    (zs_one (z_set (i := 1) kvD sc_is_heap.nd rfl (.inl rfl) (pd_add (pd_v (pv 1)) (pd_call M_thing_size G_thing_size (hr.mono (by omega)) (by rfl) g_thing_size F_thing_size.kp b_thing_size pass0 (pav_d (pd_ix (pq_d (pd_v (pv 0))) (pd_v (pv 1)) (fun _ _ => rfl)) pav_nil))))))))
  (zs_cons (z_if (pb_c (pc_ne (pd_v (pv 1)) (pd_len (by rfl) m_len (pq_d (pd_v (pv 0))))) (nomark _))
    (zs_one (z_ret kvD pd_bl))
    zs_nil)
  (zs_cons (z_lock (i := 3) (z_setLc2D (i := 2) (vs1 := [4]) (own := [("at", 1), ("place", 4)]) rfl sc_is_heap.nd rfl rfl (sw_true rfl rfl rfl (by decide +kernel)) (pi_std (pv 3)) (blkOk_by (own := [("at", 1), ("place", 4)]) (N := N_is_heap) (sc := defScope s_is_heap) (by decide +kernel)) (by decide) (fun _ _ _ _ _ => (y_name (pg_name (i := 1) sc_is_heap.nd rfl (.inl rfl)))) (fun _ _ _ _ _ => px_yes) (fun _ _ _ _ _ => (pi_l (pd_n (pn_call M_pointer_places G_pointer_places (hr.mono (by omega)) (by rfl) g_pointer_places F_pointer_places.kp b_pointer_places pass0 (pav_d (pd_ix (pq_d (pd_v (pv 0))) (pd_v (pv 1)) (fun _ _ => rfl)) pav_nil))))) (fun _ _ _ _ _ => (y_name (pg_name (i := 4) sc_is_heap.nd rfl (.inl rfl)))) (fun _ _ _ _ _ => px_yes) (fun _ _ _ _ _ => (pd_ix (pq_d (pd_v (pv 0))) (pd_add (pd_v (pv 1)) (pd_v (pv 4))) (fun _ _ => rfl))) (by decide) (by decide)))
  (zs_one (z_ret kvD (pd_allG hr (by rfl) m_all (by decide +kernel) TB rfl (genD_by (sc := defScope s_is_heap) (by decide +kernel)) (pq_d (pd_v (pv 2))) (ge_or (ge_lt (nomark _) (ge_x rfl rfl) ge_int) (ge_or1 (ge_inD (i := 3) rfl rfl rfl rfl (ge_x rfl rfl)))) (by intro _; rfl)))))))), ?_⟩
  rintro pvs Q ⟨ws, rfl, hl, TI, q⟩
  have ln : ((intsP ws).length : Nat) = ws.length := intsP_len ws
  refine ⟨fun m ρ => ∃ a acc, ρ = [some (.imm (.list (intsP ws))), some (.imm (.int a)), none, some (.own (.dic (seenOf acc))), none, none] ∧ Scn ws m a acc, ⟨ws.length + 1, 0, [], rfl, Scn.start ws⟩, fun m ρ h => ?_⟩
  obtain ⟨a, acc, rfl, sc⟩ := h
  refine ifD (fun h0 => ?_) fun h0 => ?_
  · have h0 : a < ((intsP ws).length : Nat) := h0
    rw [ln] at h0
    have at_ := atI_ints sc.a0 h0
    refine ixTo at_ ⟨_, rfl, ?_⟩
    cases hf : firstOk (wAt ws a) with
    | false =>
      rw [sc.bad h0 hf] at q
      exact q
    | true =>
      obtain ⟨m', rfl, sc'⟩ := sc.next h0 hf
      have hn : a ∉ acc := fun hm => by have := sc.old a hm; omega
      have := sc.len
      refine ⟨lineL (by unfold seenOf; rw [List.length_map]; omega), ?_⟩
      refine ixTo at_ ⟨_, rfl, ?_⟩
      refine ⟨m', by omega, _, acc ++ [a], ?_, sc'⟩
      rw [← seen_put hn]
      rfl
  · have h0 : ¬ a < ((intsP ws).length : Nat) := h0
    rw [ln] at h0
    refine ifN (fun h1 => ?_) fun h1 => ?_
    · have h1 : ¬ a = ((intsP ws).length : Nat) := h1
      rw [ln] at h1
      rw [sc.over (by omega)] at q
      exact q
    · have h1 : a = ((intsP ws).length : Nat) := h1
      rw [ln] at h1
      rw [sc.done h1] at q
      have hs := sc.sum
      have keyl : keysD (seenOf acc) = intsP acc := by
        unfold keysD seenOf intsP
        rw [List.map_map]
        rfl
      intro d
      show compT2 _ _ _ _ _ _ _ _ (keysD (seenOf acc)) [] _
      rw [keyl]
      have fl : (intsP acc).flatMap (fnS ws) = intsP (acc.flatMap (succW ws)) := by
        unfold intsP
        rw [List.flatMap_map, List.map_flatMap]
        rfl
      refine compT2_flat (fnS ws) _ _ _ (fun x ac B B' hx hln hB => ?_) (line3 (by rw [fl, intsP_len]; show 0 + _ ≤ _; omega)) ?_
      · obtain ⟨y, hy, rfl⟩ := List.mem_map.mp hx
        obtain ⟨o1, o2, o3⟩ := sc.old y hy
        refine ixTo (atI_ints (by omega) (by omega)) ⟨_, rfl, ?_⟩
        have e1 : intsP (succW ws y) = (intsP (ptrs (wAt ws y))).map (fnP ws y) := by
          unfold succW intsP
          rw [List.map_map, List.map_map]
          rfl
        have hB : B (ac ++ intsP (succW ws y)) := hB
        have hln : ac.length + (intsP (succW ws y)).length ≤ sizeLine := hln
        rw [e1] at hB hln
        refine compT_mapA (fnP ws y) _ _ _ (fun z A' B'' hz hA => ?_) (by rw [List.length_map] at hln; exact hln) hB
        obtain ⟨p, hp, rfl⟩ := List.mem_map.mp hz
        have pb := ptrs_bd hp
        exact ixTo (atI_ints (by omega) (by omega)) hA
      · rw [List.nil_append, fl]
        refine ⟨rfl, TI, fun i => pairOk acc ((acc.flatMap (succW ws)).getD i 0), fun i x hx => ?_, ?_⟩
        · obtain ⟨y, hy, rfl⟩ := intsP_get hx
          have e9 : pairOk acc ((acc.flatMap (succW ws)).getD i 0) = pairOk acc y := by rw [getD_some hy]
          refine ⟨y, 0, rfl, rfl, _, rfl, ifD (fun z => ?_) fun z => ?_⟩
          · show PyData.bool true = PyData.bool (pairOk acc ((acc.flatMap (succW ws)).getD i 0))
            rw [e9]
            unfold pairOk
            rw [decide_eq_true z]
            rfl
          · show PyData.bool (valD (seenOf acc) (Sum.inl y)).isSome = PyData.bool (pairOk acc ((acc.flatMap (succW ws)).getD i 0))
            rw [e9]
            unfold pairOk
            rw [seen_val, decide_eq_false z]
            rfl
        · show Q (.imm (.bool ((List.range (intsP (acc.flatMap (succW ws))).length).all fun i => pairOk acc ((acc.flatMap (succW ws)).getD i 0))))
          rw [intsP_len, range_all]
          exact q
end
end K73
set_option Elab.async false
set_option linter.all false
set_option maxRecDepth 100000
set_option maxHeartbeats 4000000
set_option pp.maxSteps 400
namespace K73
open PySem PySem.Spec PyProof.Rows L2 PL
-- _law_is_heap: topS 15; slots [(0, 'words'), (1, 'starts'), (2, 'at'), (3, 'spots'), (4, 'word'), (5, 'size'), (6, 'bits'), (7, 'sort'), (8, 'i'), (9, 'spot')]; own ['starts']
abbrev s__law_is_heap : Stmt := topS 15
abbrev N__law_is_heap : List Str := ["words", "starts", "at", "spots", "word", "size", "bits", "sort", "i", "spot"]
theorem sc__law_is_heap : FnScope N__law_is_heap ["words"] (defScope s__law_is_heap) := ⟨rfl, rfl, rfl, by decide +kernel, rfl, by decide +kernel, by decide +kernel⟩
section
variable {P : Program} {w : World} {K : PySem.W.Frag} {mg : Str → Option Value} {base : Heap} {f fp fq fr : Addr} {fd fdp fdq fdr : FuncData} {tM : Tok}
def spotsOf (ws acc : List Int) : List Int := acc.flatMap fun a => (ptrs (wAt ws a)).map fun p => a + p
/-- the pointers among the first i parts -/
def ptrsI (s : Int) (i : Nat) (b : Int) : List Int := if s = 2 then bitsFrom i 0 b else if s = 1 then (List.range i).map (fun i => 1 + ((i : Nat) : Int)) else []
theorem ptrsI_succ {s b : Int} {i : Nat} (hs : s = 0 ∨ s = 1 ∨ s = 2) : ptrsI s (i + 1) b = ptrsI s i b ++ (if s = 1 ∨ (s = 2 ∧ b / 2 ^ i % 2 = 1) then [1 + ((i : Nat) : Int) + btoi (decide (s = 2))] else []) := by
  unfold ptrsI
  rcases hs with z | z | z
  · subst z
    simp
  · subst z
    simp [List.range_succ, btoi]
  · subst z
    rw [if_pos rfl, if_pos rfl, bitsFrom_app i 1 0 b]
    by_cases h : b / 2 ^ i % 2 = 1
    · rw [if_pos (.inr ⟨rfl, h⟩)]
      simp [bitsFrom, h, btoi]
      omega
    · rw [if_neg (by simp [h])]
      simp [bitsFrom, h]
theorem ptrsI_all {w : Int} : ptrsI (w % 4) (sizeW w).toNat (w / 4000000) = ptrs w := rfl
theorem spots_app {ws acc : List Int} {a : Int} : spotsOf ws (acc ++ [a]) = spotsOf ws acc ++ (ptrs (wAt ws a)).map (fun p => a + p) := by
  unfold spotsOf
  rw [List.flatMap_append]
  simp
theorem spots_words (ws acc : List Int) : (spotsOf ws acc).map (wAt ws) = acc.flatMap (succW ws) := by
  unfold spotsOf succW
  rw [List.map_flatMap]
  congr 1
  funext a
  rw [List.map_map]
  rfl
theorem nil_to {P : Es} {ρ : Ev} (h : P.nx ρ) : zNil P ρ := h
theorem seq_to {t u : TSt} {P : Es} {ρ : Ev} (h : t { P with nx := u P } ρ) : zSeq t u P ρ := h
theorem par3_to {ta tb tc : TX D} {i j l : Nat} {d1 d2 d3 : D} {P : Es} {ρ : Ev} (h1 : ∀ Q : D → Prop, Q d1 → ta ρ Q) (h2 : ∀ Q : D → Prop, Q d2 → tb ρ Q) (h3 : ∀ Q : D → Prop, Q d3 → tc ρ Q) (q : P.nx (((ρ.set i (some (.imm d1))).set j (some (.imm d2))).set l (some (.imm d3)))) : zPar3 PV.imm PV.imm PV.imm i j l ta tb tc P ρ := h1 _ (h2 _ (h3 _ q))
def tfLawHeap : PF := fun _ pvs Q => ∃ ws : List Int, pvs = [.imm (.list (intsP ws))] ∧ ws.length ≤ 100000 ∧ Q (.imm (.bool (isHeapF ws)))
theorem M__law_is_heap : MonoF tfLawHeap := fun _ _ _ _ h ⟨ws, e, l, q⟩ => ⟨ws, e, l, h _ q⟩
theorem cm6 : CPow 10 6 := ⟨by decide, by decide, by decide⟩
theorem rt_ints {l : List Int} : (intsP l).all flatD = true := by
  rw [List.all_eq_true]
  intro x hx
  obtain ⟨y, _, rfl⟩ := List.mem_map.mp hx
  rfl
theorem inF_ints (x : Int) (l : List Int) : inF (.int x) (intsP l) = decide (x ∈ l) := by
  unfold inF intsP
  rw [List.any_map, Bool.eq_iff_iff, List.any_eq_true, decide_eq_true_eq]
  constructor
  · rintro ⟨y, hy, h⟩
    have h : (y == x) = true := h
    rw [← beq_iff_eq.mp h]
    exact hy
  · intro h
    exact ⟨x, h, by show (x == x) = true; simp⟩
theorem ok__law_is_heap (F : Fun K "_law_is_heap" "_law_is_heap" s__law_is_heap f fd) (m_len : mg "len" = none) (m_int : mg "int" = none) (m_range : mg "range" = none) : FnOk P w K mg base CX0 1 f fd ["words"] (Prm K tfLawHeap) := by
  refine okP F sc__law_is_heap (fun _ _ _ ⟨_, e, _⟩ => by rw [e] <;> rfl) fun cdv A outer s H E e hr => ?_
  refine ⟨_, (zs_cons (z_par3 kvN kvD kvD rfl (pg_name (i := 1) sc__law_is_heap.nd rfl (.inr rfl)) (pg_name (i := 2) sc__law_is_heap.nd rfl (.inl rfl)) (pg_name (i := 3) sc__law_is_heap.nd rfl (.inl rfl)) (pn_lst pad_nil) pd_int (pd_n (pn_lst pad_nil)))
  (zs_cons (z_while PassesOwn.never (pb_c (pc_lt (pd_v (pv 2)) (pd_len (by rfl) m_len (pq_d (pd_v (pv 0))))) (nomark _))
    (zs_cons (z_set (i := 4) kvD sc__law_is_heap.nd rfl (.inl rfl) (pd_ix (pq_d (pd_v (pv 0))) (pd_v (pv 2)) (fun _ _ => rfl)))
    (zs_cons (z_if (pb_w (pw_o (pb_c (pc_lt (pd_v (pv 4)) pd_int) (nomark _)) (pw_o1 (pb_c (pc_eq (pd_sub (pd_v (pv 4)) (pd_mul (pd_fdiv (pd_v (pv 4)) pd_int) pd_int)) pd_int) (nomark _)))))
      (zs_one (z_ret kvD pd_bl))
      zs_nil)
    (zs_cons (z_if (pb_w (pw_a (pb_c (pc_lt (pd_sub (pd_v (pv 4)) (pd_mul (pd_fdiv (pd_v (pv 4)) pd_int) pd_int)) pd_int) (nomark _)) (pw_a1 (pb_c (pc_ge (pd_v (pv 4)) (pd_mul pd_int (pd_pow pd_int pd_int))) (nomark _)))))
      (zs_one (z_ret kvD pd_bl))
      zs_nil)
    (zs_cons (z_par3L (i := 5) (j := 6) (l := 7) kvD kvD kvD (by rfl) sc__law_is_heap.nd rfl rfl rfl (by decide) (by decide) (by decide) rfl rfl rfl (pd_sub (pd_fdiv (pd_v (pv 4)) pd_int) (pd_mul (pd_fdivW (pd_v (pv 4)) (pd_mul pd_int (pd_pow pd_int pd_int))) (pd_pow pd_int pd_int))) (pd_fdivW (pd_v (pv 4)) (pd_mul pd_int (pd_pow pd_int pd_int))) (pd_sub (pd_v (pv 4)) (pd_mul (pd_fdiv (pd_v (pv 4)) pd_int) pd_int)) (by rfl))
    (zs_cons (z_if (pb_c (pc_gt (pd_add (pd_add (pd_add (pd_v (pv 2)) pd_int) (pd_v (pv 5))) (pd_toInt (by rfl) m_int (pd_c (pc_eq (pd_v (pv 7)) pd_int) (nomark _)))) (pd_len (by rfl) m_len (pq_d (pd_v (pv 0))))) (nomark _))
      (zs_one (z_ret kvD pd_bl))
      zs_nil)
    (zs_cons (z_app (pv 1) (pd_v (pv 2)))
    (zs_cons (z_for PassesOwn.never rfl (pi_r1 (by rfl) m_range (pd_v (pv 5))) (y_name (pg_name (i := 8) sc__law_is_heap.nd rfl (.inl rfl)))
      (zs_cons (z_set (i := 3) kvD sc__law_is_heap.nd rfl (.inl rfl) (pd_n (pn_cat (pq_d (pd_v (pv 3))) (pq_n (pn_rep (pn_lst (pad_cons (pd_add (pd_add (pd_add (pd_v (pv 2)) pd_int) (pd_v (pv 8))) (pd_toInt (by rfl) m_int (pd_c (pc_eq (pd_v (pv 7)) pd_int) (nomark _)))) pad_nil)) (pd_toInt (by rfl) m_int (pd_or (pd_c (pc_eq (pd_v (pv 7)) pd_int) (nomark _)) (pd_one (pd_and (pd_c (pc_eq (pd_v (pv 7)) pd_int) (nomark _)) (pd_one (pd_c (pc_eq (pd_sub (pd_v (pv 6)) (pd_mul (pd_fdiv (pd_v (pv 6)) pd_int) pd_int)) pd_int) (nomark _))))))))))))
      (zs_one (z_set (i := 6) kvD sc__law_is_heap.nd rfl (.inl rfl) (pd_fdiv (pd_v (pv 6)) pd_int)))))
    (zs_cons (z_if (pb_c (pc_ne (pd_v (pv 6)) pd_int) (nomark _))
      (zs_one (z_ret kvD pd_bl))
      zs_nil)
    (zs_one (z_set (i := 2) kvD sc__law_is_heap.nd rfl (.inl rfl) (pd_add (pd_add (pd_add (pd_v (pv 2)) pd_int) (pd_v (pv 5))) (pd_toInt (by rfl) m_int (pd_c (pc_eq (pd_v (pv 7)) pd_int) (nomark _)))))))))))))))
  (zs_one (z_ret kvD (pd_c (pc_eqD hr.units (pd_n (pn_lc (own := [("spot", 9)]) rfl sc__law_is_heap.nd (pi_l (pd_v (pv 3))) (blkOk_by (own := [("spot", 9)]) (N := N__law_is_heap) (sc := defScope s__law_is_heap) (by decide +kernel)) (fun _ _ _ _ _ => (y_name (pg_name (i := 9) sc__law_is_heap.nd rfl (.inl rfl)))) (fun _ _ _ _ _ => (px_one (pb_w (pw_a (pb_c (pc_ge (pd_ix (pq_d (pd_v (pv 0))) (pd_v (pv 9)) (fun _ _ => rfl)) pd_int) (nomark _)) (pw_a1 (pb_c (pc_nin (pd_ix (pq_d (pd_v (pv 0))) (pd_v (pv 9)) (fun _ _ => rfl)) (pq_v (pv 1))) rfl)))))) (fun _ _ _ _ _ => (pd_v (pv 9))) (by decide))) (pd_n (pn_lst pad_nil))) (nomark _)))))), ?_⟩
  rintro pvs Q ⟨ws, rfl, hl, q⟩
  have ln : ((intsP ws).length : Nat) = ws.length := intsP_len ws
  refine ⟨Nat.zero_le _, Nat.zero_le _, ?_⟩
  refine ⟨fun m ρ => ∃ a acc s4 s5 s6 s7 s8 s9, ρ = [some (.imm (.list (intsP ws))), some (.own (.lst (intsP acc))), some (.imm (.int a)), some (.imm (.list (intsP (spotsOf ws acc)))), s4, s5, s6, s7, s8, s9] ∧ Scn ws m a acc ∧ a ≤ ws.length, ⟨ws.length + 1, 0, [], none, none, none, none, none, none, rfl, Scn.start ws, by omega⟩, fun m ρ h => ?_⟩
  obtain ⟨a, acc, s4, s5, s6, s7, s8, s9, rfl, sc, hal⟩ := h
  refine ifD (fun h0 => ?_) fun h0 => ?_
  · have h0 : a < ((intsP ws).length : Nat) := h0
    rw [ln] at h0
    refine ixTo (atI_ints sc.a0 h0) ?_
    have bad := fun hf => sc.bad h0 hf
    have next := fun hf => sc.next h0 hf
    have hthing : thingW (wAt ws a) = 1 + sizeW (wAt ws a) + (if wAt ws a % 4 = 2 then 1 else 0) := rfl
    have hfirst : firstOk (wAt ws a) = if wAt ws a < 0 ∨ wAt ws a % 4 = 3 then false else if wAt ws a % 4 ≠ 2 then decide (wAt ws a / 4000000 = 0) else decide (wAt ws a / 4000000 / 2 ^ (sizeW (wAt ws a)).toNat = 0) := rfl
    have spots_app' := @spots_app ws acc a
    have hptr : ptrs (wAt ws a) = ptrsI (wAt ws a % 4) (sizeW (wAt ws a)).toNat (wAt ws a / 4000000) := rfl
    have hsz := sizeW_bd (wAt ws a)
    have hszd : wAt ws a / 4 - wAt ws a / 4000000 * 1000000 = sizeW (wAt ws a) := by unfold sizeW; omega
    generalize wAt ws a = w at *
    have w4 : CDivW w (4 * 10 ^ (6 : Int).toNat) := wide_div (b := 30) (by decide) (by decide) (by decide) (by decide)
    refine ifD (fun h1 => ?_) fun h1 => ⟨⟨by decide, by decide⟩, .inr (by decide), ifD (fun h2 => ?_) fun h2 => ?_⟩
    · rw [bad (by rw [hfirst, if_pos (.inl h1)])] at q
      exact q
    · rw [bad (by rw [hfirst, if_pos (.inr (by omega))])] at q
      exact q
    refine ⟨⟨by decide, by decide⟩, .inr (by decide), ?_⟩
    refine (fun (cont : (w % 4 < 2 → w < 4000000) → _) => ifD (fun h3 => ⟨cm6, .inl (by decide), ifD (fun h4 => ?bad) fun h4 => cont (fun _ => by
          have h4 : ¬ (4 : Int) * 10 ^ 6 ≤ w := h4
          omega)⟩) fun h3 => iteF (cont (fun z => absurd z (by omega)))) (fun h5 => ?good)
    case bad =>
      rw [bad (by
        have h4 : (4 : Int) * 10 ^ 6 ≤ w := h4
        rw [hfirst, if_neg (by omega), if_pos (by omega)]
        exact decide_eq_false (by omega))] at q
      exact q
    refine nil_to ?_
    dsimp only
    refine seq_to (par3_to (d1 := .int (sizeW w)) (d2 := .int (w / 4000000)) (d3 := .int (w % 4)) (fun Q q => ?_) (fun Q q => ?_) (fun Q q => ?_) ?_)
    · refine ⟨⟨by decide, by decide⟩, cm6, .inl (by decide), w4, cm6, .inr (by decide), ?_⟩
      show Q (.int (w / 4 - w / 4000000 * 1000000))
      rw [hszd]
      exact q
    · exact ⟨cm6, .inl (by decide), w4, q⟩
    · refine ⟨⟨by decide, by decide⟩, .inr (by decide), ?_⟩
      show Q (.int (w - w / 4 * 4))
      rw [show w - w / 4 * 4 = w % 4 by omega]
      exact q
    have hs : w % 4 = 0 ∨ w % 4 = 1 ∨ w % 4 = 2 := by omega
    have hbz : w % 4 ≠ 2 → w / 4000000 = 0 := fun z => by have := h5 (by omega); omega
    have hone : ∀ c : Prop, [Decidable c] → (if decide c = true then (1 : Int) else 0) = if c then 1 else 0 := fun c _ => by by_cases z : c <;> simp [z]
    refine ifD (fun h6 => ?_) fun h6 => ?_
    · have h6 : ((intsP ws).length : Nat) < a + 1 + sizeW w + (if decide (w % 4 = 2) = true then 1 else 0) := h6
      rw [ln, hone] at h6
      cases hf : firstOk w with
      | false =>
        rw [bad hf] at q
        exact q
      | true =>
        obtain ⟨m', _, sc'⟩ := next hf
        rw [sc'.over (by rw [hthing]; omega)] at q
        exact q
    have h6 : ¬ ((intsP ws).length : Nat) < a + 1 + sizeW w + (if decide (w % 4 = 2) = true then 1 else 0) := h6
    rw [ln, hone] at h6
    have hacl := sc.len
    refine ⟨lineL (by rw [intsP_len]; omega), ⟨⟨by omega, by omega⟩, ?_⟩⟩
    have hsl : ((spotsOf ws acc).length : Int) ≤ a := by
      have h1 := congrArg List.length (spots_words ws acc)
      rw [List.length_map] at h1
      have := sc.sum
      omega
    have hpl : ∀ i : Nat, i ≤ (sizeW w).toNat → (ptrsI (w % 4) i (w / 4000000)).length ≤ i := fun i _ => by
      unfold ptrsI
      split
      · exact bitsFrom_len _ _ _
      · split
        · simp
        · exact Nat.zero_le _
    refine forT_by (fun i ρ => ∃ s8 s9, ρ = [some (.imm (.list (intsP ws))), some (.own (.lst (intsP (acc ++ [a])))), some (.imm (.int a)), some (.imm (.list (intsP (spotsOf ws acc ++ (ptrsI (w % 4) i (w / 4000000)).map (fun p => a + p))))), some (.imm (.int w)), some (.imm (.int (sizeW w))), some (.imm (.int (w / 4000000 / 2 ^ i))), some (.imm (.int (w % 4))), s8, s9]) _ _ ⟨s8, s9, ?_⟩ (fun i d ρ R hd h hR => ?_) fun ρ h => ?_
    · rw [intsP_app]
      have : ptrsI (w % 4) 0 (w / 4000000) = [] := List.length_eq_zero_iff.mp (Nat.le_zero.mp (hpl 0 (Nat.zero_le _)))
      rw [this, List.map_nil, List.append_nil, Int.pow_zero, Int.ediv_one]
      rfl
    · obtain ⟨s8, s9, rfl⟩ := h
      obtain ⟨hi, rfl⟩ := intsD_get hd
      have hsucc := ptrsI_succ (b := w / 4000000) (i := i) hs
      have hpi := hpl i (by omega)
      have hbit : w / 4000000 / 2 ^ i / 2 = w / 4000000 / 2 ^ (i + 1) := by rw [Int.pow_succ, Int.ediv_ediv_of_nonneg (Int.pow_nonneg (by decide))]
      have fin : ∀ c : Bool, c = decide (w % 4 = 1 ∨ (w % 4 = 2 ∧ w / 4000000 / 2 ^ i % 2 = 1)) → -(2 ^ 63) ≤ (if c = true then (1 : Int) else 0) ∧ (if c = true then (1 : Int) else 0) < 2 ^ 63 ∧ 1 * (if c = true then (1 : Int) else 0).toNat ≤ sizeLine ∧ (intsP (spotsOf ws acc ++ (ptrsI (w % 4) i (w / 4000000)).map (fun p => a + p))).length + (List.replicate (if c = true then (1 : Int) else 0).toNat [PyData.int (a + 1 + (0 + (i : Nat)) + (if decide (w % 4 = 2) = true then 1 else 0))]).flatten.length ≤ sizeLine ∧
          intsP (spotsOf ws acc ++ (ptrsI (w % 4) i (w / 4000000)).map (fun p => a + p)) ++ (List.replicate (if c = true then (1 : Int) else 0).toNat [PyData.int (a + 1 + (0 + (i : Nat)) + (if decide (w % 4 = 2) = true then 1 else 0))]).flatten = intsP (spotsOf ws acc ++ (ptrsI (w % 4) (i + 1) (w / 4000000)).map (fun p => a + p)) := fun c hc => by
        have e0 : (List.replicate (if c = true then (1 : Int) else 0).toNat [PyData.int (a + 1 + (0 + (i : Nat)) + (if decide (w % 4 = 2) = true then 1 else 0))]).flatten = intsP ((if w % 4 = 1 ∨ (w % 4 = 2 ∧ w / 4000000 / 2 ^ i % 2 = 1) then [1 + ((i : Nat) : Int) + btoi (decide (w % 4 = 2))] else []).map (fun p => a + p)) := by
          by_cases z : w % 4 = 1 ∨ (w % 4 = 2 ∧ w / 4000000 / 2 ^ i % 2 = 1)
          · rw [hc, decide_eq_true z, if_pos rfl, if_pos z]
            show [PyData.int (a + 1 + (0 + (i : Nat)) + (if decide (w % 4 = 2) = true then 1 else 0))] = [PyData.int (a + (1 + ((i : Nat) : Int) + (if decide (w % 4 = 2) = true then 1 else 0)))]
            congr 2
            omega
          · rw [hc, decide_eq_false z, if_neg Bool.false_ne_true, if_neg z]
            rfl
        have l63 : sizeLine = 16777216 := sizeLine_eq
        have e1 : intsP (spotsOf ws acc ++ (ptrsI (w % 4) i (w / 4000000)).map (fun p => a + p)) ++ (List.replicate (if c = true then (1 : Int) else 0).toNat [PyData.int (a + 1 + (0 + (i : Nat)) + (if decide (w % 4 = 2) = true then 1 else 0))]).flatten = intsP (spotsOf ws acc ++ (ptrsI (w % 4) (i + 1) (w / 4000000)).map (fun p => a + p)) := by
          rw [e0, ← intsP_app, hsucc, List.map_append, List.append_assoc]
        refine ⟨by split <;> decide, by split <;> decide, by rw [l63]; split <;> decide, ?_, e1⟩
        rw [← List.length_append, e1, intsP_len, List.length_append, List.length_map, l63]
        have := hpl (i + 1) (by omega)
        omega
      have done : ∀ c : Bool, c = decide (w % 4 = 1 ∨ (w % 4 = 2 ∧ w / 4000000 / 2 ^ i % 2 = 1)) → R [some (.imm (.list (intsP ws))), some (.own (.lst (intsP (acc ++ [a])))), some (.imm (.int a)), some (.imm (.list (intsP (spotsOf ws acc ++ (ptrsI (w % 4) i (w / 4000000)).map (fun p => a + p)) ++ (List.replicate (if c = true then (1 : Int) else 0).toNat [PyData.int (a + 1 + (0 + (i : Nat)) + (if decide (w % 4 = 2) = true then 1 else 0))]).flatten))), some (.imm (.int w)), some (.imm (.int (sizeW w))), some (.imm (.int (w / 4000000 / 2 ^ i / 2))), some (.imm (.int (w % 4))), some (.imm (.int (0 + (i : Nat)))), s9] := fun c hc => by
        rw [(fin c hc).2.2.2.2, hbit]
        exact hR _ ⟨_, _, rfl⟩
      refine ⟨by show 1 ≤ sizeLine; decide, ifD (fun z1 => ?_) fun z1 => ifD (fun z2 => ⟨⟨by decide, by decide⟩, .inr (by decide), ?_⟩) fun z2 => ?_⟩
      · have hc : decide (w % 4 = 1) = decide (w % 4 = 1 ∨ (w % 4 = 2 ∧ w / 4000000 / 2 ^ i % 2 = 1)) := by
          rw [decide_eq_true z1]
          exact (decide_eq_true (.inl z1)).symm
        obtain ⟨f1, f2, f3, f4, f5⟩ := fin _ hc
        exact ⟨f1, f2, f3, rfl, rfl, f4, ⟨by decide, by decide⟩, done _ hc⟩
      · have hc : decide (w / 4000000 / 2 ^ i - w / 4000000 / 2 ^ i / 2 * 2 = 1) = decide (w % 4 = 1 ∨ (w % 4 = 2 ∧ w / 4000000 / 2 ^ i % 2 = 1)) := by
          rw [show w / 4000000 / 2 ^ i - w / 4000000 / 2 ^ i / 2 * 2 = w / 4000000 / 2 ^ i % 2 by omega]
          by_cases y : w / 4000000 / 2 ^ i % 2 = 1
          · rw [decide_eq_true y]
            exact (decide_eq_true (.inr ⟨z2, y⟩)).symm
          · rw [decide_eq_false y]
            exact (decide_eq_false fun h => h.elim z1 fun h => y h.2).symm
        obtain ⟨f1, f2, f3, f4, f5⟩ := fin _ hc
        exact ⟨f1, f2, f3, rfl, rfl, f4, ⟨by decide, by decide⟩, done _ hc⟩
      · have hc : decide (w % 4 = 2) = decide (w % 4 = 1 ∨ (w % 4 = 2 ∧ w / 4000000 / 2 ^ i % 2 = 1)) := by
          rw [decide_eq_false z2]
          exact (decide_eq_false fun h => h.elim z1 fun h => z2 h.1).symm
        obtain ⟨f1, f2, f3, f4, f5⟩ := fin _ hc
        exact ⟨f1, f2, f3, rfl, rfl, f4, ⟨by decide, by decide⟩, done _ hc⟩
    · obtain ⟨s8, s9, rfl⟩ := h
      rw [intsD_len, ← hptr, ← spots_app']
      refine ifN (fun h7 => ?_) fun h7 => ?_
      · rw [bad (by
          rw [hfirst, if_neg (by omega)]
          by_cases z : w % 4 = 2
          · rw [if_neg (by omega)]
            exact decide_eq_false h7
          · rw [hbz z] at h7
            exact absurd (Int.zero_ediv _) h7)] at q
        exact q
      · obtain ⟨m', e1, sc'⟩ := next (by
          rw [hfirst, if_neg (by omega)]
          by_cases z : w % 4 = 2
          · rw [if_neg (by omega)]
            exact decide_eq_true h7
          · rw [if_pos z]
            exact decide_eq_true (hbz z))
        refine ⟨m', by omega, a + thingW w, acc ++ [a], some (.imm (.int w)), some (.imm (.int (sizeW w))), some (.imm (.int (w / 4000000 / 2 ^ (sizeW w).toNat))), some (.imm (.int (w % 4))), s8, s9, ?_, sc', by rw [hthing]; omega⟩
        have e2 : a + 1 + sizeW w + (if decide (w % 4 = 2) = true then 1 else 0) = a + thingW w := by rw [hthing, hone]; omega
        rw [← e2]
        rfl
  · have h0 : ¬ a < ((intsP ws).length : Nat) := h0
    rw [ln] at h0
    rw [sc.done (by omega)] at q
    have hin : ∀ x ∈ spotsOf ws acc, 0 ≤ x ∧ x < ws.length := fun x hx => by
      obtain ⟨y, hy, hx⟩ := List.mem_flatMap.mp hx
      obtain ⟨p, hp, rfl⟩ := List.mem_map.mp hx
      have := sc.old y hy
      have := ptrs_bd hp
      omega
    have hlen : ((spotsOf ws acc).length : Int) ≤ a := by
      have h1 := congrArg List.length (spots_words ws acc)
      rw [List.length_map] at h1
      have := sc.sum
      omega
    refine compT_filter (fun d => match d with | .int x => !pairOk acc (wAt ws x) | _ => false) id _ _ (fun i d A B hd hA hB => ?_) (line3 (by show (intsP _).length ≤ _; rw [intsP_len]; omega)) ?_
    · obtain ⟨x, hx, rfl⟩ := intsP_get hd
      obtain ⟨x0, x1⟩ := hin x (List.mem_of_getElem? hx)
      have at_ := atI_ints x0 x1
      have hA : (!pairOk acc (wAt ws x)) = true → A (.int x) := hA
      have hB : (!pairOk acc (wAt ws x)) = false → B := hB
      unfold pairOk at hA hB
      refine ixTo at_ (ifD (fun z => ?_) fun z => ?_)
      · refine ixTo at_ ⟨rfl, rt_ints, ?_⟩
        rw [inF_ints]
        exact ifN (fun y => hA (by simp [y]; omega)) fun y => hB (by simp [y])
      · exact iteF (hB (by simp; omega))
    · have e1 : ((intsP (spotsOf ws acc)).filter fun d => match d with | .int x => !pairOk acc (wAt ws x) | _ => false) = intsP ((spotsOf ws acc).filter fun x => !pairOk acc (wAt ws x)) := by
        unfold intsP
        rw [List.filter_map]
        rfl
      rw [List.map_id, e1]
      refine ⟨Nat.zero_le _, shaped_ints _, rfl, ?_⟩
      show Q (.imm (.bool (PyData.eqv (.list (intsP ((spotsOf ws acc).filter fun x => !pairOk acc (wAt ws x)))) (.list (intsP [])))))
      have e2 : PyData.eqv (.list (intsP ((spotsOf ws acc).filter fun x => !pairOk acc (wAt ws x)))) (.list (intsP [])) = (acc.flatMap (succW ws)).all (pairOk acc) := by
        show PyData.eqvAll _ _ = _
        unfold intsP
        rw [eqvAll_ints, filter_nil, ← spots_words, List.all_map]
        congr 1
        funext x
        simp
      rw [e2]
      exact q
end
end K73
set_option Elab.async false
set_option linter.all false
set_option maxRecDepth 100000
set_option maxHeartbeats 4000000
set_option pp.maxSteps 400
namespace K73
open PySem PySem.Spec PyProof.Rows L2 PL
-- _law_heap: topS 16; slots [(0, 'state'), (1, 'script'), (2, 'many'), (3, 'out'), (4, 'j'), (5, 'sort'), (6, 'parts'), (7, 'i'), (8, 'kind')]; own ['out']
abbrev s__law_heap : Stmt := topS 16
abbrev N__law_heap : List Str := ["state", "script", "many", "out", "j", "sort", "parts", "i", "kind"]
theorem sc__law_heap : FnScope N__law_heap ["state", "script"] (defScope s__law_heap) := ⟨rfl, rfl, rfl, by decide +kernel, rfl, by decide +kernel, by decide +kernel⟩
-- _law_laid: topS 17; slots [(0, 'things'), (1, 'order'), (2, 'starts'), (3, 'words'), (4, 'j'), (5, 'sort'), (6, 'parts'), (7, 'code'), (8, 'bits'), (9, 'i'), (10, 'one'), (11, 'kind')]; own ['starts']
abbrev s__law_laid : Stmt := topS 17
abbrev N__law_laid : List Str := ["things", "order", "starts", "words", "j", "sort", "parts", "code", "bits", "i", "one", "kind"]
theorem sc__law_laid : FnScope N__law_laid ["things", "order"] (defScope s__law_laid) := ⟨rfl, rfl, rfl, by decide +kernel, rfl, by decide +kernel, by decide +kernel⟩
-- _law_order: topS 19; slots [(0, 'things'), (1, 'roots'), (2, 'out'), (3, 'one'), (4, 'at'), (5, 'kind')]; own []
abbrev s__law_order : Stmt := topS 19
abbrev N__law_order : List Str := ["things", "roots", "out", "one", "at", "kind"]
theorem sc__law_order : FnScope N__law_order ["things", "roots"] (defScope s__law_order) := ⟨rfl, rfl, rfl, by decide +kernel, rfl, by decide +kernel, by decide +kernel⟩
/-! ### things as data -/
def kS (k : Nat) : Str := if k = 0 then "n" else if k = 1 then "p" else "d"
def ptD (p : Pt) : D := .tuple [.str (kS p.k), .int p.v]
def thD (t : Th) : D := .tuple [.int t.sort, .list (t.parts.map ptD), .int t.code]
def thsD (ts : List Th) : List D := ts.map thD
def thAt (ts : List Th) (j : Int) : Th := ts.getD j.toNat ⟨0, [], 0⟩
theorem thsD_len (ts : List Th) : (thsD ts).length = ts.length := by simp [thsD]
theorem at_th {ts : List Th} {j : Int} (h0 : 0 ≤ j) (h1 : j < ts.length) : atI (thsD ts) j = some (thD (thAt ts j)) := by
  obtain ⟨i, rfl⟩ : ∃ i : Nat, j = (i : Int) := ⟨j.toNat, by omega⟩
  have hi : i < ts.length := by omega
  refine atI_nat ?_
  unfold thsD thAt
  rw [List.getElem?_map]
  simp [hi]
theorem kS_p (k : Nat) : decide (kS k = ("p" : Str)) = decide (k = 1) := by
  unfold kS
  by_cases h0 : k = 0
  · rw [if_pos h0, h0]
    decide +kernel
  · rw [if_neg h0]
    by_cases h1 : k = 1
    · rw [if_pos h1, h1]
      decide +kernel
    · rw [if_neg h1, decide_eq_false h1]
      decide +kernel
theorem kS_d {k : Nat} (h : k ≤ 2) : decide (kS k = ("d" : Str)) = decide (k = 2) := by
  have : k = 0 ∨ k = 1 ∨ k = 2 := by omega
  rcases this with rfl | rfl | rfl <;> decide +kernel
theorem kS_n (k : Nat) : decide (kS k = ("n" : Str)) = decide (k = 0) := by
  unfold kS
  by_cases h0 : k = 0
  · rw [if_pos h0, h0]
    decide +kernel
  · rw [if_neg h0, decide_eq_false h0]
    by_cases h1 : k = 1
    · rw [if_pos h1]
      decide +kernel
    · rw [if_neg h1]
      decide +kernel
theorem pppd {m : Int} {Q : D → Prop} (h0 : 0 ≤ m) (h1 : m < 4) (q1 : m < 3 → Q (.str "p")) (q2 : m = 3 → Q (.str "d")) : rdIxS (.str "pppd") (.int m) Q := by
  have ep : (⟨#[112]⟩ : Str) = "p" := by decide +kernel
  have ed : (⟨#[100]⟩ : Str) = "d" := by decide +kernel
  refine ⟨by decide +kernel, ?_⟩
  have : m = 0 ∨ m = 1 ∨ m = 2 ∨ m = 3 := by omega
  rcases this with rfl | rfl | rfl | rfl
  · rw [show atI ("pppd" : Str).cps.toList 0 = some 112 by decide +kernel]
    show Q (.str ⟨#[112]⟩)
    rw [ep]
    exact q1 (by decide)
  · rw [show atI ("pppd" : Str).cps.toList 1 = some 112 by decide +kernel]
    show Q (.str ⟨#[112]⟩)
    rw [ep]
    exact q1 (by decide)
  · rw [show atI ("pppd" : Str).cps.toList 2 = some 112 by decide +kernel]
    show Q (.str ⟨#[112]⟩)
    rw [ep]
    exact q1 (by decide)
  · rw [show atI ("pppd" : Str).cps.toList 3 = some 100 by decide +kernel]
    show Q (.str ⟨#[100]⟩)
    rw [ed]
    exact q2 rfl
structure PtsOk (s : Int) (n : Nat) (l : List Pt) : Prop where
  s0 : s = 0 → ∀ p ∈ l, p.k = 0
  s1 : s = 1 → ∀ p ∈ l, p.k ≠ 0
  pt : ∀ p ∈ l, p.k = 1 → 0 ≤ p.v ∧ p.v < n
  df : ∀ p ∈ l, p.k = 2 → 0 ≤ p.v
  kk : ∀ p ∈ l, p.k ≤ 2
theorem PtsOk.nil {s : Int} {n : Nat} : PtsOk s n [] := ⟨fun _ p h => absurd h (by simp), fun _ p h => absurd h (by simp), fun p h => absurd h (by simp), fun p h => absurd h (by simp), fun p h => absurd h (by simp)⟩
theorem PtsOk.snoc {s : Int} {n : Nat} {l : List Pt} {p : Pt} (h : PtsOk s n l) (h0 : s = 0 → p.k = 0) (h1 : s = 1 → p.k ≠ 0) (h2 : p.k = 1 → 0 ≤ p.v ∧ p.v < n) (h3 : p.k = 2 → 0 ≤ p.v) (h4 : p.k ≤ 2) : PtsOk s n (l ++ [p]) := by
  have m : ∀ {q : Pt}, q ∈ l ++ [p] → q ∈ l ∨ q = p := fun hq => by simpa using hq
  refine ⟨fun z q hq => ?_, fun z q hq => ?_, fun q hq z => ?_, fun q hq z => ?_, fun q hq => ?_⟩
  · rcases m hq with y | y
    · exact h.s0 z q y
    · rw [y]; exact h0 z
  · rcases m hq with y | y
    · exact h.s1 z q y
    · rw [y]; exact h1 z
  · rcases m hq with y | y
    · exact h.pt q y z
    · rw [y] at z ⊢; exact h2 z
  · rcases m hq with y | y
    · exact h.df q y z
    · rw [y] at z ⊢; exact h3 z
  · rcases m hq with y | y
    · exact h.kk q y
    · rw [y]; exact h4
section
variable {P : Program} {w : World} {K : PySem.W.Frag} {mg : Str → Option Value} {base : Heap} {f fp fq fr : Addr} {fd fdp fdq fdr : FuncData} {tM : Tok}
def tfLHeap : PF := fun dl pvs Q => ∃ (st : Addr) (ns : List Int), pvs = [.raw (.ref st), .imm (.list (ns.map .int))] ∧ StIn dl st ∧ ∀ ts : List Th, 1 ≤ ts.length → ts.length ≤ 9 → (∀ t ∈ ts, t.Ok ts.length) → Q (.own (.lst (thsD ts)))
theorem M__law_heap : MonoF tfLHeap := fun _ _ _ _ h ⟨st, ns, e, s, q⟩ => ⟨st, ns, e, s, fun ts a b c => h _ (q ts a b c)⟩
theorem ok__law_heap (F : Fun K "_law_heap" "_law_heap" s__law_heap f fd) (m_int : mg "int" = none) (m_range : mg "range" = none) (G__law_draw : FnOk P w K mg base CX0 2 fp fdp ["state", "script", "size"] (Prm K tfDraw2)) (g__law_draw : mg "_law_draw" = some (.ref fp)) (F__law_draw : Fun K "_law_draw" "_law_draw" s__law_draw fp fdp) (b__law_draw : Binds K fdp ["state", "script", "size"] []) :
    FnOk P w K mg base CX0 3 f fd ["state", "script"] (Prm K tfLHeap) := by
  have M__law_draw : MonoF tfDraw2 := tfDraw2_mono
  refine okP F sc__law_heap (fun _ _ _ ⟨_, _, e, _⟩ => by rw [e] <;> rfl) fun cdv A outer s H E e hr => ?_
  refine ⟨_, (zs_cons (z_par (i := 2) (j := 3) kvD kvN (by rfl) sc__law_heap.nd rfl rfl (by decide) rfl rfl (pd_add pd_int (pd_call M__law_draw G__law_draw (hr.mono (by omega)) (by rfl) g__law_draw F__law_draw.kp b__law_draw pass0 (pav_r (pr_v (pv 0)) (pav_d (pd_v (pv 1)) (pav_d pd_int pav_nil))))) (pn_lst pad_nil) (by rfl))
  (zs_cons (z_for PassesOwn.never rfl (pi_r1 (by rfl) m_range (pd_v (pv 2))) (y_name (pg_name (i := 4) sc__law_heap.nd rfl (.inl rfl)))
    (zs_cons (z_par (i := 5) (j := 6) kvD kvN (by rfl) sc__law_heap.nd rfl rfl (by decide) rfl rfl (pd_call M__law_draw G__law_draw (hr.mono (by omega)) (by rfl) g__law_draw F__law_draw.kp b__law_draw pass0 (pav_r (pr_v (pv 0)) (pav_d (pd_v (pv 1)) (pav_d pd_int pav_nil)))) (pn_lst pad_nil) (by rfl))
    (zs_cons (z_for PassesOwn.never rfl (pi_r1 (by rfl) m_range (pd_call M__law_draw G__law_draw (hr.mono (by omega)) (by rfl) g__law_draw F__law_draw.kp b__law_draw pass0 (pav_r (pr_v (pv 0)) (pav_d (pd_v (pv 1)) (pav_d pd_int pav_nil))))) (y_name (pg_name (i := 7) sc__law_heap.nd rfl (.inl rfl)))
      (zs_cons (z_set (i := 8) kvD sc__law_heap.nd rfl (.inl rfl) (px_if (pb_w (pw_o (pb_c (pc_eq (pd_v (pv 5)) pd_int) (nomark _)) (pw_o1 (pb_w (pw_a (pb_c (pc_eq (pd_v (pv 5)) pd_int) (nomark _)) (pw_a1 (pb_c (pc_eq (pd_call M__law_draw G__law_draw (hr.mono (by omega)) (by rfl) g__law_draw F__law_draw.kp b__law_draw pass0 (pav_r (pr_v (pv 0)) (pav_d (pd_v (pv 1)) (pav_d pd_int pav_nil)))) pd_int) (nomark _)))))))) pd_str (pd_ixS pd_str (pd_call M__law_draw G__law_draw (hr.mono (by omega)) (by rfl) g__law_draw F__law_draw.kp b__law_draw pass0 (pav_r (pr_v (pv 0)) (pav_d (pd_v (pv 1)) (pav_d pd_int pav_nil)))) (fun _ _ => rfl))))
      (zs_one (z_app (pv 6) (pd_tup (pad_cons (pd_v (pv 8)) (pad_cons (px_if (pb_c (pc_eq (pd_v (pv 8)) pd_str) (nomark _)) (pd_call M__law_draw G__law_draw (hr.mono (by omega)) (by rfl) g__law_draw F__law_draw.kp b__law_draw pass0 (pav_r (pr_v (pv 0)) (pav_d (pd_v (pv 1)) (pav_d (pd_v (pv 2)) pav_nil)))) (pd_sub (pd_call M__law_draw G__law_draw (hr.mono (by omega)) (by rfl) g__law_draw F__law_draw.kp b__law_draw pass0 (pav_r (pr_v (pv 0)) (pav_d (pd_v (pv 1)) (pav_d pd_int pav_nil)))) (pd_mul pd_int (pd_toInt (by rfl) m_int (pd_c (pc_eq (pd_v (pv 8)) pd_str) (nomark _)))))) pad_nil)))))))
    (zs_one (z_frz (i := 6) (z_app (pv 3) (pd_tup (pad_cons (pd_v (pv 5)) (pad_cons (pd_v (pv 6)) (pad_cons (pd_call M__law_draw G__law_draw (hr.mono (by omega)) (by rfl) g__law_draw F__law_draw.kp b__law_draw pass0 (pav_r (pr_v (pv 0)) (pav_d (pd_v (pv 1)) (pav_d pd_int pav_nil)))) pad_nil))))))))))
  (zs_one (z_retO (pv 3))))), ?_⟩
  rintro pvs Q ⟨st, ns, rfl, hs, q⟩
  refine ⟨st, ns, 9, rfl, hs, by decide, by decide, fun r r0 r1 => ⟨Nat.zero_le _, ⟨⟨by omega, by omega⟩, ?_⟩⟩⟩
  refine forT_by (fun j ρ => ∃ ts s4 s5 s6 s7 s8, ρ = [some (.raw (.ref st)), some (.imm (.list (ns.map .int))), some (.imm (.int (1 + r))), some (.own (.lst (thsD ts))), s4, s5, s6, s7, s8] ∧ ts.length = j ∧ ∀ t ∈ ts, t.Ok (1 + r).toNat) _ _ ⟨[], none, none, none, none, none, rfl, rfl, fun t h => absurd h (by simp)⟩ (fun j d ρ R hd h hR => ?_) fun ρ h => ?_
  · obtain ⟨ts, s4, s5, s6, s7, s8, rfl, hl, hok⟩ := h
    obtain ⟨hj, rfl⟩ := intsD_get hd
    refine ⟨st, ns, 3, rfl, hs, by decide, by decide, fun so so0 so1 => ⟨Nat.zero_le _, ⟨st, ns, 4, rfl, hs, by decide, by decide, fun m m0 m1 => ⟨⟨by omega, by omega⟩, ?_⟩⟩⟩⟩
    refine forT_by (fun i ρ => ∃ ps s7 s8, ρ = [some (.raw (.ref st)), some (.imm (.list (ns.map .int))), some (.imm (.int (1 + r))), some (.own (.lst (thsD ts))), some (.imm (.int (0 + (j : Nat)))), some (.imm (.int so)), some (.own (.lst (ps.map ptD))), s7, s8] ∧ ps.length = i ∧ PtsOk so (1 + r).toNat ps) _ _ ⟨[], s7, s8, rfl, rfl, .nil⟩ (fun i d ρ R' hd h hR' => ?_) fun ρ h => ?_
    · obtain ⟨ps, s7, s8, rfl, hlp, hp⟩ := h
      obtain ⟨hi, rfl⟩ := intsD_get hd
      have lt : (ps.map ptD).length < sizeLine := lineL (by rw [List.length_map]; omega)
      have cont : ∀ (k : Nat) (v : Int), (so = 0 → k = 0) → (so = 1 → k ≠ 0) → (k = 1 → 0 ≤ v ∧ v < (1 + r).toNat) → (k = 2 → 0 ≤ v) → k ≤ 2 → R' [some (.raw (.ref st)), some (.imm (.list (ns.map .int))), some (.imm (.int (1 + r))), some (.own (.lst (thsD ts))), some (.imm (.int (0 + (j : Nat)))), some (.imm (.int so)), some (.own (.lst (ps.map ptD ++ [.tuple [.str (kS k), .int v]]))), some (.imm (.int (0 + (i : Nat)))), some (.imm (.str (kS k)))] := fun k v a b c d e => by
        have e1 : ps.map ptD ++ [.tuple [.str (kS k), .int v]] = (ps ++ [(⟨k, v⟩ : Pt)]).map ptD := by simp [ptD]
        rw [e1]
        exact hR' _ ⟨ps ++ [⟨k, v⟩], _, _, rfl, by simp [hlp], hp.snoc a b c d e⟩
      have num : ∀ v : Int, so ≠ 1 → R' [some (.raw (.ref st)), some (.imm (.list (ns.map .int))), some (.imm (.int (1 + r))), some (.own (.lst (thsD ts))), some (.imm (.int (0 + (j : Nat)))), some (.imm (.int so)), some (.own (.lst (ps.map ptD ++ [.tuple [.str "n", .int v]]))), some (.imm (.int (0 + (i : Nat)))), some (.imm (.str "n"))] := fun v h => cont 0 v (fun _ => rfl) (fun z => absurd z h) (fun z => absurd z (by decide)) (fun z => absurd z (by decide)) (by decide)
      have ptr : ∀ v : Int, so ≠ 0 → 0 ≤ v → v < 1 + r → R' [some (.raw (.ref st)), some (.imm (.list (ns.map .int))), some (.imm (.int (1 + r))), some (.own (.lst (thsD ts))), some (.imm (.int (0 + (j : Nat)))), some (.imm (.int so)), some (.own (.lst (ps.map ptD ++ [.tuple [.str "p", .int v]]))), some (.imm (.int (0 + (i : Nat)))), some (.imm (.str "p"))] := fun v h h0 h1 => cont 1 v (fun z => absurd z h) (fun _ => by decide) (fun _ => ⟨h0, by omega⟩) (fun z => absurd z (by decide)) (by decide)
      have df : ∀ v : Int, so ≠ 0 → 0 ≤ v → R' [some (.raw (.ref st)), some (.imm (.list (ns.map .int))), some (.imm (.int (1 + r))), some (.own (.lst (thsD ts))), some (.imm (.int (0 + (j : Nat)))), some (.imm (.int so)), some (.own (.lst (ps.map ptD ++ [.tuple [.str "d", .int v]]))), some (.imm (.int (0 + (i : Nat)))), some (.imm (.str "d"))] := fun v h h0 => cont 2 v (fun z => absurd z h) (fun _ => by decide) (fun z => absurd z (by decide)) (fun _ => h0) (by decide)
      have two : 2 ≤ sizeLine := by decide
      refine ifD (fun z0 => iteT ?_) fun z0 => ifD (fun z2 => ⟨st, ns, 2, rfl, hs, by decide, by decide, fun b b0 b1 => ifD (fun zb => ?_) fun zb => ?_⟩) fun z2 => iteF ?_
      · refine xC_to ?_
        dsimp only
        refine app_to rfl (tup2_to (a := .str "n") (fun _ q => q) (xif_F (fun _ q => eqS_to (x := "n") rfl (by decide +kernel) q) ?_))
        exact ⟨st, ns, 40, rfl, hs, by decide, by decide, fun v v0 v1 => ⟨.inl (by decide), two, lt, num _ (by omega)⟩⟩
      · refine xC_to ?_
        dsimp only
        refine app_to rfl (tup2_to (a := .str "n") (fun _ q => q) (xif_F (fun _ q => eqS_to (x := "n") rfl (by decide +kernel) q) ?_))
        exact ⟨st, ns, 40, rfl, hs, by decide, by decide, fun v v0 v1 => ⟨.inl (by decide), two, lt, num _ (by omega)⟩⟩
      all_goals
        refine ⟨st, ns, 4, rfl, hs, by decide, by decide, fun m m0 m1 => ?_⟩
        dsimp only [retD]
        refine pppd m0 m1 (fun _ => ?_) fun _ => ?_
        · refine app_to rfl (tup2_to (a := .str "p") (fun _ q => q) (xif_T (fun _ q => eqS_to (x := "p") rfl (by decide +kernel) q) ?_))
          exact ⟨st, ns, 1 + r, rfl, hs, by omega, by omega, fun v v0 v1 => ⟨two, lt, ptr v z0 v0 v1⟩⟩
        · refine app_to rfl (tup2_to (a := .str "d") (fun _ q => q) (xif_F (fun _ q => eqS_to (x := "d") rfl (by decide +kernel) q) ?_))
          exact ⟨st, ns, 40, rfl, hs, by decide, by decide, fun v v0 v1 => ⟨.inl (by decide), two, lt, df _ z0 (by show 0 ≤ v - 9 * (if decide (("d" : Str) = "n") = true then 1 else 0); rw [show (if decide (("d" : Str) = "n") = true then (1 : Int) else 0) = 0 by decide +kernel]; omega)⟩⟩
    · obtain ⟨ps, s7, s8, rfl, hlp, hp⟩ := h
      rw [intsD_len] at hlp
      refine ⟨st, ns, 4, rfl, hs, by decide, by decide, fun co co0 co1 => ⟨by show 3 ≤ sizeLine; decide, lineL (by rw [thsD_len]; omega), ?_⟩⟩
      have e1 : thsD ts ++ [.tuple [.int so, .list (ps.map ptD), .int co]] = thsD (ts ++ [⟨so, ps, co⟩]) := by simp [thsD, thD]
      rw [e1]
      refine hR _ ⟨ts ++ [⟨so, ps, co⟩], _, _, _, _, _, rfl, by simp [hl], fun t ht => ?_⟩
      rcases List.mem_append.mp ht with h | h
      · exact hok t h
      · rw [List.mem_singleton.mp h]
        exact ⟨by show so = 0 ∨ so = 1 ∨ so = 2; omega, by show ps.length ≤ 3; omega, hp.s0, hp.s1, hp.pt, hp.df, hp.kk⟩
  · obtain ⟨ts, s4, s5, s6, s7, s8, rfl, hl, hok⟩ := h
    rw [intsD_len] at hl
    exact q ts (by omega) (by omega) (by rw [hl]; exact hok)
/-! ### laid -/
def stD (th : Int → Th) (ord l : List Int) : List (Key × D) := l.map fun j => (Sum.inl j, PyData.int (offs th 0 ord j))
theorem stD_val (th : Int → Th) (ord : List Int) (x : Int) : ∀ l : List Int, x ∈ l → valD (stD th ord l) (Sum.inl x) = some (.int (offs th 0 ord x))
  | [], h => absurd h (by simp)
  | a :: l, h => by
    by_cases e : a = x
    · subst e
      simp [stD, valD]
    · have hm : x ∈ l := by
        rcases List.mem_cons.mp h with z | z
        · exact absurd z.symm e
        · exact z
      have ih := stD_val th ord x l hm
      have : valD (stD th ord (a :: l)) (Sum.inl x) = valD (stD th ord l) (Sum.inl x) := by simp [stD, valD, List.find?_cons, e]
      rw [this, ih]
theorem stD_put (th : Int → Th) (ord : List Int) {x : Int} {l : List Int} (h : x ∉ l) : putD (stD th ord l) (Sum.inl x) (.int (offs th 0 ord x)) = stD th ord (l ++ [x]) := by
  unfold putD
  have : ((stD th ord l).any fun kv => decide (kv.1 = Sum.inl x)) = false := by
    rw [List.any_eq_false]
    intro kv hkv
    unfold stD at hkv
    obtain ⟨a, ha, rfl⟩ := List.mem_map.mp hkv
    simp
    intro e
    subst e
    exact h ha
  rw [if_neg (by rw [this]; decide)]
  simp [stD]
theorem offs_sum (th : Int → Th) : ∀ (l1 : List Int) (j : Int) (l2 : List Int) (o : Int), j ∉ l1 → offs th o (l1 ++ j :: l2) j = o + (l1.map fun i => (th i).size).sum
  | [], j, l2, o, _ => by simp [offs]
  | a :: r, j, l2, o, h => by
    have ha : a ≠ j := fun e => h (by rw [e]; exact List.mem_cons_self ..)
    rw [List.cons_append, offs, if_neg ha, offs_sum th r j l2 _ fun z => h (List.mem_cons_of_mem _ z), List.map_cons, List.sum_cons]
    omega
theorem nd_split {ord : List Int} {i : Nat} {j : Int} (hn : ord.Nodup) (h : ord[i]? = some j) : ord = ord.take i ++ j :: ord.drop (i + 1) ∧ j ∉ ord.take i := by
  have hi := (List.getElem?_eq_some_iff.mp h).1
  have e : ord = ord.take i ++ (j :: ord.drop (i + 1)) := by
    have := List.take_append_drop i ord
    rw [List.drop_eq_getElem_cons hi, (List.getElem?_eq_some_iff.mp h).2] at this
    exact this.symm
  exact ⟨e, notin_take hn h⟩
theorem bits_sum : ∀ (l : List Pt) (c : Nat), ((((List.range l.length).filter fun i => decide ((l.getD i ⟨0, 0⟩).k ≠ 0)).map fun i => (2 : Int) ^ (i + c))).sum = 2 ^ c * bitsP l
  | [], c => by simp [bitsP]
  | p :: r, c => by
    have ih := bits_sum r (c + 1)
    rw [List.length_cons, List.range_succ_eq_map, List.filter_cons, List.filter_map, bitsP]
    have e1 : ((fun i => decide (((p :: r).getD i ⟨0, 0⟩).k ≠ 0)) ∘ Nat.succ) = fun i => decide ((r.getD i ⟨0, 0⟩).k ≠ 0) := by
      funext i
      simp
    rw [e1]
    have e2 : ((List.map Nat.succ ((List.range r.length).filter fun i => decide ((r.getD i ⟨0, 0⟩).k ≠ 0))).map fun i => (2 : Int) ^ (i + c)).sum = 2 ^ (c + 1) * bitsP r := by
      rw [← ih, List.map_map]
      congr 1
      apply List.map_congr_left
      intro i _
      show (2 : Int) ^ (i + 1 + c) = 2 ^ (i + (c + 1))
      congr 1
      omega
    by_cases z : p.k = 0
    · rw [if_neg (by simp [z]), e2, if_pos z, Int.pow_succ]
      generalize (2 : Int) ^ c = u
      rw [Int.zero_add, Int.mul_assoc]
    · rw [if_pos (by simp [z]), List.map_cons, List.sum_cons, e2, if_neg z, Int.pow_succ, Nat.zero_add]
      generalize (2 : Int) ^ c = u
      rw [Int.mul_add, Int.mul_one, Int.mul_assoc]
def bitT (t : Th) : D → Bool
  | .int x => decide (t.sort = 2) && decide ((t.parts.getD x.toNat ⟨0, 0⟩).k ≠ 0)
  | _ => false
def pow2D : D → D
  | .int x => .int (2 ^ x.toNat)
  | d => d
def encD (st : Int → Int) : D → D
  | .tuple [.str k, .int v] => if k = "p" then .int (st v) else if k = "d" then .int (-1 - v) else .int v
  | d => d
theorem encD_pt {st : Int → Int} {p : Pt} (h : p.k ≤ 2) : encD st (ptD p) = .int (enc st p) := by
  have h1 := kS_p p.k
  have h2 := kS_d h
  show (if kS p.k = "p" then PyData.int (st p.v) else if kS p.k = "d" then .int (-1 - p.v) else .int p.v) = _
  unfold enc
  by_cases z : p.k = 1
  · rw [decide_eq_true z, decide_eq_true_eq] at h1
    rw [if_pos h1, if_pos z]
  · rw [decide_eq_false z, decide_eq_false_iff_not] at h1
    rw [if_neg h1, if_neg z]
    by_cases y : p.k = 2
    · rw [decide_eq_true y, decide_eq_true_eq] at h2
      rw [if_pos h2, if_pos y]
    · rw [decide_eq_false y, decide_eq_false_iff_not] at h2
      rw [if_neg h2, if_neg y]
def szD (ts : List Th) : D → D
  | .int x => .int (thAt ts x).size
  | d => d
theorem cut_take (l : List Int) {i : Nat} (h : i < l.length) : PL.cutD (intsP l) none (some (i : Nat)) = intsP (l.take i) := by
  have e1 : HT.sIx (intsP l).length 0 none = 0 := rfl
  have e2 : HT.sIx (intsP l).length (intsP l).length (some (i : Nat)) = i := by
    unfold HT.sIx
    simp only [intsP_len]
    repeat' split
    all_goals omega
  unfold PL.cutD
  rw [e1, e2]
  unfold intsP
  rw [List.drop_zero, List.map_take, Nat.sub_zero]
def tfLaid : PF := fun _ pvs Q => ∃ (ts : List Th) (ord : List Int) (n : Nat), pvs = [.imm (.list (thsD ts)), .imm (.list (intsP ord))] ∧ Laid (thAt ts) n ord ∧ (∀ j ∈ ord, j < ts.length) ∧ ord.length ≤ 1000 ∧
  Q (.two (.list (intsP (layAll (thAt ts) (offs (thAt ts) 0 ord) ord))) (.dic (stD (thAt ts) ord ord)))
theorem M__law_laid : MonoF tfLaid := fun _ _ _ _ h ⟨ts, ord, n, e, a, b, c, q⟩ => ⟨ts, ord, n, e, a, b, c, h _ q⟩
theorem ok__law_laid (F : Fun K "_law_laid" "_law_laid" s__law_laid f fd) (m_len : mg "len" = none) (m_int : mg "int" = none) (m_sum : mg "sum" = none) (m_range : mg "range" = none) (G__law_power : FnOk P w K mg base CX0 1 fp fdp ["many"] (Prm K tfPower)) (g__law_power : mg "_law_power" = some (.ref fp)) (F__law_power : Fun K "_law_power" "_law_power" s__law_power fp fdp) (b__law_power : Binds K fdp ["many"] []) :
    FnOk P w K mg base CX0 2 f fd ["things", "order"] (Prm K tfLaid) := by
  refine okP F sc__law_laid (fun _ _ _ ⟨_, _, _, e, _⟩ => by rw [e] <;> rfl) fun cdv A outer s H E e hr => ?_
  refine ⟨_, (zs_cons (z_parC kvN kvD rfl (pg_name (i := 2) sc__law_laid.nd rfl (.inr rfl)) (pg_name (i := 3) sc__law_laid.nd rfl (.inl rfl)) pn_dnew (pd_n (pn_lst pad_nil)))
  (zs_cons (z_for PassesOwn.never rfl (pi_l (pd_v (pv 1))) (y_name (pg_name (i := 4) sc__law_laid.nd rfl (.inl rfl)))
    (zs_one (z_dput hr.units (pv 2) (pd_v (pv 4)) (pd_sum rfl (by rfl) m_sum (by decide +kernel) (pq_n (pn_lc (own := [("i", 9)]) rfl sc__law_laid.nd (pi_o (pq_n (pn_slL (pq_d (pd_v (pv 1))) pod_none (pod_some (pd_index (pq_d (pd_v (pv 1))) (pd_v (pv 4))))))) (blkOk_by (own := [("i", 9)]) (N := N__law_laid) (sc := defScope s__law_laid) (by decide +kernel)) (fun _ _ _ _ _ => (y_name (pg_name (i := 9) sc__law_laid.nd rfl (.inl rfl)))) (fun _ _ _ _ _ => px_yes) (fun _ _ _ _ _ => (pd_add (pd_add pd_int (pd_len (by rfl) m_len (pq_d (pd_ix (pq_d (pd_ix (pq_d (pd_v (pv 0))) (pd_v (pv 9)) (fun _ _ => rfl))) pd_int (fun _ _ => rfl))))) (pd_toInt (by rfl) m_int (pd_c (pc_eq (pd_ix (pq_d (pd_ix (pq_d (pd_v (pv 0))) (pd_v (pv 9)) (fun _ _ => rfl))) pd_int (fun _ _ => rfl)) pd_int) (nomark _))))) (by decide)))))))
  (zs_cons (z_for PassesOwn.never rfl (pi_l (pd_v (pv 1))) (y_name (pg_name (i := 4) sc__law_laid.nd rfl (.inl rfl)))
    (zs_cons (z_asg (pd_ix (pq_d (pd_v (pv 0))) (pd_v (pv 4)) (fun _ _ => rfl)) (y_tup (n := 3) (by rfl) (ys_cons (y_name (pg_name (i := 5) sc__law_laid.nd rfl (.inr rfl))) (ys_cons (y_name (pg_name (i := 6) sc__law_laid.nd rfl (.inr rfl))) (ys_cons (y_name (pg_name (i := 7) sc__law_laid.nd rfl (.inr rfl))) ys_nil)))))
    (zs_cons (z_set (i := 8) kvD sc__law_laid.nd rfl (.inl rfl) (pd_sum rfl (by rfl) m_sum (by decide +kernel) (pq_n (pn_lc (own := [("i", 9)]) rfl sc__law_laid.nd (pi_r1 (by rfl) m_range (pd_len (by rfl) m_len (pq_d (pd_v (pv 6))))) (blkOk_by (own := [("i", 9)]) (N := N__law_laid) (sc := defScope s__law_laid) (by decide +kernel)) (fun _ _ _ _ _ => (y_name (pg_name (i := 9) sc__law_laid.nd rfl (.inl rfl)))) (fun _ _ _ _ _ => (px_one (pb_w (pw_a (pb_c (pc_eq (pd_v (pv 5)) pd_int) (nomark _)) (pw_a1 (pb_c (pc_ne (pd_ix (pq_d (pd_ix (pq_d (pd_v (pv 6))) (pd_v (pv 9)) (fun _ _ => rfl))) pd_int (fun _ _ => rfl)) pd_str) (nomark _))))))) (fun _ _ _ _ _ => (pd_call M__law_power G__law_power (hr.mono (by omega)) (by rfl) g__law_power F__law_power.kp b__law_power pass0 (pav_d (pd_v (pv 9)) pav_nil))) (by decide)))))
    (zs_cons (z_set (i := 3) kvD sc__law_laid.nd rfl (.inl rfl) (pd_n (pn_cat (pq_n (pn_cat (pq_d (pd_v (pv 3))) (pq_n (pn_lst (pad_cons (pd_add (pd_add (pd_v (pv 5)) (pd_mul pd_int (pd_len (by rfl) m_len (pq_d (pd_v (pv 6)))))) (pd_mul (pd_mul pd_int (pd_pow pd_int pd_int)) (pd_v (pv 8)))) pad_nil))))) (pq_n (pn_lc (own := [("one", 10)]) rfl sc__law_laid.nd (pi_t (pd_tup (pad_cons pd_int pad_nil))) (blkOk_by (own := [("one", 10)]) (N := N__law_laid) (sc := defScope s__law_laid) (by decide +kernel)) (fun _ _ _ _ _ => (y_name (pg_name (i := 10) sc__law_laid.nd rfl (.inl rfl)))) (fun _ _ _ _ _ => (px_one (pb_c (pc_eq (pd_v (pv 5)) pd_int) (nomark _)))) (fun _ _ _ _ _ => (pd_v (pv 7))) (by decide))))))
    (zs_one (z_set (i := 3) kvD sc__law_laid.nd rfl (.inl rfl) (pd_n (pn_cat (pq_d (pd_v (pv 3))) (pq_n (pn_lc (own := [("kind", 11), ("one", 10)]) rfl sc__law_laid.nd (pi_l (pd_v (pv 6))) (blkOk_by (own := [("kind", 11), ("one", 10)]) (N := N__law_laid) (sc := defScope s__law_laid) (by decide +kernel)) (fun _ _ _ _ _ => (y_tup (n := 2) (by rfl) (ys_cons (y_name (pg_name (i := 11) sc__law_laid.nd rfl (.inl rfl))) (ys_cons (y_name (pg_name (i := 10) sc__law_laid.nd rfl (.inl rfl))) ys_nil)))) (fun _ _ _ _ _ => px_yes) (fun _ _ _ _ _ => (px_if (pb_c (pc_eq (pd_v (pv 11)) pd_str) (nomark _)) (pd_dget_v hr.units (pv 2) (pd_v (pv 10)) (fun _ _ => rfl)) (px_if (pb_c (pc_eq (pd_v (pv 11)) pd_str) (nomark _)) (pd_sub (pd_neg pd_int) (pd_v (pv 10))) (pd_v (pv 10))))) (by decide)))))))))))
  (zs_one (z_retT2 (pd_v (pv 3)) (pv 2)))))), ?_⟩
  rintro pvs Q ⟨ts, ord, n, rfl, L, hlt, hl, q⟩
  refine ⟨Nat.zero_le _, ?_⟩
  refine forT_by (fun i ρ => ∃ s4 s5 s6 s7 s8 s9 s10 s11, ρ = [some (.imm (.list (thsD ts))), some (.imm (.list (intsP ord))), some (.own (.dic (stD (thAt ts) ord (ord.take i)))), some (.imm (.list [])), s4, s5, s6, s7, s8, s9, s10, s11]) _ _ ⟨none, none, none, none, none, none, none, none, rfl⟩ (fun i d ρ R hd h hR => ?_) fun ρ h => ?_
  · obtain ⟨s4, s5, s6, s7, s8, s9, s10, s11, rfl⟩ := h
    obtain ⟨j, hj, rfl⟩ := intsP_get hd
    obtain ⟨e1, hn⟩ := nd_split L.nd hj
    have hjm := List.mem_of_getElem? hj
    have hi := (List.getElem?_eq_some_iff.mp hj).1
    refine ⟨rfl, rfl, rt_ints, i, .int j, by unfold intsP; rw [List.getElem?_map, hj] <;> rfl, by show (j == j) = true; simp, fun m z' hm hz => ?_, rfl, rfl, ?_⟩
    · obtain ⟨y, hy, rfl⟩ := intsP_get hz
      show (y == j) = false
      refine beq_eq_false_iff_ne.mpr fun e => hn ?_
      rw [← e]
      exact List.mem_of_getElem? (show (ord.take i)[m]? = some y by rw [List.getElem?_take, if_pos hm]; exact hy)
    rw [cut_take ord hi]
    refine compT_map (szD ts) _ _ (fun i' d A B hd hA => ?_) (line3 (by rw [intsP_len, List.length_take]; omega)) ⟨rfl, ?_⟩
    · obtain ⟨x, hx, rfl⟩ := intsP_get hd
      have hxm := List.mem_of_mem_take (List.mem_of_getElem? hx)
      have ax := at_th (L.pos x hxm) (hlt x hxm)
      refine ixTo ax ?_
      refine seqIx_to 1 rfl rfl ?_
      refine ixTo ax ?_
      refine seqIx_to 0 rfl rfl ?_
      have e2 : szD ts (.int x) = .int (1 + ((((thAt ts x).parts.map ptD).length : Nat) : Int) + (if decide ((thAt ts x).sort = 2) = true then 1 else 0)) := by
        unfold szD Th.size Th.ex
        rw [List.length_map]
        by_cases z : (thAt ts x).sort = 2 <;> simp [z]
      rw [e2] at hA
      exact hA
    · have e3 : (intsP (ord.take i)).map (szD ts) = intsP ((ord.take i).map fun x => (thAt ts x).size) := by
        unfold intsP
        rw [List.map_map, List.map_map]
        rfl
      refine someTo (d := (ord.take i).map fun x => (thAt ts x).size) (by rw [e3, ints_of]) ?_
      refine ⟨lineL (by unfold stD; rw [List.length_map, List.length_take]; omega), hR _ ⟨some (.imm (.int j)), s5, s6, s7, s8, s9, s10, s11, ?_⟩⟩
      have e4 := offs_sum (thAt ts) (ord.take i) j (ord.drop (i + 1)) 0 hn
      rw [← e1, Int.zero_add] at e4
      rw [← e4]
      show [_, _, some (PV.own (.dic (putD (stD (thAt ts) ord (ord.take i)) (Sum.inl j) (.int (offs (thAt ts) 0 ord j))))), _, _, _, _, _, _, _, _, _] = _
      rw [stD_put (thAt ts) ord hn, List.take_add_one, hj]
      rfl
  · obtain ⟨s4, s5, s6, s7, s8, s9, s10, s11, rfl⟩ := h
    rw [intsP_len, List.take_length]
    refine forT_by (fun i ρ => ∃ s4 s5 s6 s7 s8 s9 s10 s11, ρ = [some (.imm (.list (thsD ts))), some (.imm (.list (intsP ord))), some (.own (.dic (stD (thAt ts) ord ord))), some (.imm (.list (intsP (layAll (thAt ts) (offs (thAt ts) 0 ord) (ord.take i))))), s4, s5, s6, s7, s8, s9, s10, s11]) _ _ ⟨s4, s5, s6, s7, s8, s9, s10, s11, rfl⟩ (fun i d ρ R hd h hR => ?_) fun ρ h => ?_
    · obtain ⟨s4, s5, s6, s7, s8, s9, s10, s11, rfl⟩ := h
      obtain ⟨j, hj, rfl⟩ := intsP_get hd
      have hjm := List.mem_of_getElem? hj
      have hok := L.ok j hjm
      have hstep : layAll (thAt ts) (offs (thAt ts) 0 ord) (ord.take (i + 1)) = layAll (thAt ts) (offs (thAt ts) 0 ord) (ord.take i) ++ layT (offs (thAt ts) 0 ord) (thAt ts j) := by
        rw [List.take_add_one, hj, layAll_app]
        simp [layAll]
      have hbd : ∀ k, (layAll (thAt ts) (offs (thAt ts) 0 ord) (ord.take k)).length ≤ 5 * 1000 := fun k => by
        have h1 : ∀ l : List Int, (∀ x ∈ l, x ∈ ord) → (layAll (thAt ts) (offs (thAt ts) 0 ord) l).length ≤ 5 * l.length := fun l => by
          induction l with
          | nil => intro _; exact Nat.zero_le _
          | cons a r ih =>
            intro hx
            have h2 := ih fun x hx' => hx x (List.mem_cons_of_mem _ hx')
            have h3 := layT_len (offs (thAt ts) 0 ord) (thAt ts a)
            have h4 := (L.ok a (hx a (List.mem_cons_self ..))).len
            have h5 : (thAt ts a).ex ≤ 1 := by unfold Th.ex; split <;> omega
            unfold Th.size at h3
            rw [layAll_cons, List.length_cons]
            omega
        have h6 := h1 (ord.take k) fun x hx => List.mem_of_mem_take hx
        rw [List.length_take] at h6
        omega
      have hb0 := hbd i
      have hb1 := hbd (i + 1)
      rw [hstep, List.length_append] at hb1
      rw [hstep] at hR
      have hcl : ∀ v ∈ ((thAt ts j).parts.filter fun p => decide (p.k = 1)).map Pt.v, v ∈ ord := L.cl j hjm
      have hpos := L.pos
      have aj := at_th (L.pos j hjm) (hlt j hjm)
      generalize thAt ts j = t at *
      generalize layAll (thAt ts) (offs (thAt ts) 0 ord) (ord.take i) = ws at *
      have hlen := hok.len
      have lp : ((t.parts.map ptD).length : Nat) = t.parts.length := List.length_map _
      refine ixTo aj ?_
      refine ⟨rfl, ⟨⟨by rw [lp]; omega, by rw [lp]; omega⟩, ?_⟩⟩
      refine compT_filter (bitT t) pow2D _ _ (fun i' d A B hd hA hB => ?_) (line3 (by rw [intsD_len, lp]; omega)) ⟨rfl, ?_⟩
      · obtain ⟨hi', rfl⟩ := intsD_get hd
        rw [lp, Int.toNat_natCast] at hi'
        have hget : (t.parts.map ptD)[i']? = some (ptD t.parts[i']) := by rw [List.getElem?_map, List.getElem?_eq_getElem hi'] <;> rfl
        have hgd : t.parts.getD (0 + (i' : Int)).toNat ⟨0, 0⟩ = t.parts[i'] := by
          rw [show (0 + (i' : Int)).toNat = i' by omega]
          exact getD_some (List.getElem?_eq_getElem hi')
        have hA : (decide (t.sort = 2) && decide ((t.parts.getD (0 + (i' : Int)).toNat ⟨0, 0⟩).k ≠ 0)) = true → A (.int (2 ^ (0 + (i' : Int)).toNat)) := hA
        have hB : (decide (t.sort = 2) && decide ((t.parts.getD (0 + (i' : Int)).toNat ⟨0, 0⟩).k ≠ 0)) = false → B := hB
        rw [hgd] at hA hB
        generalize t.parts[i'] = p at *
        refine ifD (fun z => ?_) fun z => iteF (hB (by rw [decide_eq_false z]; rfl))
        refine ixTo (by rw [Int.zero_add]; exact atI_nat hget) ?_
        refine seqIx_to 0 rfl rfl ?_
        show if (!decide (kS p.k = ("n" : Str))) = true then _ else _
        rw [kS_n]
        refine ifN (fun y => ?_) fun y => hB (by rw [decide_eq_false (show ¬ (p.k ≠ 0) from fun h => h y), Bool.and_false])
        refine ⟨i', by rw [Int.zero_add], by omega, ?_⟩
        have := hA (by rw [decide_eq_true z, decide_eq_true y]; rfl)
        rw [show (0 + (i' : Int)).toNat = i' by omega] at this
        exact this
      have hbits : intsOf (((intsD 0 (((t.parts.map ptD).length : Nat) : Int).toNat).filter (bitT t)).map pow2D) = some (((List.range t.parts.length).filter fun i => decide (t.sort = 2) && decide ((t.parts.getD i ⟨0, 0⟩).k ≠ 0)).map fun i => (2 : Int) ^ (i + 0)) := by
        rw [lp, Int.toNat_natCast, ← ints_of]
        unfold intsD intsP
        rw [List.filter_map, List.map_map, List.map_map]
        congr 1
        have : (bitT t ∘ fun i : Nat => PyData.int (0 + (i : Int))) = fun i : Nat => decide (t.sort = 2) && decide ((t.parts.getD i ⟨0, 0⟩).k ≠ 0) := by
          funext i
          show (decide (t.sort = 2) && decide ((t.parts.getD (0 + (i : Int)).toNat ⟨0, 0⟩).k ≠ 0)) = _
          rw [show (0 + (i : Int)).toNat = i by omega]
        rw [this]
        apply List.map_congr_left
        intro i _
        show PyData.int (2 ^ (0 + (i : Int)).toNat) = PyData.int (2 ^ (i + 0))
        rw [show (0 + (i : Int)).toNat = i by omega, Nat.add_zero]
      have hsum : (((List.range t.parts.length).filter fun i => decide (t.sort = 2) && decide ((t.parts.getD i ⟨0, 0⟩).k ≠ 0)).map fun i => (2 : Int) ^ (i + 0)).sum = t.bits := by
        unfold Th.bits
        by_cases z : t.sort = 2
        · rw [if_pos z, decide_eq_true z]
          have := bits_sum t.parts 0
          rw [Int.pow_zero, Int.one_mul] at this
          rw [← this]
          rfl
        · rw [if_neg z, decide_eq_false z]
          have : (List.range t.parts.length).filter (fun i => false && decide ((t.parts.getD i ⟨0, 0⟩).k ≠ 0)) = [] := by
            rw [List.filter_eq_nil_iff]
            intro a _
            simp
          rw [this]
          rfl
      refine someTo hbits ?_
      rw [hsum]
      have l63 : sizeLine = 16777216 := sizeLine_eq
      have lw : (intsP ws).length = ws.length := intsP_len ws
      have hT := layT_len (offs (thAt ts) 0 ord) t
      have hpre : ((t.pre).length : Int) = t.ex := by unfold Th.pre Th.ex; split <;> rfl
      have hex : t.ex ≤ 1 := by unfold Th.ex; split <;> omega
      dsimp only
      refine seq_to (zset_to (d := .list (intsP (ws ++ t.head :: t.pre))) (fun Q q => ?_) ?_)
      · refine ⟨.inl (by decide), cm6, .inl (by decide), .inl (by decide), by show 1 ≤ sizeLine; decide, rfl, rfl, ?_, by show 1 ≤ sizeLine; decide, ?_⟩
        · show (intsP ws).length + 1 ≤ sizeLine
          rw [l63]
          omega
        refine compT_filter (fun _ => decide (t.sort = 2)) (fun _ => .int t.code) _ _ (fun i' d A B hd hA hB => ?_) (by show 1 ≤ sizeLine; decide) ?_
        · exact ifD (fun z => hA (decide_eq_true z)) fun z => hB (decide_eq_false z)
        have epre : (([PyData.int 0].filter fun _ => decide (t.sort = 2)).map fun _ => PyData.int t.code) = intsP t.pre := by
          unfold Th.pre
          by_cases z : t.sort = 2
          · rw [if_pos z, decide_eq_true z]
            rfl
          · rw [if_neg z, decide_eq_false z]
            rfl
        rw [epre]
        have ehd : intsP ws ++ [PyData.int (t.sort + 4 * ((t.parts.map ptD).length : Nat) + 4 * 10 ^ (6 : Int).toNat * t.bits)] ++ intsP t.pre = intsP (ws ++ t.head :: t.pre) := by
          rw [lp]
          unfold intsP Th.head
          simp
        refine ⟨rfl, rfl, ?_, ?_⟩
        · show (intsP ws ++ [PyData.int _]).length + (intsP t.pre).length ≤ sizeLine
          rw [List.length_append, intsP_len, intsP_len, List.length_singleton, l63]
          omega
        · show Q (.list (intsP ws ++ [PyData.int (t.sort + 4 * ((t.parts.map ptD).length : Nat) + 4 * 10 ^ (6 : Int).toNat * t.bits)] ++ intsP t.pre))
          rw [ehd]
          exact q
      refine compT_map (encD (offs (thAt ts) 0 ord)) _ _ (fun i' d A B hd hA => ?_) (line3 (by show (t.parts.map ptD).length ≤ _; rw [lp]; omega)) ?_
      · rw [List.getElem?_map] at hd
        obtain ⟨p, hp, rfl⟩ := Option.map_eq_some_iff.mp hd
        have hpm := List.mem_of_getElem? hp
        have hkk := hok.kk p hpm
        have hA : A (.int (enc (offs (thAt ts) 0 ord) p)) := by
          have e : encD (offs (thAt ts) 0 ord) (ptD p) = .int (enc (offs (thAt ts) 0 ord) p) := encD_pt hkk
          rw [← e]
          exact hA
        refine ⟨rfl, ?_⟩
        dsimp only [yCons, yName, yNil]
        refine xC_to (iteT ?_)
        by_cases z : p.k = 1
        · refine xif_T (fun _ q => eqS_to (x := kS p.k) rfl (by rw [kS_p, decide_eq_true z]) q) ?_
          have hv := hcl p.v (mem_tp hpm z)
          unfold enc at hA
          rw [if_pos z] at hA
          exact someTo (stD_val (thAt ts) ord p.v ord hv) hA
        · refine xif_F (fun _ q => eqS_to (x := kS p.k) rfl (by rw [kS_p, decide_eq_false z]) q) ?_
          by_cases y : p.k = 2
          · refine xif_T (fun _ q => eqS_to (x := kS p.k) rfl (by rw [kS_d hkk, decide_eq_true y]) q) ?_
            unfold enc at hA
            rw [if_neg z, if_pos y] at hA
            exact hA
          · refine xif_F (fun _ q => eqS_to (x := kS p.k) rfl (by rw [kS_d hkk, decide_eq_false y]) q) ?_
            unfold enc at hA
            rw [if_neg z, if_neg y] at hA
            exact hA
      · have e5 : (t.parts.map ptD).map (encD (offs (thAt ts) 0 ord)) = intsP (t.parts.map (enc (offs (thAt ts) 0 ord))) := by
          unfold intsP
          rw [List.map_map, List.map_map]
          apply List.map_congr_left
          intro p hp
          exact encD_pt (hok.kk p hp)
        rw [e5]
        refine ⟨rfl, rfl, ?_, hR _ ⟨some (.imm (.int j)), some (.imm (.int t.sort)), some (.imm (.list (t.parts.map ptD))), some (.imm (.int t.code)), some (.imm (.int t.bits)), s9, s10, s11, ?_⟩⟩
        · show (intsP _).length + (intsP _).length ≤ sizeLine
          rw [intsP_len, intsP_len, List.length_append, List.length_cons, List.length_map, l63]
          omega
        · show [_, _, _, some (PV.imm (.list (intsP (ws ++ t.head :: t.pre) ++ intsP (t.parts.map (enc (offs (thAt ts) 0 ord)))))), _, _, _, _, _, _, _, _] = _
          rw [← intsP_app]
          unfold layT
          simp
    · obtain ⟨s4, s5, s6, s7, s8, s9, s10, s11, rfl⟩ := h
      rw [intsP_len, List.take_length]
      exact q
theorem pushes_len (os told : List Int) : told.length ≤ (os.foldl pushI told).length := by
  obtain ⟨t, h⟩ := pushes_pre os told
  rw [h, List.length_append]
  omega
/-! ### the law's own row -/
def rtD : Option Int → D
  | none => .none
  | some j => .int j
def tfOrder : PF := fun _ pvs Q => ∃ (ts : List Th) (rs : List (Option Int)) (ord : List Int) (n : Nat), pvs = [.imm (.list (thsD ts)), .imm (.list (rs.map rtD))] ∧ Laid (thAt ts) n ord ∧ (∀ j ∈ ord, j < ts.length) ∧ (∀ j, some j ∈ rs → j ∈ ord) ∧ ord.length ≤ 1000 ∧
  Q (.imm (.list (intsP (rowJ (thAt ts) ord.length (rs.filterMap id)))))
theorem M__law_order : MonoF tfOrder := fun _ _ _ _ h ⟨ts, rs, ord, n, e, a, b, c, d, q⟩ => ⟨ts, rs, ord, n, e, a, b, c, d, h _ q⟩
theorem ok__law_order (F : Fun K "_law_order" "_law_order" s__law_order f fd) (m_len : mg "len" = none) (m_int : mg "int" = none) : FnOk P w K mg base CX0 1 f fd ["things", "roots"] (Prm K tfOrder) := by
  refine okP F sc__law_order (fun _ _ _ ⟨_, _, _, _, e, _⟩ => by rw [e] <;> rfl) fun cdv A outer s H E e hr => ?_
  refine ⟨_, (zs_cons (z_set (i := 2) kvD sc__law_order.nd rfl (.inl rfl) (pd_n (pn_lst pad_nil)))
  (zs_cons (z_for PassesOwn.never rfl (pi_l (pd_v (pv 1))) (y_name (pg_name (i := 3) sc__law_order.nd rfl (.inl rfl)))
    (zs_one (z_set (i := 2) kvD sc__law_order.nd rfl (.inl rfl) (pd_n (pn_cat (pq_d (pd_v (pv 2))) (pq_n (pn_rep (pn_lst (pad_cons (pd_v (pv 3)) pad_nil)) (pd_toInt (by rfl) m_int (pd_and (pd_c (pc_isnt (pd_v (pv 3)) pd_non) (nomark _)) (pd_one (pd_c (pc_nin (pd_v (pv 3)) (pq_d (pd_v (pv 2)))) rfl)))))))))))
  (zs_cons (z_set (i := 4) kvD sc__law_order.nd rfl (.inl rfl) pd_int)
  (zs_cons (z_while PassesOwn.never (pb_c (pc_lt (pd_v (pv 4)) (pd_len (by rfl) m_len (pq_d (pd_v (pv 2))))) (nomark _))
    (zs_cons (z_for PassesOwn.never rfl (pi_l (pd_ix (pq_d (pd_ix (pq_d (pd_v (pv 0))) (pd_ix (pq_d (pd_v (pv 2))) (pd_v (pv 4)) (fun _ _ => rfl)) (fun _ _ => rfl))) pd_int (fun _ _ => rfl))) (y_tup (n := 2) (by rfl) (ys_cons (y_name (pg_name (i := 5) sc__law_order.nd rfl (.inl rfl))) (ys_cons (y_name (pg_name (i := 3) sc__law_order.nd rfl (.inl rfl))) ys_nil)))
      (zs_one (z_set (i := 2) kvD sc__law_order.nd rfl (.inl rfl) (pd_n (pn_cat (pq_d (pd_v (pv 2))) (pq_n (pn_rep (pn_lst (pad_cons (pd_v (pv 3)) pad_nil)) (pd_toInt (by rfl) m_int (pd_and (pd_c (pc_eq (pd_v (pv 5)) pd_str) (nomark _)) (pd_one (pd_c (pc_nin (pd_v (pv 3)) (pq_d (pd_v (pv 2)))) rfl)))))))))))
    (zs_one (z_set (i := 4) kvD sc__law_order.nd rfl (.inl rfl) (pd_add (pd_v (pv 4)) pd_int)))))
  (zs_one (z_ret kvD (pd_v (pv 2)))))))), ?_⟩
  rintro pvs Q ⟨ts, rs, ord, n, rfl, L, hlt, hrs, hl, q⟩
  have l63 : sizeLine = 16777216 := sizeLine_eq
  have pushD : ∀ (l : List Int) (x : Int) (c : Bool), 0 ≤ x → c = decide (x ∉ l) → intsP l ++ (List.replicate (if c = true then (1 : Int) else 0).toNat [PyData.int x]).flatten = intsP (pushI l x) := fun l x c h0 hc => by
    unfold pushI
    by_cases z : x ∈ l
    · rw [hc, decide_eq_false (show ¬ (x ∉ l) from fun h => h z), if_neg (show ¬ (0 ≤ x ∧ x ∉ l) from fun h => h.2 z)]
      simp
    · rw [hc, decide_eq_true (show x ∉ l from z), if_pos (show 0 ≤ x ∧ x ∉ l from ⟨h0, z⟩), intsP_app]
      rfl
  have rep : ∀ (c : Bool), -(2 ^ 63) ≤ (if c = true then (1 : Int) else 0) ∧ (if c = true then (1 : Int) else 0) < 2 ^ 63 ∧ 1 * (if c = true then (1 : Int) else 0).toNat ≤ sizeLine := fun c => by rw [l63]; cases c <;> decide
  have repl : ∀ (c : Bool) (x : D), (List.replicate (if c = true then (1 : Int) else 0).toNat [x]).flatten.length ≤ 1 := fun c x => by cases c <;> simp
  refine ⟨Nat.zero_le _, ?_⟩
  have tR : ∀ i, Told ord (((rs.take i).filterMap id).foldl pushI []) := fun i => Told.pushes _ _ told_nil fun o ho _ => by
    obtain ⟨x, hx, e⟩ := List.mem_filterMap.mp ho
    cases x with
    | none => cases e
    | some j => cases e; exact hrs _ (List.mem_of_mem_take hx)
  refine forT_by (fun i ρ => ∃ s3 s4 s5, ρ = [some (.imm (.list (thsD ts))), some (.imm (.list (rs.map rtD))), some (.imm (.list (intsP (((rs.take i).filterMap id).foldl pushI [])))), s3, s4, s5]) _ _ ⟨none, none, none, rfl⟩ (fun i d ρ R hd h hR => ?_) fun ρ h => ?_
  · obtain ⟨s3, s4, s5, rfl⟩ := h
    rw [List.getElem?_map] at hd
    obtain ⟨x, hx, rfl⟩ := Option.map_eq_some_iff.mp hd
    have ht := nodup_len (tR i)
    rw [List.take_add_one, hx, List.filterMap_append, List.foldl_append] at hR
    generalize ((rs.take i).filterMap id).foldl pushI [] = told at *
    refine ⟨by show 1 ≤ sizeLine; decide, ?_⟩
    cases x with
    | none =>
      obtain ⟨r1, r2, r3⟩ := rep false
      refine andV_F (fun _ q => q) ⟨r1, r2, r3, rfl, rfl, ?_, hR _ ⟨some (.imm .none), s4, s5, ?_⟩⟩
      · show (intsP told).length + 0 ≤ sizeLine
        rw [intsP_len, l63]
        omega
      · show [_, _, some (PV.imm (.list (intsP told ++ []))), _, _, _] = _
        rw [List.append_nil]
        rfl
    | some j =>
      have hj := hrs j (List.mem_of_getElem? hx)
      refine andV_T (fun _ q => q) ⟨rfl, rt_ints, ?_⟩
      dsimp only
      rw [show rtD (some j) = PyData.int j from rfl, inF_ints]
      have hc : (!decide (j ∈ told)) = decide (j ∉ told) := by simp
      obtain ⟨r1, r2, r3⟩ := rep (!decide (j ∈ told))
      refine ⟨r1, r2, r3, rfl, rfl, ?_, hR _ ⟨some (.imm (.int j)), s4, s5, ?_⟩⟩
      · show (intsP told).length + _ ≤ sizeLine
        have := repl (!decide (j ∈ told)) (.int j)
        rw [intsP_len, l63]
        refine Nat.le_trans (Nat.add_le_add_left this _) (by omega)
      · have := pushD told j _ (L.pos j hj) hc
        show [_, _, some (PV.imm (.list (intsP told ++ (List.replicate (if (!decide (j ∈ told)) = true then (1 : Int) else 0).toNat [PyData.int j]).flatten))), _, _, _] = _
        rw [this]
        rfl
  · obtain ⟨s3, s4, s5, rfl⟩ := h
    rw [List.length_map, List.take_length]
    have tR0 := tR rs.length
    rw [List.take_length] at tR0
    refine ⟨fun m ρ => ∃ told here s3 s5, ρ = [some (.imm (.list (thsD ts))), some (.imm (.list (rs.map rtD))), some (.imm (.list (intsP told))), s3, some (.imm (.int (here : Nat))), s5] ∧ Told ord told ∧ here ≤ told.length ∧ m = ord.length - here ∧ bfs (tp (thAt ts)) (ord.length - here) told here = rowJ (thAt ts) ord.length (rs.filterMap id), ⟨ord.length, (rs.filterMap id).foldl pushI [], 0, s3, s5, rfl, tR0, Nat.zero_le _, rfl, rfl⟩, fun m ρ h => ?_⟩
    obtain ⟨told, here, s3, s5, rfl, ht, hh, rfl, hb⟩ := h
    refine ifD (fun h0 => ?_) fun h0 => ?_
    · have h0 : (here : Int) < ((intsP told).length : Nat) := h0
      rw [intsP_len] at h0
      have hlA := nodup_len ht
      obtain ⟨a, ha⟩ : ∃ a, told[here]? = some a := ⟨told[here], by simp [show here < told.length by omega]⟩
      have haA := ht.sub a (List.mem_of_getElem? ha)
      obtain ⟨k, hk⟩ : ∃ k, ord.length - here = k + 1 := ⟨ord.length - here - 1, by omega⟩
      rw [hk, bfs, ha] at hb
      have hb : bfs (tp (thAt ts)) k ((tp (thAt ts) a).foldl pushI told) (here + 1) = rowJ (thAt ts) ord.length (rs.filterMap id) := hb
      refine ixTo (atI_nat (j := here) (v := .int a) (by unfold intsP; rw [List.getElem?_map, ha] <;> rfl)) ?_
      refine ixTo (at_th (L.pos a haA) (hlt a haA)) ?_
      refine seqIx_to 1 rfl rfl ?_
      have hcl : ∀ v ∈ tp (thAt ts) a, v ∈ ord := L.cl a haA
      have hkk := (L.ok a haA).kk
      have tpE : tp (thAt ts) a = ((thAt ts a).parts.filter fun p => decide (p.k = 1)).map Pt.v := rfl
      rw [tpE] at hb hcl
      have hu := pushes_len (((thAt ts a).parts.filter fun p => decide (p.k = 1)).map Pt.v) told
      have tS : ∀ i, Told ord (((((thAt ts a).parts.take i).filter fun p => decide (p.k = 1)).map Pt.v).foldl pushI told) := fun i => Told.pushes _ _ ht fun o ho _ => hcl o (by
        obtain ⟨p, hp, rfl⟩ := List.mem_map.mp ho
        obtain ⟨hp1, hp2⟩ := List.mem_filter.mp hp
        exact List.mem_map.mpr ⟨p, List.mem_filter.mpr ⟨List.mem_of_mem_take hp1, hp2⟩, rfl⟩)
      refine forT_by (fun i ρ => ∃ s3 s5, ρ = [some (.imm (.list (thsD ts))), some (.imm (.list (rs.map rtD))), some (.imm (.list (intsP (((((thAt ts a).parts.take i).filter fun p => decide (p.k = 1)).map Pt.v).foldl pushI told)))), s3, some (.imm (.int (here : Nat))), s5]) _ _ ⟨s3, s5, rfl⟩ (fun i d ρ R hd h hR => ?_) fun ρ h => ?_
      · obtain ⟨s3, s5, rfl⟩ := h
        rw [List.getElem?_map] at hd
        obtain ⟨p, hp, rfl⟩ := Option.map_eq_some_iff.mp hd
        have hpm := List.mem_of_getElem? hp
        have ht' := nodup_len (tS i)
        rw [List.take_add_one, hp, List.filter_append, List.map_append, List.foldl_append, show (some p).toList = [p] from rfl] at hR
        generalize ((((thAt ts a).parts.take i).filter fun p => decide (p.k = 1)).map Pt.v).foldl pushI told = told' at *
        refine ⟨rfl, by show 1 ≤ sizeLine; decide, ?_⟩
        by_cases z : p.k = 1
        · rw [List.filter_cons, if_pos (by simp [z])] at hR
          have hv := hcl p.v (mem_tp hpm z)
          have hc : (!decide (p.v ∈ told')) = decide (p.v ∉ told') := by simp
          obtain ⟨r1, r2, r3⟩ := rep (!decide (p.v ∈ told'))
          refine andV_T (fun _ q => eqSV_to (x := kS p.k) rfl (by rw [kS_p, decide_eq_true z]) q) ⟨rfl, rt_ints, ?_⟩
          dsimp only
          rw [inF_ints]
          refine ⟨r1, r2, r3, rfl, rfl, ?_, hR _ ⟨some (.imm (.int p.v)), some (.imm (.str (kS p.k))), ?_⟩⟩
          · show (intsP told').length + _ ≤ sizeLine
            have := repl (!decide (p.v ∈ told')) (.int p.v)
            rw [intsP_len, l63]
            refine Nat.le_trans (Nat.add_le_add_left this _) (by omega)
          · have := pushD told' p.v _ (L.pos _ hv) hc
            show [_, _, some (PV.imm (.list (intsP told' ++ (List.replicate (if (!decide (p.v ∈ told')) = true then (1 : Int) else 0).toNat [PyData.int p.v]).flatten))), _, _, _] = _
            rw [this]
            rfl
        · rw [List.filter_cons, if_neg (by simp [z])] at hR
          obtain ⟨r1, r2, r3⟩ := rep false
          refine andV_F (fun _ q => eqSV_to (x := kS p.k) rfl (by rw [kS_p, decide_eq_false z]) q) ⟨r1, r2, r3, rfl, rfl, ?_, hR _ ⟨some (.imm (.int p.v)), some (.imm (.str (kS p.k))), ?_⟩⟩
          · show (intsP told').length + 0 ≤ sizeLine
            rw [intsP_len, l63]
            omega
          · show [_, _, some (PV.imm (.list (intsP told' ++ []))), _, _, _] = _
            rw [List.append_nil]
            rfl
      · obtain ⟨s3, s5, e⟩ : ∃ s3 s5, ρ = [some (.imm (.list (thsD ts))), some (.imm (.list (rs.map rtD))), some (.imm (.list (intsP (((((thAt ts a).parts.take ((thAt ts a).parts.map ptD).length).filter fun p => decide (p.k = 1)).map Pt.v).foldl pushI told)))), s3, some (.imm (.int (here : Nat))), s5] := h
        subst e
        have eL : ((thAt ts a).parts.map ptD).length = (thAt ts a).parts.length := List.length_map _
        have tt := tS ((thAt ts a).parts.map ptD).length
        have eT : (thAt ts a).parts.take ((thAt ts a).parts.map ptD).length = (thAt ts a).parts := by rw [eL, List.take_length]
        refine ⟨k, by omega, ((((thAt ts a).parts.take ((thAt ts a).parts.map ptD).length).filter fun p => decide (p.k = 1)).map Pt.v).foldl pushI told, here + 1, s3, s5, ?_, tt, ?_, by omega, ?_⟩
        · show _ = [_, _, _, _, some (PV.imm (.int ((here + 1 : Nat) : Int))), _]
          rw [show ((here + 1 : Nat) : Int) = (here : Int) + 1 by omega]
          rfl
        · rw [eT]
          omega
        · rw [eT, show ord.length - (here + 1) = k by omega]
          exact hb
    · have h0 : ¬ (here : Int) < ((intsP told).length : Nat) := h0
      rw [intsP_len] at h0
      have e : bfs (tp (thAt ts)) (ord.length - here) told here = told := by
        cases z : ord.length - here with
        | zero => rfl
        | succ k => rw [bfs, List.getElem?_eq_none (by omega)]
      rw [← hb, e] at q
      exact q
end
end K73
set_option Elab.async false
set_option linter.all false
set_option maxRecDepth 100000
set_option maxHeartbeats 8000000
set_option pp.maxSteps 400
namespace K73
open PySem PySem.Spec PyProof.Rows L2 PL
-- law: topS 20; slots [(0, 'script'), (1, 'state'), (2, 'k'), (3, 'things'), (4, 'words'), (5, 'starts'), (6, 'j'), (7, 'roots'), (8, 'asked'), (9, 'order'), (10, 'new'), (11, 'places'), (12, 'sizes'), (13, 'due'), (14, 'sort'), (15, 'parts'), (16, 'code'), (17, 'bits'), (18, 'pointers'), (19, 'first'), (20, 'bent'), (21, 'at'), (22, 'many'), (23, 'chain'), (24, 'one'), (25, 'i')]; own ['places', 'starts']
abbrev s_law : Stmt := topS 20
abbrev N_law : List Str := ["script", "state", "k", "things", "words", "starts", "j", "roots", "asked", "order", "new", "places", "sizes", "due", "sort", "parts", "code", "bits", "pointers", "first", "bent", "at", "many", "chain", "one", "i"]
theorem sc_law : FnScope N_law ["script"] (defScope s_law) := ⟨rfl, rfl, rfl, by decide +kernel, rfl, by decide +kernel, by decide +kernel⟩
theorem ent_any {X : Cx} {sts : List Stmt} {t : Ent → TSt} (h : ∀ e, PSxs X e sts (t e)) : PSs X sts (fun Dd σ H => ∃ e, liftS X.K e (t e) Dd σ H) := ⟨fun pins s σ H Dd I ⟨e, q⟩ => (h e).pss.run pins s σ H Dd I q⟩
def qAsg (dl : Dl) (Pt : Addr) : TSt := zAsg (xBin rdIx (xQ (xV 3)) (xV 6)) (yTup 3 (yCons (yName 14) (yCons (yName 15) (yCons (yName 16) yNil))))
def qBits (dl : Dl) (Pt : Addr) : TSt := zSet PV.imm 17 (xUn rdSum (xNQ (xLc (iR1 (xUn rdLen (xQ (xV 15)))) (yName 25) (xAnd (xB (xBin (rdEqP false) (xV 14) (xC (PyData.int 2)))) (xB (xBin (rdEqP true) (xBin rdIx (xQ (xBin rdIx (xQ (xV 15)) (xV 25))) (xC (PyData.int 0))) (xC (PyData.str (Str.ofString "n")))))) (xCall tfPower dl (vCons PV.imm (xV 25) (xC []))) (List.map (fun x => x.snd) [ (Str.ofString "i", 25) ]))))
def qPtrs (dl : Dl) (Pt : Addr) : TSt := zSet PV.imm 18 (xND (xLc (iR1 (xUn rdLen (xQ (xV 15)))) (yName 25) (xOr (xB (xBin (rdEqP false) (xV 14) (xC (PyData.int 1)))) (xAnd (xB (xBin (rdEqP false) (xV 14) (xC (PyData.int 2)))) (xB (xBin (rdEqP true) (xBin rdIx (xQ (xBin rdIx (xQ (xV 15)) (xV 25))) (xC (PyData.int 0))) (xC (PyData.str (Str.ofString "n"))))))) (xBin (rd0 fun i j => PyData.int (i + j)) (xBin (rd0 fun i j => PyData.int (i + j)) (xV 25) (xC (PyData.int 1))) (xUn rdInt (xBin (rdEqP false) (xV 14) (xC (PyData.int 2))))) (List.map (fun x => x.snd) [ (Str.ofString "i", 25) ])))
def qFirst (dl : Dl) (Pt : Addr) : TSt := zSet PV.imm 19 (xBin rdIx (xQ (xV 4)) (xDget 5 (xV 6)))
def qEx3 (dl : Dl) (Pt : Addr) : TSt := zIf (xNot (xB (xCall (tfExact 5) dl (vCons PV.imm (xND (xLst (xCons (xV 19) (xCons (xBin (rd0 fun i j => PyData.int (i + j)) (xBin (rd0 fun i j => PyData.int (i + j)) (xC (PyData.int 1)) (xUn rdLen (xQ (xV 15)))) (xUn rdInt (xBin (rdEqP false) (xV 14) (xC (PyData.int 2))))) (xCons (xV 18) (xC [])))))) (vCons PV.imm (xND (xLst (xCons (xCall tfFirst dl (vCons PV.imm (xV 14) (vCons PV.imm (xUn rdLen (xQ (xV 15))) (vCons PV.imm (xV 17) (xC []))))) (xCons (xCall tfThing dl (vCons PV.imm (xV 19) (xC []))) (xCons (xND (xCallN tfPtrs dl (vCons PV.imm (xV 19) (xC [])))) (xC [])))))) (xC [])))))) (zRet PV.imm (xC (PyData.bool false))) zNil
def qBody (dl : Dl) (Pt : Addr) : TSt := zSeq (qAsg dl Pt) (zSeq (qBits dl Pt) (zSeq (qPtrs dl Pt) (zSeq (qFirst dl Pt) (qEx3 dl Pt))))
def tThings (dl : Dl) (Pt : Addr) : TSt := zSet PV.imm 3 (xCall tfLHeap dl (vCons PV.raw (xVR 1) (vCons PV.imm (xV 0) (xC []))))
def tLaid1 (dl : Dl) (Pt : Addr) : TSt := zCallT2 tfLaid dl (vCons PV.imm (xV 3) (vCons PV.imm (xND (nRg1 (xUn rdLen (xQ (xV 3))))) (xC []))) 4 5
def tRoots (dl : Dl) (Pt : Addr) : TSt := zSet PV.imm 7 (xND (xLc (iR1 (xCall tfDraw2 dl (vCons PV.raw (xVR 1) (vCons PV.imm (xV 0) (vCons PV.imm (xC (PyData.int 5)) (xC [])))))) (yName 6) (xC true) (xIf (xB (xBin (rdEqP false) (xCall tfDraw2 dl (vCons PV.raw (xVR 1) (vCons PV.imm (xV 0) (vCons PV.imm (xC (PyData.int 5)) (xC []))))) (xC (PyData.int 0)))) (xC PyData.none) (xCall tfDraw2 dl (vCons PV.raw (xVR 1) (vCons PV.imm (xV 0) (vCons PV.imm (xUn rdLen (xQ (xV 3))) (xC [])))))) (List.map (fun x => x.snd) [ (Str.ofString "j", 6) ])))
def tAsked (dl : Dl) (Pt : Addr) : TSt := zSet PV.imm 8 (xND (xLc (iL (xV 7)) (yName 24) (xC true) (xIf (xB (xBin (rdIs false) (xV 24) (xC PyData.none))) (xUn rdNeg (xC (PyData.int 3))) (xDget 5 (xV 24))) (List.map (fun x => x.snd) [ (Str.ofString "one", 24) ])))
def tOrd (dl : Dl) (Pt : Addr) : TSt := zSet PV.imm 9 (xCall tfOrder dl (vCons PV.imm (xV 3) (vCons PV.imm (xV 7) (xC []))))
def tLaid2 (dl : Dl) (Pt : Addr) : TSt := zCallT2 tfLaid dl (vCons PV.imm (xV 3) (vCons PV.imm (xV 9) (xC []))) 10 11
def tSizes (dl : Dl) (Pt : Addr) : TSt := zSet PV.imm 12 (xUn rdSum (xNQ (xLc (iL (xV 9)) (yName 6) (xC true) (xBin (rd0 fun i j => PyData.int (i + j)) (xBin (rd0 fun i j => PyData.int (i + j)) (xC (PyData.int 1)) (xUn rdLen (xQ (xBin rdIx (xQ (xBin rdIx (xQ (xV 3)) (xV 6))) (xC (PyData.int 1)))))) (xUn rdInt (xBin (rdEqP false) (xBin rdIx (xQ (xBin rdIx (xQ (xV 3)) (xV 6))) (xC (PyData.int 0))) (xC (PyData.int 2))))) (List.map (fun x => x.snd) [ (Str.ofString "j", 6) ]))))
def tDue (dl : Dl) (Pt : Addr) : TSt := zSet PV.imm 13 (xND (xLst (xCons (xND (xLc (iL (xV 9)) (yName 6) (xC true) (xDget 5 (xV 6)) (List.map (fun x => x.snd) [ (Str.ofString "j", 6) ]))) (xCons (xV 12) (xCons (xTup (xCons (xV 10) (xCons (xND (xLc (iL (xV 7)) (yName 24) (xC true) (xIf (xB (xBin (rdIs false) (xV 24) (xC PyData.none))) (xUn rdNeg (xC (PyData.int 3))) (xDget 11 (xV 24))) (List.map (fun x => x.snd) [ (Str.ofString "one", 24) ]))) (xC [])))) (xCons (xC (PyData.bool true)) (xC [])))))))
def tEx1 (dl : Dl) (Pt : Addr) : TSt := zIf (xNot (xB (xCall (tfExact 5) dl (vCons PV.imm (xV 13) (vCons PV.imm (xND (xLst (xCons (xND (xCallN tfReached dl (vCons PV.imm (xUn rdTuple (xQ (xV 4))) (vCons PV.imm (xND (xUn rdList (xQ (xV 8)))) (xC []))))) (xCons (xCall tfRW dl (vCons PV.imm (xND (xUn rdList (xQ (xV 4)))) (vCons PV.imm (xND (xUn rdList (xQ (xV 8)))) (xC [])))) (xCons (xCall tfColl dl (vCons PV.imm (xUn rdTuple (xQ (xV 4))) (vCons PV.imm (xND (xUn rdList (xQ (xV 8)))) (xC [])))) (xCons (xCall (tfIsHeap Pt) dl (vCons PV.imm (xND (xUn rdList (xQ (xV 4)))) (xC []))) (xC []))))))) (xC [])))))) (zRet PV.imm (xC (PyData.bool false))) zNil
def tEx2 (dl : Dl) (Pt : Addr) : TSt := zIf (xOr (xNot (xB (xCall (tfExact 5) dl (vCons PV.imm (xTup (xCons (xV 10) (xCons (xBin rdIx (xQ (xBin rdIx (xQ (xV 13)) (xC (PyData.int 2)))) (xC (PyData.int 1))) (xC [])))) (vCons PV.imm (xCall tfColl dl (vCons PV.imm (xND (xUn rdList (xQ (xV 10)))) (vCons PV.imm (xND (xUn rdList (xQ (xBin rdIx (xQ (xBin rdIx (xQ (xV 13)) (xC (PyData.int 2)))) (xC (PyData.int 1)))))) (xC [])))) (xC [])))))) (xNot (xB (xCall (tfIsHeap Pt) dl (vCons PV.imm (xV 10) (xC [])))))) (zRet PV.imm (xC (PyData.bool false))) zNil
def tPtrLoop (dl : Dl) (Pt : Addr) : TSt := zFor (iR1 (xUn rdLen (xQ (xV 3)))) (yName 6) (qBody dl Pt)
def tBent (dl : Dl) (Pt : Addr) : TSt := zSet PV.own 20 (xUn rdList (xQ (xV 4)))
def tAt (dl : Dl) (Pt : Addr) : TSt := zSet PV.imm 21 (xCall tfDraw2 dl (vCons PV.raw (xVR 1) (vCons PV.imm (xV 0) (vCons PV.imm (xUn rdLen (xVQ 20)) (xC [])))))
def tPut (dl : Dl) (Pt : Addr) : TSt := zStore 20 (xV 21) (xBin rdIx (xNQ (xLst (xCons (xBin (rd0 fun i j => PyData.int (i + j)) (xBin rdIx (xVQ 20) (xV 21)) (xC (PyData.int 1))) (xCons (xUn rdNeg (xC (PyData.int 1))) (xCons (xBin (rd0 fun i j => PyData.int (i + j)) (xUn rdLen (xVQ 20)) (xC (PyData.int 4))) (xCons (xC (PyData.int 3)) (xC []))))))) (xCall tfDraw2 dl (vCons PV.raw (xVR 1) (vCons PV.imm (xV 0) (vCons PV.imm (xC (PyData.int 4)) (xC []))))))
def tEx4 (dl : Dl) (Pt : Addr) : TSt := zFrz 20 (zIf (xNot (xB (xCall (tfExact 5) dl (vCons PV.imm (xCall tfLawHeap dl (vCons PV.imm (xV 20) (xC []))) (vCons PV.imm (xCall (tfIsHeap Pt) dl (vCons PV.imm (xV 20) (xC []))) (xC [])))))) (zRet PV.imm (xC (PyData.bool false))) zNil)
def tBody (dl : Dl) (Pt : Addr) : TSt := zSeq (tThings dl Pt) (zSeq (tLaid1 dl Pt) (zSeq (tRoots dl Pt) (zSeq (tAsked dl Pt) (zSeq (tOrd dl Pt) (zSeq (tLaid2 dl Pt) (zSeq (tSizes dl Pt) (zSeq (tDue dl Pt) (zSeq (tEx1 dl Pt) (zSeq (tEx2 dl Pt) (zSeq (tPtrLoop dl Pt) (zSeq (tBent dl Pt) (zSeq (tAt dl Pt) (zSeq (tPut dl Pt) (tEx4 dl Pt))))))))))))))
def uMany (dl : Dl) (Pt : Addr) : TSt := zSet PV.imm 22 (xBin (rd0 fun i j => PyData.int (i + j)) (xC (PyData.int 1500)) (xCall tfDraw2 dl (vCons PV.raw (xVR 1) (vCons PV.imm (xV 0) (vCons PV.imm (xC (PyData.int 500)) (xC []))))))
def uChain (dl : Dl) (Pt : Addr) : TSt := zSet PV.imm 23 (xND (xBin rdCatL (xQ (xCall tfFlat dl (vCons PV.imm (xND (xLc (iR1 (xV 22)) (yName 6) (xC true) (xND (xLst (xCons (xBin (rd0 fun i j => PyData.int (i + j)) (xBin (rdI CMul fun i j => PyData.int (i * j)) (xC (PyData.int 4)) (xBin (rdI CPow fun i j => PyData.int (i ^ j.toNat)) (xC (PyData.int 10)) (xC (PyData.int 6)))) (xC (PyData.int 6))) (xCons (xC (PyData.int 0)) (xCons (xBin (rd0 fun i j => PyData.int (i + j)) (xBin (rdI CMul fun i j => PyData.int (i * j)) (xC (PyData.int 3)) (xV 6)) (xC (PyData.int 3))) (xC [])))))) (List.map (fun x => x.snd) [ (Str.ofString "j", 6) ]))) (xC [])))) (xNQ (xLst (xCons (xC (PyData.int 0)) (xC []))))))
def uColl (dl : Dl) (Pt : Addr) : TSt := zAsg (xCall tfColl dl (vCons PV.imm (xV 23) (vCons PV.imm (xND (xLst (xCons (xC (PyData.int 0)) (xCons (xC (PyData.int 0)) (xC []))))) (xC [])))) (yTup 2 (yCons (yName 4) (yCons (yName 7) yNil)))
def uRet (dl : Dl) (Pt : Addr) : TSt := zRet PV.imm (xAndV (xBin (rdEq false) (xV 4) (xV 23)) (xAndV (xBin (rdEq false) (xV 7) (xND (xLst (xCons (xC (PyData.int 0)) (xCons (xC (PyData.int 0)) (xC [])))))) (xAndV (xBin (rdEqP false) (xCall tfRW dl (vCons PV.imm (xV 23) (vCons PV.imm (xND (xLst (xCons (xBin (rdI CMul fun i j => PyData.int (i * j)) (xC (PyData.int 3)) (xV 22)) (xC [])))) (xC [])))) (xC (PyData.int 1))) (xAndV (xCall (tfIsHeap Pt) dl (vCons PV.imm (xND (xLst (xC []))) (xC []))) (xBin (rdEq false) (xCall tfColl dl (vCons PV.imm (xND (xLst (xCons (xC (PyData.int 4)) (xCons (xC (PyData.int 9)) (xC []))))) (vCons PV.imm (xND (xLst (xC []))) (xC [])))) (xTup (xCons (xND (xLst (xC []))) (xCons (xND (xLst (xC []))) (xC [])))))))))
def tMost (dl : Dl) (Pt : Addr) : TSt := zIf (xB (xBin (rdEqP true) (xC (PyData.int 1000000)) (xBin (rdI CPow fun i j => PyData.int (i ^ j.toNat)) (xC (PyData.int 10)) (xC (PyData.int 6))))) (zRet PV.imm (xC (PyData.bool false))) zNil
def tLaw (dl : Dl) (Pt : Addr) : TSt := zSeq (tMost dl Pt) (zSeq (zFor (iR1 (xC (PyData.int 4))) (yName 2) (tBody dl Pt)) (zSeq (uMany dl Pt) (zSeq (uChain dl Pt) (zSeq (uColl dl Pt) (uRet dl Pt)))))

section
variable {P : Program} {w : World} {K : PySem.W.Frag} {mg : Str → Option Value} {base : Heap} {f Pt : Addr} {fd : FuncData} {tM : Tok} {f_first_word f_thing_size f_pointer_places f_reached f_reached_words f_collect f_is_heap f__law_draw f__law_exact f__law_flat f__law_is_heap f__law_heap f__law_laid f__law_power f__law_order : Addr} {fd_first_word fd_thing_size fd_pointer_places fd_reached fd_reached_words fd_collect fd_is_heap fd__law_draw fd__law_exact fd__law_flat fd__law_is_heap fd__law_heap fd__law_laid fd__law_power fd__law_order : FuncData}
theorem der_law (g_MOST : mg "MOST" = some (.int 1000000 tM)) (m_len : mg "len" = none) (m_int : mg "int" = none) (m_list : mg "list" = none) (m_tuple : mg "tuple" = none) (m_range : mg "range" = none) (m_sum : mg "sum" = none) (G_first_word : FnOk P w K mg base CX0 1 f_first_word fd_first_word ["sort", "size", "bits"] (Prm K tfFirst)) (g_first_word : mg "first_word" = some (.ref f_first_word)) (F_first_word : Fun K "first_word" "first_word" s_first_word f_first_word fd_first_word) (b_first_word : Binds K fd_first_word ["sort", "size", "bits"] []) (G_thing_size : FnOk P w K mg base CX0 1 f_thing_size fd_thing_size ["word"] (Prm K tfThing)) (g_thing_size : mg "thing_size" = some (.ref f_thing_size)) (F_thing_size : Fun K "thing_size" "thing_size" s_thing_size f_thing_size fd_thing_size) (b_thing_size : Binds K fd_thing_size ["word"] []) (G_pointer_places : FnOk P w K mg base CX0 1 f_pointer_places fd_pointer_places ["word"] (Prm K tfPtrs)) (g_pointer_places : mg "pointer_places" = some (.ref f_pointer_places)) (F_pointer_places : Fun K "pointer_places" "pointer_places" s_pointer_places f_pointer_places fd_pointer_places) (b_pointer_places : Binds K fd_pointer_places ["word"] []) (G_reached : FnOk P w K mg base CX0 2 f_reached fd_reached ["words", "roots"] (Prm K tfReached)) (g_reached : mg "reached" = some (.ref f_reached)) (F_reached : Fun K "reached" "reached" s_reached f_reached fd_reached) (b_reached : Binds K fd_reached ["words", "roots"] []) (G_reached_words : FnOk P w K mg base CX0 3 f_reached_words fd_reached_words ["words", "roots"] (Prm K tfRW)) (g_reached_words : mg "reached_words" = some (.ref f_reached_words)) (F_reached_words : Fun K "reached_words" "reached_words" s_reached_words f_reached_words fd_reached_words) (b_reached_words : Binds K fd_reached_words ["words", "roots"] []) (G_collect : FnOk P w K mg base CX0 3 f_collect fd_collect ["words", "roots"] (Prm K tfColl)) (g_collect : mg "collect" = some (.ref f_collect)) (F_collect : Fun K "collect" "collect" s_collect f_collect fd_collect) (b_collect : Binds K fd_collect ["words", "roots"] []) (G_is_heap : FnOk P w K mg base CX0 2 f_is_heap fd_is_heap ["words"] (Prm K (tfIsHeap Pt))) (g_is_heap : mg "is_heap" = some (.ref f_is_heap)) (F_is_heap : Fun K "is_heap" "is_heap" s_is_heap f_is_heap fd_is_heap) (b_is_heap : Binds K fd_is_heap ["words"] []) (G__law_draw : FnOk P w K mg base CX0 2 f__law_draw fd__law_draw ["state", "script", "size"] (Prm K tfDraw2)) (g__law_draw : mg "_law_draw" = some (.ref f__law_draw)) (F__law_draw : Fun K "_law_draw" "_law_draw" s__law_draw f__law_draw fd__law_draw) (b__law_draw : Binds K fd__law_draw ["state", "script", "size"] []) (G__law_exact : FnOk P w K mg base CX0 6 f__law_exact fd__law_exact ["first", "second"] (Prm K (tfExact 5))) (g__law_exact : mg "_law_exact" = some (.ref f__law_exact)) (F__law_exact : Fun K "_law_exact" "_law_exact" s__law_exact f__law_exact fd__law_exact) (b__law_exact : Binds K fd__law_exact ["first", "second"] []) (G__law_flat : FnOk P w K mg base CX0 1 f__law_flat fd__law_flat ["rows"] (Prm K tfFlat)) (g__law_flat : mg "_law_flat" = some (.ref f__law_flat)) (F__law_flat : Fun K "_law_flat" "_law_flat" s__law_flat f__law_flat fd__law_flat) (b__law_flat : Binds K fd__law_flat ["rows"] []) (G__law_is_heap : FnOk P w K mg base CX0 1 f__law_is_heap fd__law_is_heap ["words"] (Prm K tfLawHeap)) (g__law_is_heap : mg "_law_is_heap" = some (.ref f__law_is_heap)) (F__law_is_heap : Fun K "_law_is_heap" "_law_is_heap" s__law_is_heap f__law_is_heap fd__law_is_heap) (b__law_is_heap : Binds K fd__law_is_heap ["words"] []) (G__law_heap : FnOk P w K mg base CX0 3 f__law_heap fd__law_heap ["state", "script"] (Prm K tfLHeap)) (g__law_heap : mg "_law_heap" = some (.ref f__law_heap)) (F__law_heap : Fun K "_law_heap" "_law_heap" s__law_heap f__law_heap fd__law_heap) (b__law_heap : Binds K fd__law_heap ["state", "script"] []) (G__law_laid : FnOk P w K mg base CX0 2 f__law_laid fd__law_laid ["things", "order"] (Prm K tfLaid)) (g__law_laid : mg "_law_laid" = some (.ref f__law_laid)) (F__law_laid : Fun K "_law_laid" "_law_laid" s__law_laid f__law_laid fd__law_laid) (b__law_laid : Binds K fd__law_laid ["things", "order"] []) (G__law_power : FnOk P w K mg base CX0 1 f__law_power fd__law_power ["many"] (Prm K tfPower)) (g__law_power : mg "_law_power" = some (.ref f__law_power)) (F__law_power : Fun K "_law_power" "_law_power" s__law_power f__law_power fd__law_power) (b__law_power : Binds K fd__law_power ["many"] []) (G__law_order : FnOk P w K mg base CX0 1 f__law_order fd__law_order ["things", "roots"] (Prm K tfOrder)) (g__law_order : mg "_law_order" = some (.ref f__law_order)) (F__law_order : Fun K "_law_order" "_law_order" s__law_order f__law_order fd__law_order) (b__law_order : Binds K fd__law_order ["things", "roots"] [])
    {cdv : Value} {A : Around} {outer : List Env} {s : Shared} {H : Hp} {E : XK} (hr : Room 6 (A.deeper (envOfC "law" (defScope s_law) s.heap.objs.size f cdv))) (e : Ent) : PSxs (cxOf CX0 P w K mg base N_law "law" (defScope s_law) f cdv A outer s H E).nox e ((defBody s_law).drop 1) (tLaw e.toDl Pt) := by
  have M__law_draw : MonoF tfDraw2 := tfDraw2_mono
  exact (zs_cons (z_if (pb_c (pc_ne (pd_k (pe_glob (v := .int 1000000) rfl g_MOST ⟨tM, rfl⟩) (fun _ => .int _)) (pd_pow pd_int pd_int)) (nomark _))
    (zs_one (z_ret kvD pd_bl))
    zs_nil)
  (zs_cons (z_for PassesOwn.never rfl (pi_r1 (by rfl) m_range pd_int) (y_name (pg_name (i := 2) sc_law.nd rfl (.inl rfl)))
    (zs_cons (z_set (i := 3) kvD sc_law.nd rfl (.inr rfl) (pd_call M__law_heap G__law_heap (hr.mono (by omega)) (by rfl) g__law_heap F__law_heap.kp b__law_heap pass0 (pav_r (pr_v (pv 1)) (pav_d (pd_v (pv 0)) pav_nil))))
    (zs_cons (z_callT2 (by decide) rfl (pg_name (i := 4) sc_law.nd rfl (.inl rfl)) (pg_name (i := 5) sc_law.nd rfl (.inr rfl)) M__law_laid G__law_laid (hr.mono (by omega)) (by rfl) g__law_laid F__law_laid.kp b__law_laid pass0 (pav_d (pd_v (pv 3)) (pav_d (pd_n (pn_listRg1 rfl (by rfl) m_list (by rfl) m_range (pd_len (by rfl) m_len (pq_d (pd_v (pv 3)))))) pav_nil)))
    (zs_cons (z_setLcD (k1 := kD K e) (pv := PV.imm) (tx := xC PyData.none) (i := 7) (own := [("j", 6)]) rfl sc_law.nd rfl rfl (sw_true rfl rfl rfl (by decide +kernel)) (pi_r1 (by rfl) m_range (pd_call M__law_draw G__law_draw (hr.mono (by omega)) (by rfl) g__law_draw F__law_draw.kp b__law_draw pass0 (pav_r (pr_v (pv 1)) (pav_d (pd_v (pv 0)) (pav_d pd_int pav_nil))))) (blkOk_by (own := [("j", 6)]) (N := N_law) (sc := defScope s_law) (by decide +kernel)) (fun _ _ _ _ _ => (y_name (pg_name (i := 6) sc_law.nd rfl (.inl rfl)))) (fun _ _ _ _ _ => px_yes) (fun _ _ _ _ _ => (px_if (pb_c (pc_eq (pd_call M__law_draw G__law_draw (hr.mono (by omega)) (by rfl) g__law_draw F__law_draw.kp b__law_draw pass0 (pav_r (pr_v (pv 1)) (pav_d (pd_v (pv 0)) (pav_d pd_int pav_nil)))) pd_int) (nomark _)) pd_non (pd_call M__law_draw G__law_draw (hr.mono (by omega)) (by rfl) g__law_draw F__law_draw.kp b__law_draw pass0 (pav_r (pr_v (pv 1)) (pav_d (pd_v (pv 0)) (pav_d (pd_len (by rfl) m_len (pq_d (pd_v (pv 3)))) pav_nil)))))) (by decide))
    (zs_cons (z_setLcD (k1 := kD K e) (pv := PV.imm) (tx := xC PyData.none) (i := 8) (own := [("one", 24)]) rfl sc_law.nd rfl rfl (sw_true rfl rfl rfl (by decide +kernel)) (pi_l (pd_v (pv 7))) (blkOk_by (own := [("one", 24)]) (N := N_law) (sc := defScope s_law) (by decide +kernel)) (fun _ _ _ _ _ => (y_name (pg_name (i := 24) sc_law.nd rfl (.inl rfl)))) (fun _ _ _ _ _ => px_yes) (fun _ _ _ _ _ => (px_if (pb_c (pc_is (pd_v (pv 24)) pd_non) (nomark _)) (pd_neg pd_int) (pd_dget_v hr.units (pv 5) (pd_v (pv 24)) (fun _ _ => rfl)))) (by decide))
    (zs_cons (z_set (i := 9) kvD sc_law.nd rfl (.inl rfl) (pd_call M__law_order G__law_order (hr.mono (by omega)) (by rfl) g__law_order F__law_order.kp b__law_order pass0 (pav_d (pd_v (pv 3)) (pav_d (pd_v (pv 7)) pav_nil))))
    (zs_cons (z_callT2 (by decide) rfl (pg_name (i := 10) sc_law.nd rfl (.inl rfl)) (pg_name (i := 11) sc_law.nd rfl (.inr rfl)) M__law_laid G__law_laid (hr.mono (by omega)) (by rfl) g__law_laid F__law_laid.kp b__law_laid pass0 (pav_d (pd_v (pv 3)) (pav_d (pd_v (pv 9)) pav_nil)))
    (zs_cons (z_set (i := 12) kvD sc_law.nd rfl (.inl rfl) (pd_sum rfl (by rfl) m_sum (by decide +kernel) (pq_n (pn_lc (own := [("j", 6)]) rfl sc_law.nd (pi_l (pd_v (pv 9))) (blkOk_by (own := [("j", 6)]) (N := N_law) (sc := defScope s_law) (by decide +kernel)) (fun _ _ _ _ _ => (y_name (pg_name (i := 6) sc_law.nd rfl (.inl rfl)))) (fun _ _ _ _ _ => px_yes) (fun _ _ _ _ _ => (pd_add (pd_add pd_int (pd_len (by rfl) m_len (pq_d (pd_ix (pq_d (pd_ix (pq_d (pd_v (pv 3))) (pd_v (pv 6)) (fun _ _ => rfl))) pd_int (fun _ _ => rfl))))) (pd_toInt (by rfl) m_int (pd_c (pc_eq (pd_ix (pq_d (pd_ix (pq_d (pd_v (pv 3))) (pd_v (pv 6)) (fun _ _ => rfl))) pd_int (fun _ _ => rfl)) pd_int) (nomark _))))) (by decide)))))
    (zs_cons (z_set (i := 13) kvD sc_law.nd rfl (.inl rfl) (pd_n (pn_lst (pad_cons (pd_n (pn_lc (own := [("j", 6)]) rfl sc_law.nd (pi_l (pd_v (pv 9))) (blkOk_by (own := [("j", 6)]) (N := N_law) (sc := defScope s_law) (by decide +kernel)) (fun _ _ _ _ _ => (y_name (pg_name (i := 6) sc_law.nd rfl (.inl rfl)))) (fun _ _ _ _ _ => px_yes) (fun _ _ _ _ _ => (pd_dget_v hr.units (pv 5) (pd_v (pv 6)) (fun _ _ => rfl))) (by decide))) (pad_cons (pd_v (pv 12)) (pad_cons (pd_tup (pad_cons (pd_v (pv 10)) (pad_cons (pd_n (pn_lc (own := [("one", 24)]) rfl sc_law.nd (pi_l (pd_v (pv 7))) (blkOk_by (own := [("one", 24)]) (N := N_law) (sc := defScope s_law) (by decide +kernel)) (fun _ _ _ _ _ => (y_name (pg_name (i := 24) sc_law.nd rfl (.inl rfl)))) (fun _ _ _ _ _ => px_yes) (fun _ _ _ _ _ => (px_if (pb_c (pc_is (pd_v (pv 24)) pd_non) (nomark _)) (pd_neg pd_int) (pd_dget_v hr.units (pv 11) (pd_v (pv 24)) (fun _ _ => rfl)))) (by decide))) pad_nil))) (pad_cons pd_bl pad_nil)))))))
    (zs_cons (z_if (pb_not (pb_val (pd_call M__law_exact G__law_exact (hr.mono (by omega)) (by rfl) g__law_exact F__law_exact.kp b__law_exact pass0 (pav_d (pd_v (pv 13)) (pav_d (pd_n (pn_lst (pad_cons (pd_n (pn_call M_reached G_reached (hr.mono (by omega)) (by rfl) g_reached F_reached.kp b_reached pass0 (pav_d (pd_tuple (by rfl) m_tuple (pq_d (pd_v (pv 4)))) (pav_d (pd_n (pn_list (by rfl) m_list (pq_d (pd_v (pv 8))))) pav_nil)))) (pad_cons (pd_call M_reached_words G_reached_words (hr.mono (by omega)) (by rfl) g_reached_words F_reached_words.kp b_reached_words pass0 (pav_d (pd_n (pn_list (by rfl) m_list (pq_d (pd_v (pv 4))))) (pav_d (pd_n (pn_list (by rfl) m_list (pq_d (pd_v (pv 8))))) pav_nil))) (pad_cons (pd_call M_collect G_collect (hr.mono (by omega)) (by rfl) g_collect F_collect.kp b_collect pass0 (pav_d (pd_tuple (by rfl) m_tuple (pq_d (pd_v (pv 4)))) (pav_d (pd_n (pn_list (by rfl) m_list (pq_d (pd_v (pv 8))))) pav_nil))) (pad_cons (pd_call M_is_heap G_is_heap (hr.mono (by omega)) (by rfl) g_is_heap F_is_heap.kp b_is_heap pass0 (pav_d (pd_n (pn_list (by rfl) m_list (pq_d (pd_v (pv 4))))) pav_nil)) pad_nil)))))) pav_nil)))))
      (zs_one (z_ret kvD pd_bl))
      zs_nil)
    (zs_cons (z_if (pb_w (pw_o (pb_not (pb_val (pd_call M__law_exact G__law_exact (hr.mono (by omega)) (by rfl) g__law_exact F__law_exact.kp b__law_exact pass0 (pav_d (pd_tup (pad_cons (pd_v (pv 10)) (pad_cons (pd_ix (pq_d (pd_ix (pq_d (pd_v (pv 13))) pd_int (fun _ _ => rfl))) pd_int (fun _ _ => rfl)) pad_nil))) (pav_d (pd_call M_collect G_collect (hr.mono (by omega)) (by rfl) g_collect F_collect.kp b_collect pass0 (pav_d (pd_n (pn_list (by rfl) m_list (pq_d (pd_v (pv 10))))) (pav_d (pd_n (pn_list (by rfl) m_list (pq_d (pd_ix (pq_d (pd_ix (pq_d (pd_v (pv 13))) pd_int (fun _ _ => rfl))) pd_int (fun _ _ => rfl))))) pav_nil))) pav_nil))))) (pw_o1 (pb_not (pb_val (pd_call M_is_heap G_is_heap (hr.mono (by omega)) (by rfl) g_is_heap F_is_heap.kp b_is_heap pass0 (pav_d (pd_v (pv 10)) pav_nil)))))))
      (zs_one (z_ret kvD pd_bl))
      zs_nil)
    (zs_cons (z_for PassesOwn.never rfl (pi_r1 (by rfl) m_range (pd_len (by rfl) m_len (pq_d (pd_v (pv 3))))) (y_name (pg_name (i := 6) sc_law.nd rfl (.inl rfl)))
      (zs_cons (z_asg (pd_ix (pq_d (pd_v (pv 3))) (pd_v (pv 6)) (fun _ _ => rfl)) (y_tup (n := 3) (by rfl) (ys_cons (y_name (pg_name (i := 14) sc_law.nd rfl (.inr rfl))) (ys_cons (y_name (pg_name (i := 15) sc_law.nd rfl (.inr rfl))) (ys_cons (y_name (pg_name (i := 16) sc_law.nd rfl (.inl rfl))) ys_nil)))))
      (zs_cons (z_set (i := 17) kvD sc_law.nd rfl (.inl rfl) (pd_sum rfl (by rfl) m_sum (by decide +kernel) (pq_n (pn_lc (own := [("i", 25)]) rfl sc_law.nd (pi_r1 (by rfl) m_range (pd_len (by rfl) m_len (pq_d (pd_v (pv 15))))) (blkOk_by (own := [("i", 25)]) (N := N_law) (sc := defScope s_law) (by decide +kernel)) (fun _ _ _ _ _ => (y_name (pg_name (i := 25) sc_law.nd rfl (.inl rfl)))) (fun _ _ _ _ _ => (px_one (pb_w (pw_a (pb_c (pc_eq (pd_v (pv 14)) pd_int) (nomark _)) (pw_a1 (pb_c (pc_ne (pd_ix (pq_d (pd_ix (pq_d (pd_v (pv 15))) (pd_v (pv 25)) (fun _ _ => rfl))) pd_int (fun _ _ => rfl)) pd_str) (nomark _))))))) (fun _ _ _ _ _ => (pd_call M__law_power G__law_power (hr.mono (by omega)) (by rfl) g__law_power F__law_power.kp b__law_power pass0 (pav_d (pd_v (pv 25)) pav_nil))) (by decide)))))
      (zs_cons (z_setLcD (k1 := kD K e) (pv := PV.imm) (tx := xC PyData.none) (i := 18) (own := [("i", 25)]) rfl sc_law.nd rfl rfl (sw_true rfl rfl rfl (by decide +kernel)) (pi_r1 (by rfl) m_range (pd_len (by rfl) m_len (pq_d (pd_v (pv 15))))) (blkOk_by (own := [("i", 25)]) (N := N_law) (sc := defScope s_law) (by decide +kernel)) (fun _ _ _ _ _ => (y_name (pg_name (i := 25) sc_law.nd rfl (.inl rfl)))) (fun _ _ _ _ _ => (px_one (pb_w (pw_o (pb_c (pc_eq (pd_v (pv 14)) pd_int) (nomark _)) (pw_o1 (pb_w (pw_a (pb_c (pc_eq (pd_v (pv 14)) pd_int) (nomark _)) (pw_a1 (pb_c (pc_ne (pd_ix (pq_d (pd_ix (pq_d (pd_v (pv 15))) (pd_v (pv 25)) (fun _ _ => rfl))) pd_int (fun _ _ => rfl)) pd_str) (nomark _)))))))))) (fun _ _ _ _ _ => (pd_add (pd_add (pd_v (pv 25)) pd_int) (pd_toInt (by rfl) m_int (pd_c (pc_eq (pd_v (pv 14)) pd_int) (nomark _))))) (by decide))
      (zs_cons (z_set (i := 19) kvD sc_law.nd rfl (.inl rfl) (pd_ix (pq_d (pd_v (pv 4))) (pd_dget_v hr.units (pv 5) (pd_v (pv 6)) (fun _ _ => rfl)) (fun _ _ => rfl)))
      (zs_one (z_if (pb_not (pb_val (pd_call M__law_exact G__law_exact (hr.mono (by omega)) (by rfl) g__law_exact F__law_exact.kp b__law_exact pass0 (pav_d (pd_n (pn_lst (pad_cons (pd_v (pv 19)) (pad_cons (pd_add (pd_add pd_int (pd_len (by rfl) m_len (pq_d (pd_v (pv 15))))) (pd_toInt (by rfl) m_int (pd_c (pc_eq (pd_v (pv 14)) pd_int) (nomark _)))) (pad_cons (pd_v (pv 18)) pad_nil))))) (pav_d (pd_n (pn_lst (pad_cons (pd_call M_first_word G_first_word (hr.mono (by omega)) (by rfl) g_first_word F_first_word.kp b_first_word pass0 (pav_d (pd_v (pv 14)) (pav_d (pd_len (by rfl) m_len (pq_d (pd_v (pv 15)))) (pav_d (pd_v (pv 17)) pav_nil)))) (pad_cons (pd_call M_thing_size G_thing_size (hr.mono (by omega)) (by rfl) g_thing_size F_thing_size.kp b_thing_size pass0 (pav_d (pd_v (pv 19)) pav_nil)) (pad_cons (pd_n (pn_call M_pointer_places G_pointer_places (hr.mono (by omega)) (by rfl) g_pointer_places F_pointer_places.kp b_pointer_places pass0 (pav_d (pd_v (pv 19)) pav_nil))) pad_nil))))) pav_nil)))))
        (zs_one (z_ret kvD pd_bl))
        zs_nil)))))))
    (zs_cons (z_set (i := 20) kvN sc_law.nd rfl (.inl rfl) (pn_list (by rfl) m_list (pq_d (pd_v (pv 4)))))
    (zs_cons (z_set (i := 21) kvD sc_law.nd rfl (.inl rfl) (pd_call M__law_draw G__law_draw (hr.mono (by omega)) (by rfl) g__law_draw F__law_draw.kp b__law_draw pass0 (pav_r (pr_v (pv 1)) (pav_d (pd_v (pv 0)) (pav_d (pd_len (by rfl) m_len (pq_v (pv 20))) pav_nil)))))
    (zs_cons (z_store (pd_ix (pq_n (pn_lst (pad_cons (pd_add (pd_ix (pq_v (pv 20)) (pd_v (pv 21)) (fun _ _ => rfl)) pd_int) (pad_cons (pd_neg pd_int) (pad_cons (pd_add (pd_len (by rfl) m_len (pq_v (pv 20))) pd_int) (pad_cons pd_int pad_nil)))))) (pd_call M__law_draw G__law_draw (hr.mono (by omega)) (by rfl) g__law_draw F__law_draw.kp b__law_draw pass0 (pav_r (pr_v (pv 1)) (pav_d (pd_v (pv 0)) (pav_d pd_int pav_nil)))) (fun _ _ => rfl)) (pv 20) (pd_v (pv 21)))
    (zs_one (z_frz (i := 20) (z_if (pb_not (pb_val (pd_call M__law_exact G__law_exact (hr.mono (by omega)) (by rfl) g__law_exact F__law_exact.kp b__law_exact pass0 (pav_d (pd_call M__law_is_heap G__law_is_heap (hr.mono (by omega)) (by rfl) g__law_is_heap F__law_is_heap.kp b__law_is_heap pass0 (pav_d (pd_v (pv 20)) pav_nil)) (pav_d (pd_call M_is_heap G_is_heap (hr.mono (by omega)) (by rfl) g_is_heap F_is_heap.kp b_is_heap pass0 (pav_d (pd_v (pv 20)) pav_nil)) pav_nil)))))
      (zs_one (z_ret kvD pd_bl))
      zs_nil))))))))))))))))))
  (zs_cons (z_set (i := 22) kvD sc_law.nd rfl (.inl rfl) (pd_add pd_int (pd_call M__law_draw G__law_draw (hr.mono (by omega)) (by rfl) g__law_draw F__law_draw.kp b__law_draw pass0 (pav_r (pr_v (pv 1)) (pav_d (pd_v (pv 0)) (pav_d pd_int pav_nil))))))
  (zs_cons (z_set (i := 23) kvD sc_law.nd rfl (.inl rfl) (pd_n (pn_cat (pq_d (pd_call M__law_flat G__law_flat (hr.mono (by omega)) (by rfl) g__law_flat F__law_flat.kp b__law_flat pass0 (pav_d (pd_n (pn_lc (own := [("j", 6)]) rfl sc_law.nd (pi_r1 (by rfl) m_range (pd_v (pv 22))) (blkOk_by (own := [("j", 6)]) (N := N_law) (sc := defScope s_law) (by decide +kernel)) (fun _ _ _ _ _ => (y_name (pg_name (i := 6) sc_law.nd rfl (.inl rfl)))) (fun _ _ _ _ _ => px_yes) (fun _ _ _ _ _ => (pd_n (pn_lst (pad_cons (pd_add (pd_mul pd_int (pd_pow pd_int pd_int)) pd_int) (pad_cons pd_int (pad_cons (pd_add (pd_mul pd_int (pd_v (pv 6))) pd_int) pad_nil)))))) (by decide))) pav_nil))) (pq_n (pn_lst (pad_cons pd_int pad_nil))))))
  (zs_cons (z_asg (pd_call M_collect G_collect (hr.mono (by omega)) (by rfl) g_collect F_collect.kp b_collect pass0 (pav_d (pd_v (pv 23)) (pav_d (pd_n (pn_lst (pad_cons pd_int (pad_cons pd_int pad_nil)))) pav_nil))) (y_tup (n := 2) (by rfl) (ys_cons (y_name (pg_name (i := 4) sc_law.nd rfl (.inl rfl))) (ys_cons (y_name (pg_name (i := 7) sc_law.nd rfl (.inl rfl))) ys_nil))))
  (zs_one (z_ret kvD (pd_and (pd_c (pc_eqD hr.units (pd_v (pv 4)) (pd_v (pv 23))) (nomark _)) (pd_and (pd_c (pc_eqD hr.units (pd_v (pv 7)) (pd_n (pn_lst (pad_cons pd_int (pad_cons pd_int pad_nil))))) (nomark _)) (pd_and (pd_c (pc_eq (pd_call M_reached_words G_reached_words (hr.mono (by omega)) (by rfl) g_reached_words F_reached_words.kp b_reached_words pass0 (pav_d (pd_v (pv 23)) (pav_d (pd_n (pn_lst (pad_cons (pd_mul pd_int (pd_v (pv 22))) pad_nil))) pav_nil))) pd_int) (nomark _)) (pd_and (pd_call M_is_heap G_is_heap (hr.mono (by omega)) (by rfl) g_is_heap F_is_heap.kp b_is_heap pass0 (pav_d (pd_n (pn_lst pad_nil)) pav_nil)) (pd_one (pd_c (pc_eqD hr.units (pd_call M_collect G_collect (hr.mono (by omega)) (by rfl) g_collect F_collect.kp b_collect pass0 (pav_d (pd_n (pn_lst (pad_cons pd_int (pad_cons pd_int pad_nil)))) (pav_d (pd_n (pn_lst pad_nil)) pav_nil))) (pd_tup (pad_cons (pd_n (pn_lst pad_nil)) (pad_cons (pd_n (pn_lst pad_nil)) pad_nil)))) (nomark _))))))))))))))
end
end K73
set_option Elab.async false
set_option linter.all false
set_option maxRecDepth 100000
set_option maxHeartbeats 8000000
set_option pp.maxSteps 400
namespace K73
open PySem PySem.Spec PyProof.Rows L2 PL
def iota (n : Nat) : List Int := (List.range n).map fun (i : Nat) => (i : Int)
theorem iota_mem {n : Nat} {j : Int} : j ∈ iota n ↔ 0 ≤ j ∧ j < n := by
  unfold iota
  rw [List.mem_map]
  constructor
  · rintro ⟨i, hi, rfl⟩
    have := List.mem_range.mp hi
    omega
  · intro ⟨h0, h1⟩
    exact ⟨j.toNat, List.mem_range.mpr (by omega), by omega⟩
theorem iotaD (n : Nat) : intsD 0 ((n : Int) - 0).toNat = intsP (iota n) := by
  unfold intsD intsP iota
  rw [List.map_map, show ((n : Int) - 0).toNat = n by omega]
  apply List.map_congr_left
  intro i _
  show PyData.int (0 + (i : Int)) = PyData.int (i : Int)
  rw [Int.zero_add]
theorem iotaLaid {ts : List Th} (h : ∀ t ∈ ts, t.Ok ts.length) : Laid (thAt ts) ts.length (iota ts.length) := by
  have ok : ∀ j ∈ iota ts.length, (thAt ts j).Ok ts.length := fun j hj => by
    obtain ⟨h0, h1⟩ := iota_mem.mp hj
    unfold thAt
    have hi : j.toNat < ts.length := by omega
    rw [getD_some (List.getElem?_eq_getElem hi)]
    exact h _ (List.getElem_mem hi)
  refine ⟨?_, ok, fun j hj v hv => ?_, fun j hj => (iota_mem.mp hj).1⟩
  · unfold iota
    rw [List.nodup_iff_pairwise_ne, List.pairwise_map]
    exact List.Pairwise.imp (fun {a b} h z => h (by omega)) (List.nodup_iff_pairwise_ne.mp List.nodup_range)
  · unfold tp at hv
    obtain ⟨q, hq, rfl⟩ := List.mem_map.mp hv
    obtain ⟨h1, h2⟩ := List.mem_filter.mp hq
    exact iota_mem.mpr ((ok j hj).pt q h1 (by simpa using h2))
theorem rts_of (ok : Int → Prop) : ∀ os : List (Option D), (∀ o ∈ os, ∃ x : Option Int, o = some (rtD x) ∧ ∀ j, x = some j → ok j) → ∃ rs : List (Option Int), os.filterMap id = rs.map rtD ∧ (∀ j, some j ∈ rs → ok j) ∧ rs.length = os.length
  | [], _ => ⟨[], rfl, fun j h => (by cases h), rfl⟩
  | o :: os, h => by
    obtain ⟨rs, h1, h2, h3⟩ := rts_of ok os fun x hx => h x (List.mem_cons_of_mem _ hx)
    obtain ⟨x, rfl, hx⟩ := h o (List.mem_cons_self ..)
    refine ⟨x :: rs, ?_, fun j hj => ?_, by simp [h3]⟩
    · rw [List.map_cons, ← h1]
      rfl
    · rcases List.mem_cons.mp hj with z | z
      · exact hx j z.symm
      · exact h2 j z
abbrev stA (ts : List Th) : Int → Int := offs (thAt ts) 0 (iota ts.length)
abbrev wsA (ts : List Th) : List Int := layAll (thAt ts) (stA ts) (iota ts.length)
abbrev rowA (ts : List Th) (rs : List (Option Int)) : List Int := rowJ (thAt ts) (iota ts.length).length (rs.filterMap id)
abbrev stB (ts : List Th) (rs : List (Option Int)) : Int → Int := offs (thAt ts) 0 (rowA ts rs)
abbrev newA (ts : List Th) (rs : List (Option Int)) : List Int := layAll (thAt ts) (stB ts rs) (rowA ts rs)
def askD (st : Int → Int) : D → D
  | .none => .int (-3)
  | .int j => .int (st j)
  | d => d
theorem askD_all (st : Int → Int) (rs : List (Option Int)) : (rs.map rtD).map (askD st) = intsP (rs.map (ask st)) := by
  unfold intsP
  rw [List.map_map, List.map_map]
  apply List.map_congr_left
  intro x _
  cases x <;> rfl
def stDD (st : Int → Int) : D → D
  | .int j => .int (st j)
  | d => d
theorem stDD_all (st : Int → Int) (l : List Int) : (intsP l).map (stDD st) = intsP (l.map st) := by
  unfold intsP
  rw [List.map_map, List.map_map]
  rfl
theorem szD_all (ts : List Th) (l : List Int) : (intsP l).map (szD ts) = intsP (l.map fun x => (thAt ts x).size) := by
  unfold intsP
  rw [List.map_map, List.map_map]
  rfl
theorem size_py (t : Th) : t.size = 1 + (((t.parts.map ptD).length : Nat) : Int) + (if decide (t.sort = 2) = true then 1 else 0) := by
  unfold Th.size Th.ex
  rw [List.length_map]
  by_cases z : t.sort = 2 <;> simp [z]
theorem laid_len {th : Int → Th} {n : Nat} {ord : List Int} (L : Laid th n ord) {st : Int → Int} : ∀ l : List Int, (∀ x ∈ l, x ∈ ord) → (layAll th st l).length ≤ 5 * l.length
  | [], _ => Nat.zero_le _
  | a :: r, h => by
    have h2 := laid_len L (st := st) r fun x hx => h x (List.mem_cons_of_mem _ hx)
    have h3 := layT_len st (th a)
    have h4 := (L.ok a (h a (List.mem_cons_self ..))).len
    have h5 : (th a).ex ≤ 1 := by unfold Th.ex; split <;> omega
    unfold Th.size at h3
    rw [layAll_cons, List.length_cons]
    omega
theorem lcY_to {i : Nat} {d : D} {ρ : Ev} {t : TX D} {A : D → Prop} {B : Prop} (q : t (ρ.set i (some (.imm d))) A) : yName i d ρ (fun ρ' => xC true ρ' fun k => if k = true then t ρ' A else B) := show (if true = true then t (ρ.set i (some (.imm d))) A else B) from iteT q
theorem xOr_FF {s t : TX Bool} {ρ : Ev} {Q : Bool → Prop} (h1 : ∀ Q : Bool → Prop, Q false → s ρ Q) (h2 : ∀ Q : Bool → Prop, Q false → t ρ Q) (q : Q false) : xOr s t ρ Q := h1 _ (show (if false = true then Q true else t ρ Q) from iteF (h2 _ q))
theorem xNot_T {s : TX Bool} {ρ : Ev} {Q : Bool → Prop} (h : ∀ Q : Bool → Prop, Q true → s ρ Q) (q : Q false) : xNot s ρ Q := h _ q
theorem ixL_to {ta : TX D} {ρ : Ev} {d : D} {xs : List D} (i : Nat) {x : D} {Q : D → Prop} (h : ∀ Q : D → Prop, Q d → ta ρ Q) (hd : d = .list xs ∨ d = .tuple xs) (hx : xs[i]? = some x) (q : Q x) : xBin rdIx (xQ ta) (xC (.int ((i : Nat) : Int))) ρ Q := by
  refine h _ ?_
  rcases hd with rfl | rfl
  · exact ixTo (b := false) (atI_nat hx) q
  · exact ixTo (b := true) (atI_nat hx) q
theorem vc1 {α : Type} {f : α → PV} {t : TX α} {r : TX (List PV)} {ρ : Ev} {d : α} {Q : List PV → Prop} (h : ∀ Q : α → Prop, Q d → t ρ Q) (q : r ρ fun ds => Q (f d :: ds)) : vCons f t r ρ Q := h _ q
theorem xcall_to {tf : PF} {dl : Dl} {tl : TX (List PV)} {ρ : Ev} {pvs : List PV} {Q : D → Prop} (h : ∀ Q : List PV → Prop, Q pvs → tl ρ Q) (q : tf dl pvs fun pv => retD pv Q) : xCall tf dl tl ρ Q := h _ q
theorem xB_to {t : TX D} {ρ : Ev} {b : Bool} {Q : Bool → Prop} (h : ∀ Q : D → Prop, Q (.bool b) → t ρ Q) (q : Q b) : xB t ρ Q := h _ q
theorem xQl_to {t : TX D} {ρ : Ev} {l : List D} {Q : Bool × List D → Prop} (h : ∀ Q : D → Prop, Q (.list l) → t ρ Q) (q : Q (false, l)) : xQ t ρ Q := h _ q
theorem list_to {tq : TX (Bool × List D)} {ρ : Ev} {b : Bool} {l : List D} {Q : D → Prop} (h : ∀ Q : Bool × List D → Prop, Q (b, l) → tq ρ Q) (q : Q (.list l)) : xND (xUn rdList tq) ρ Q := h _ q
theorem bits_of_things {t : Th} (lp : (t.parts.map ptD).length = t.parts.length) : intsOf (((intsD 0 (((t.parts.map ptD).length : Nat) : Int).toNat).filter (bitT t)).map pow2D) = some (((List.range t.parts.length).filter fun i => decide (t.sort = 2) && decide ((t.parts.getD i ⟨0, 0⟩).k ≠ 0)).map fun i => (2 : Int) ^ (i + 0)) := by
  rw [lp, Int.toNat_natCast, ← ints_of]
  unfold intsD intsP
  rw [List.filter_map, List.map_map, List.map_map]
  congr 1
  have : (bitT t ∘ fun i : Nat => PyData.int (0 + (i : Int))) = fun i : Nat => decide (t.sort = 2) && decide ((t.parts.getD i ⟨0, 0⟩).k ≠ 0) := by
    funext i
    show (decide (t.sort = 2) && decide ((t.parts.getD (0 + (i : Int)).toNat ⟨0, 0⟩).k ≠ 0)) = _
    rw [show (0 + (i : Int)).toNat = i by omega]
  rw [this]
  apply List.map_congr_left
  intro i _
  show PyData.int (2 ^ (0 + (i : Int)).toNat) = PyData.int (2 ^ (i + 0))
  rw [show (0 + (i : Int)).toNat = i by omega, Nat.add_zero]
theorem bits_of_sum {t : Th} : (((List.range t.parts.length).filter fun i => decide (t.sort = 2) && decide ((t.parts.getD i ⟨0, 0⟩).k ≠ 0)).map fun i => (2 : Int) ^ (i + 0)).sum = t.bits := by
  unfold Th.bits
  by_cases z : t.sort = 2
  · rw [if_pos z, decide_eq_true z]
    have := bits_sum t.parts 0
    rw [Int.pow_zero, Int.one_mul] at this
    rw [← this]
    rfl
  · rw [if_neg z, decide_eq_false z]
    have : (List.range t.parts.length).filter (fun i => false && decide ((t.parts.getD i ⟨0, 0⟩).k ≠ 0)) = [] := by
      rw [List.filter_eq_nil_iff]
      intro a _
      simp
    rw [this]
    rfl
theorem pts_range : ∀ (l : List Pt) (k : Int), ptsFrom l k = ((List.range l.length).filter fun i => decide ((l.getD i ⟨0, 0⟩).k ≠ 0)).map fun i => k + ((i : Nat) : Int)
  | [], _ => rfl
  | p :: r, k => by
    have ih := pts_range r (k + 1)
    rw [List.length_cons, List.range_succ_eq_map, List.filter_cons, List.filter_map, ptsFrom, ih]
    have e1 : ((fun i => decide (((p :: r).getD i ⟨0, 0⟩).k ≠ 0)) ∘ Nat.succ) = fun i => decide ((r.getD i ⟨0, 0⟩).k ≠ 0) := by
      funext i
      simp
    rw [e1]
    have e2 : (List.map Nat.succ ((List.range r.length).filter fun i => decide ((r.getD i ⟨0, 0⟩).k ≠ 0))).map (fun i => k + ((i : Nat) : Int)) = ((List.range r.length).filter fun i => decide ((r.getD i ⟨0, 0⟩).k ≠ 0)).map fun i => k + 1 + ((i : Nat) : Int) := by
      rw [List.map_map]
      apply List.map_congr_left
      intro i _
      show k + ((i + 1 : Nat) : Int) = k + 1 + (i : Int)
      omega
    by_cases z : p.k = 0
    · rw [if_pos z, if_neg (by simp [z]), e2]
      rfl
    · rw [if_neg z, if_pos (by simp [z]), List.map_cons, e2]
      simp
def ptrT (t : Th) : D → Bool
  | .int x => decide (t.sort = 1) || (decide (t.sort = 2) && decide ((t.parts.getD x.toNat ⟨0, 0⟩).k ≠ 0))
  | _ => false
def ptrF (t : Th) : D → D
  | .int x => .int (x + 1 + (if decide (t.sort = 2) = true then 1 else 0))
  | d => d
theorem ptrs_of_things {t : Th} {n : Nat} (ok : t.Ok n) (lp : (t.parts.map ptD).length = t.parts.length) : ((intsD 0 (((t.parts.map ptD).length : Nat) : Int).toNat).filter (ptrT t)).map (ptrF t) = intsP t.pts := by
  rw [lp, Int.toNat_natCast]
  have e0 : ((intsD 0 t.parts.length).filter (ptrT t)).map (ptrF t) = ((List.range t.parts.length).filter fun i => decide (t.sort = 1) || (decide (t.sort = 2) && decide ((t.parts.getD i ⟨0, 0⟩).k ≠ 0))).map fun i => PyData.int (((i : Nat) : Int) + 1 + t.ex) := by
    unfold intsD
    rw [List.filter_map, List.map_map]
    have : (ptrT t ∘ fun i : Nat => PyData.int (0 + (i : Int))) = fun i : Nat => decide (t.sort = 1) || (decide (t.sort = 2) && decide ((t.parts.getD i ⟨0, 0⟩).k ≠ 0)) := by
      funext i
      show (decide (t.sort = 1) || (decide (t.sort = 2) && decide ((t.parts.getD (0 + (i : Int)).toNat ⟨0, 0⟩).k ≠ 0))) = _
      rw [show (0 + (i : Int)).toNat = i by omega]
    rw [this]
    apply List.map_congr_left
    intro i _
    show PyData.int (0 + (i : Int) + 1 + (if decide (t.sort = 2) = true then 1 else 0)) = _
    unfold Th.ex
    by_cases z : t.sort = 2 <;> simp [z]
  rw [e0]
  have key : ((List.range t.parts.length).filter fun i => decide (t.sort = 1) || (decide (t.sort = 2) && decide ((t.parts.getD i ⟨0, 0⟩).k ≠ 0))) = if t.sort = 0 then [] else (List.range t.parts.length).filter fun i => decide ((t.parts.getD i ⟨0, 0⟩).k ≠ 0) := by
    have hs := ok.sort
    by_cases z : t.sort = 0
    · rw [if_pos z, List.filter_eq_nil_iff]
      intro i _
      rw [z]
      simp
    · rw [if_neg z]
      by_cases z1 : t.sort = 1
      · apply List.filter_congr
        intro i hi
        have hi := List.mem_range.mp hi
        have hk := ok.s1 z1 _ (List.getElem_mem hi)
        rw [decide_eq_true z1, Bool.true_or, getD_some (List.getElem?_eq_getElem hi), decide_eq_true hk]
      · have z2 : t.sort = 2 := by omega
        apply List.filter_congr
        intro i _
        rw [decide_eq_false z1, decide_eq_true z2, Bool.false_or, Bool.true_and]
  rw [key]
  unfold Th.pts intsP
  by_cases z : t.sort = 0
  · rw [if_pos z, if_pos z]
    rfl
  · rw [if_neg z, if_neg z, pts_range, List.map_map]
    apply List.map_congr_left
    intro i _
    show PyData.int ((i : Int) + 1 + t.ex) = PyData.int (1 + t.ex + (i : Int))
    congr 1
    omega
theorem frz_to {i : Nat} {t : TSt} {P : Es} {ρ : Ev} {xs : List D} (h0 : ρ[i]? = some (some (.own (.lst xs)))) (h : t P (ρ.set i (some (.imm (.list xs))))) : zFrz i t P ρ := by
  unfold zFrz ownL
  rw [h0]
  exact h
/-- the chain's last thing reaches itself alone -/
theorem ch_last (m : Nat) : ((reachW (chain m) (addrs (chTh m) (chOrd m)) [3 * (m : Int)]).map fun a => thingW (wAt (chain m) a)).sum = 1 := by
  have L := chLaid m
  have hm : ((m : Nat) : Int) ∈ chOrd m := chOrd_mem.mpr ⟨by omega, by omega⟩
  have hr := reach_laid L (rs := [some (m : Int)]) fun j hj => by
    have : j = m := by simpa using hj
    rw [this]
    exact hm
  have ho : offs (chTh m) 0 (chOrd m) m = 3 * (m : Int) := ch_off (by omega) (by omega)
  rw [ch_words] at hr
  rw [show [some (m : Int)].map (ask (offs (chTh m) 0 (chOrd m))) = [3 * (m : Int)] by show [offs (chTh m) 0 (chOrd m) m] = _; rw [ho]] at hr
  have hb : rowJ (chTh m) (chOrd m).length [(m : Int)] = [(m : Int)] := by
    unfold rowJ
    have h1 : [(m : Int)].foldl pushI [] = [(m : Int)] := by
      rw [List.foldl_cons, List.foldl_nil]
      unfold pushI
      rw [if_pos ⟨by omega, by simp⟩]
      rfl
    rw [h1, show (chOrd m).length = m + 1 by simp [chOrd], bfs]
    show bfs _ m ((tp (chTh m) m).foldl pushI _) (0 + 1) = _
    rw [ch_tp, if_neg (by omega)]
    cases m with
    | zero => rfl
    | succ m => rfl
  rw [show [some (m : Int)].filterMap id = [(m : Int)] from rfl, hb] at hr
  rw [hr, List.map_cons, List.map_nil, List.map_cons, List.map_nil, ho]
  have hh := L.head_at hm
  rw [ch_words, ho] at hh
  rw [hh, thing_head (L.ok _ hm)]
  unfold chTh
  rw [if_neg (by omega)]
  rfl

section
variable {dl : Dl} {Pt p : Addr} {ns : List Int} {s2 s3 s4 s5 s6 s7 s8 s9 s10 s11 s12 s13 s14 s15 s16 s17 s18 s19 s20 s21 s22 s23 s24 s25 : Option PV} {Pe : Es} {ts : List Th} {rs : List (Option Int)}
/-- one round's facts -/
structure Rnd (ts : List Th) (rs : List (Option Int)) : Prop where
  t1 : 1 ≤ ts.length
  t9 : ts.length ≤ 9
  tok : ∀ t ∈ ts, t.Ok ts.length
  hrm : ∀ j, some j ∈ rs → j ∈ iota ts.length
  hrl : rs.length ≤ 4
theorem Rnd.L (R : Rnd ts rs) : Laid (thAt ts) ts.length (iota ts.length) := iotaLaid R.tok
theorem hio (n : Nat) : (iota n).length = n := by simp [iota]
theorem hlt1 {n : Nat} : ∀ j ∈ iota n, j < n := fun j hj => (iota_mem.mp hj).2
theorem Rnd.hrj (R : Rnd ts rs) : ∀ j ∈ rs.filterMap id, j ∈ iota ts.length := fun j hj => by
  obtain ⟨x, hx, e⟩ := List.mem_filterMap.mp hj
  cases x with
  | none => cases e
  | some j => cases e; exact R.hrm _ hx
theorem Rnd.S (R : Rnd ts rs) : Laid (thAt ts) ts.length (rowA ts rs) := R.L.sub R.hrj
theorem Rnd.T (R : Rnd ts rs) : Told (iota ts.length) (rowA ts rs) := R.L.row R.hrj
theorem Rnd.root (R : Rnd ts rs) : ∀ j, some j ∈ rs → j ∈ rowA ts rs := fun j hj => R.L.root R.hrj (List.mem_filterMap.mpr ⟨some j, hj, rfl⟩)
theorem Rnd.row9 (R : Rnd ts rs) : (rowA ts rs).length ≤ 9 := by
  have := nodup_len R.T
  exact Nat.le_trans this (by rw [hio]; exact R.t9)
theorem Rnd.hlt2 (R : Rnd ts rs) : ∀ j ∈ rowA ts rs, j < ts.length := fun j hj => hlt1 j (R.T.sub j hj)
theorem Rnd.ws45 (R : Rnd ts rs) : (wsA ts).length ≤ 45 := by
  have := laid_len R.L (st := stA ts) (iota ts.length) fun x hx => hx
  rw [hio] at this
  have h9 := R.t9
  exact Nat.le_trans this (by omega)
theorem Rnd.new45 (R : Rnd ts rs) : (newA ts rs).length ≤ 45 := by
  have := laid_len R.S (st := stB ts rs) (rowA ts rs) fun x hx => hx
  have h9 := R.row9
  exact Nat.le_trans this (by omega)
theorem asks {th : Int → Th} {n : Nat} {ord : List Int} (L : Laid th n ord) {rs : List (Option Int)} (h : ∀ j, some j ∈ rs → j ∈ ord) : ∀ r ∈ rs.map (ask (offs th 0 ord)), 0 ≤ r → r ∈ addrs th ord := fun r hr h0 => by
  obtain ⟨x, hx, rfl⟩ := List.mem_map.mp hr
  cases x with
  | none => exact absurd (show (0 : Int) ≤ -3 from h0) (by decide)
  | some j => exact L.st_mem (h j hx)
theorem addrs_len (th : Int → Th) (ord : List Int) : (addrs th ord).length = ord.length := by simp [addrs]
def dueD (ts : List Th) (rs : List (Option Int)) : D := .list [.list (intsP ((rowA ts rs).map (stA ts))), .int ((rowA ts rs).map fun x => (thAt ts x).size).sum, .tuple [.list (intsP (newA ts rs)), .list (intsP (rs.map (ask (stB ts rs))))], .bool true]
theorem exd_ints (n : Nat) (l : List Int) (h : l.length ≤ 1000000) : Exd (n + 2) (.list (intsP l)) := ⟨fun x hx => by
  obtain ⟨y, _, rfl⟩ := List.mem_map.mp hx
  exact trivial, by rw [intsP_len]; exact h⟩
theorem exd_due (R : Rnd ts rs) : Exd 5 (dueD ts rs) := by
  have h1 := R.row9
  have h2 := R.new45
  have h3 := R.hrl
  refine ⟨fun x hx => ?_, by show 4 ≤ 1000000; decide⟩
  simp only [List.mem_cons, List.not_mem_nil, or_false] at hx
  rcases hx with rfl | rfl | rfl | rfl
  · exact exd_ints 2 _ (by rw [List.length_map]; omega)
  · exact trivial
  · refine ⟨fun x hx => ?_, by show 2 ≤ 1000000; decide⟩
    simp only [List.mem_cons, List.not_mem_nil, or_false] at hx
    rcases hx with rfl | rfl
    · exact exd_ints 1 _ (by omega)
    · exact exd_ints 1 _ (by rw [List.length_map]; omega)
  · exact trivial
theorem reach_size (R : Rnd ts rs) : ((reachW (wsA ts) (addrs (thAt ts) (iota ts.length)) (rs.map (ask (stA ts)))).map fun a => thingW (wAt (wsA ts) a)) = (rowA ts rs).map fun x => (thAt ts x).size := by
  rw [reach_laid R.L R.hrm, List.map_map]
  apply List.map_congr_left
  intro j hj
  have hj := R.T.sub j hj
  show thingW (wAt (wsA ts) (stA ts j)) = _
  rw [R.L.head_at hj, thing_head (R.L.ok j hj)]
/-- the first look -/
theorem ex1_ok (R : Rnd ts rs) (TI : TabIn dl Pt) (q : Pe.nx [some (.imm (.list (ns.map .int))), some (.raw (.ref p)), s2, s3, some (.imm (.list (intsP (wsA ts)))), s5, s6, s7, some (.imm (.list (intsP (rs.map (ask (stA ts)))))), s9, s10, s11, s12, some (.imm (dueD ts rs)), s14, s15, s16, s17, s18, s19, s20, s21, s22, s23, s24, s25]) :
    tEx1 dl Pt Pe [some (.imm (.list (ns.map .int))), some (.raw (.ref p)), s2, s3, some (.imm (.list (intsP (wsA ts)))), s5, s6, s7, some (.imm (.list (intsP (rs.map (ask (stA ts)))))), s9, s10, s11, s12, some (.imm (dueD ts rs)), s14, s15, s16, s17, s18, s19, s20, s21, s22, s23, s24, s25] := by
  have h1 := R.ws45
  have h2 := R.hrl
  have h3 := R.t9
  have hA : (addrs (thAt ts) (iota ts.length)).length ≤ 1000000 := by rw [addrs_len, hio]; omega
  unfold tEx1
  refine zif_N (fun Q q => ?_) q
  refine ⟨rfl, true, wsA ts, rs.map (ask (stA ts)), addrs (thAt ts) (iota ts.length), rfl, R.L.closed, asks R.L R.hrm, hA, ?_⟩
  refine ⟨false, wsA ts, rs.map (ask (stA ts)), addrs (thAt ts) (iota ts.length), rfl, R.L.closed, asks R.L R.hrm, hA, ?_⟩
  refine ⟨rfl, true, wsA ts, rs.map (ask (stA ts)), addrs (thAt ts) (iota ts.length), rfl, R.L.fits (by rw [hio]; omega), asks R.L R.hrm, hA, by rw [List.length_map]; omega, ?_⟩
  refine ⟨wsA ts, rfl, by omega, TI, by show 4 ≤ sizeLine; decide, ?_⟩
  refine ⟨dueD ts rs, ?_, exd_due R, q⟩
  show [PV.imm (dueD ts rs), PV.imm (.list [.list (intsP (reachW (wsA ts) (addrs (thAt ts) (iota ts.length)) (rs.map (ask (stA ts))))), .int ((reachW (wsA ts) (addrs (thAt ts) (iota ts.length)) (rs.map (ask (stA ts)))).map fun a => thingW (wAt (wsA ts) a)).sum, .tuple [.list (intsP (collW (wsA ts) (addrs (thAt ts) (iota ts.length)) (rs.map (ask (stA ts)))).1), .list (intsP (collW (wsA ts) (addrs (thAt ts) (iota ts.length)) (rs.map (ask (stA ts)))).2)], .bool (isHeapF (wsA ts))])] = _
  rw [reach_size R, reach_laid R.L R.hrm, coll_laid R.L R.hrm, R.L.isHeap]
  rfl
/-- the second look: a collection of what was collected -/
theorem ex2_ok (R : Rnd ts rs) (TI : TabIn dl Pt) (q : Pe.nx [some (.imm (.list (ns.map .int))), some (.raw (.ref p)), s2, s3, s4, s5, s6, s7, s8, s9, some (.imm (.list (intsP (newA ts rs)))), s11, s12, some (.imm (dueD ts rs)), s14, s15, s16, s17, s18, s19, s20, s21, s22, s23, s24, s25]) :
    tEx2 dl Pt Pe [some (.imm (.list (ns.map .int))), some (.raw (.ref p)), s2, s3, s4, s5, s6, s7, s8, s9, some (.imm (.list (intsP (newA ts rs)))), s11, s12, some (.imm (dueD ts rs)), s14, s15, s16, s17, s18, s19, s20, s21, s22, s23, s24, s25] := by
  have h1 := R.new45
  have h2 := R.hrl
  have h3 := R.row9
  have hA : (addrs (thAt ts) (rowA ts rs)).length ≤ 1000000 := by rw [addrs_len]; omega
  have hag := R.L.again R.hrj
  unfold tEx2
  refine zif_N (fun Q q => xOr_FF (fun Q q => xNot_T (fun Q q => ?_) q) (fun Q q => xNot_T (fun Q q => ?_) q) q) q
  case refine_2 =>
    refine ⟨newA ts rs, rfl, by omega, TI, ?_⟩
    rw [R.S.isHeap]
    exact q
  have ix21 : ∀ Q : D → Prop, Q (.list (intsP (rs.map (ask (stB ts rs))))) → xBin rdIx (xQ (xBin rdIx (xQ (xV 13)) (xC (.int 2)))) (xC (.int 1)) [some (.imm (.list (ns.map .int))), some (.raw (.ref p)), s2, s3, s4, s5, s6, s7, s8, s9, some (.imm (.list (intsP (newA ts rs)))), s11, s12, some (.imm (dueD ts rs)), s14, s15, s16, s17, s18, s19, s20, s21, s22, s23, s24, s25] Q := fun Q q =>
    ixL_to 1 (fun Q q => ixL_to 2 (d := dueD ts rs) (fun Q q => q) (.inl rfl) rfl q) (.inr rfl) rfl q
  refine xB_to (b := true) (fun Q q => xcall_to (pvs := [.imm (.tuple [.list (intsP (newA ts rs)), .list (intsP (rs.map (ask (stB ts rs))))]), .imm (.tuple [.list (intsP (newA ts rs)), .list (intsP (rs.map (ask (stB ts rs))))])]) (fun Q q => vc1 (d := .tuple [.list (intsP (newA ts rs)), .list (intsP (rs.map (ask (stB ts rs))))]) (fun Q q => ?_) (vc1 (d := .tuple [.list (intsP (newA ts rs)), .list (intsP (rs.map (ask (stB ts rs))))]) (fun Q q => ?_) (xC_to q))) ⟨_, rfl, ?_, q⟩) q
  · exact tup2_to (fun Q q => q) (ix21 _ ⟨by show 2 ≤ sizeLine; decide, q⟩)
  · refine xcall_to (pvs := [.imm (.list (intsP (newA ts rs))), .imm (.list (intsP (rs.map (ask (stB ts rs)))))]) (fun Q q => vc1 (d := .list (intsP (newA ts rs))) (fun Q q => list_to (b := false) (l := intsP (newA ts rs)) (fun Q q => q) q) (vc1 (d := .list (intsP (rs.map (ask (stB ts rs))))) (fun Q q => list_to (fun Q q => xQl_to ix21 q) q) (xC_to q))) ?_
    refine ⟨false, newA ts rs, rs.map (ask (stB ts rs)), addrs (thAt ts) (rowA ts rs), rfl, R.S.fits (by omega), asks R.S R.root, hA, by rw [List.length_map]; omega, ?_⟩
    rw [coll_laid R.S R.root, hag]
    exact q
  · refine ⟨fun x hx => ?_, by show 2 ≤ 1000000; decide⟩
    simp only [List.mem_cons, List.not_mem_nil, or_false] at hx
    rcases hx with rfl | rfl
    · exact exd_ints 2 _ (by omega)
    · exact exd_ints 2 _ (by rw [List.length_map]; omega)
theorem qBits_ok {t : Th} {n : Nat} (ok : t.Ok n) (q : Pe.nx [some (.imm (.list (ns.map .int))), some (.raw (.ref p)), s2, s3, s4, s5, s6, s7, s8, s9, s10, s11, s12, s13, some (.imm (.int t.sort)), some (.imm (.list (t.parts.map ptD))), s16, some (.imm (.int t.bits)), s18, s19, s20, s21, s22, s23, s24, s25]) : qBits dl Pt Pe [some (.imm (.list (ns.map .int))), some (.raw (.ref p)), s2, s3, s4, s5, s6, s7, s8, s9, s10, s11, s12, s13, some (.imm (.int t.sort)), some (.imm (.list (t.parts.map ptD))), s16, s17, s18, s19, s20, s21, s22, s23, s24, s25] := by
  have hlen := ok.len
  have lp : ((t.parts.map ptD).length : Nat) = t.parts.length := List.length_map _
  unfold qBits
  refine zset_to (d := .int t.bits) (fun Q q => ?_) q
  refine ⟨⟨by rw [lp]; omega, by rw [lp]; omega⟩, ?_⟩
  refine compT_filter (bitT t) pow2D _ _ (fun i' d A B hd hA hB => ?_) (line3 (by rw [intsD_len, lp]; omega)) ⟨rfl, ?_⟩
  · obtain ⟨hi', rfl⟩ := intsD_get hd
    rw [lp, Int.toNat_natCast] at hi'
    have hget : (t.parts.map ptD)[i']? = some (ptD t.parts[i']) := by rw [List.getElem?_map, List.getElem?_eq_getElem hi'] <;> rfl
    have hgd : t.parts.getD (0 + (i' : Int)).toNat ⟨0, 0⟩ = t.parts[i'] := by
      rw [show (0 + (i' : Int)).toNat = i' by omega]
      exact getD_some (List.getElem?_eq_getElem hi')
    have hA : (decide (t.sort = 2) && decide ((t.parts.getD (0 + (i' : Int)).toNat ⟨0, 0⟩).k ≠ 0)) = true → A (.int (2 ^ (0 + (i' : Int)).toNat)) := hA
    have hB : (decide (t.sort = 2) && decide ((t.parts.getD (0 + (i' : Int)).toNat ⟨0, 0⟩).k ≠ 0)) = false → B := hB
    rw [hgd] at hA hB
    generalize t.parts[i'] = p' at *
    refine ifD (fun z => ?_) fun z => iteF (hB (by rw [decide_eq_false z]; rfl))
    refine ixTo (by rw [Int.zero_add]; exact atI_nat hget) ?_
    refine seqIx_to 0 rfl rfl ?_
    show if (!decide (kS p'.k = ("n" : Str))) = true then _ else _
    rw [kS_n]
    refine ifN (fun y => ?_) fun y => hB (by rw [decide_eq_false (show ¬ (p'.k ≠ 0) from fun h => h y), Bool.and_false])
    refine ⟨i', by rw [Int.zero_add], by omega, ?_⟩
    have := hA (by rw [decide_eq_true z, decide_eq_true y]; rfl)
    rw [show (0 + (i' : Int)).toNat = i' by omega] at this
    exact this
  · refine someTo (bits_of_things lp) ?_
    rw [bits_of_sum]
    exact q
theorem qPtrs_ok {t : Th} {n : Nat} (ok : t.Ok n) (q : Pe.nx [some (.imm (.list (ns.map .int))), some (.raw (.ref p)), s2, s3, s4, s5, s6, s7, s8, s9, s10, s11, s12, s13, some (.imm (.int t.sort)), some (.imm (.list (t.parts.map ptD))), s16, s17, some (.imm (.list (intsP t.pts))), s19, s20, s21, s22, s23, s24, s25]) : qPtrs dl Pt Pe [some (.imm (.list (ns.map .int))), some (.raw (.ref p)), s2, s3, s4, s5, s6, s7, s8, s9, s10, s11, s12, s13, some (.imm (.int t.sort)), some (.imm (.list (t.parts.map ptD))), s16, s17, s18, s19, s20, s21, s22, s23, s24, s25] := by
  have hlen := ok.len
  have lp : ((t.parts.map ptD).length : Nat) = t.parts.length := List.length_map _
  unfold qPtrs
  refine zset_to (d := .list (intsP t.pts)) (fun Q q => ?_) q
  refine ⟨⟨by rw [lp]; omega, by rw [lp]; omega⟩, ?_⟩
  refine compT_filter (ptrT t) (ptrF t) _ _ (fun i' d A B hd hA hB => ?_) (line3 (by rw [intsD_len, lp]; omega)) ?_
  · obtain ⟨hi', rfl⟩ := intsD_get hd
    rw [lp, Int.toNat_natCast] at hi'
    have hget : (t.parts.map ptD)[i']? = some (ptD t.parts[i']) := by rw [List.getElem?_map, List.getElem?_eq_getElem hi'] <;> rfl
    have hgd : t.parts.getD (0 + (i' : Int)).toNat ⟨0, 0⟩ = t.parts[i'] := by
      rw [show (0 + (i' : Int)).toNat = i' by omega]
      exact getD_some (List.getElem?_eq_getElem hi')
    have hA : (decide (t.sort = 1) || (decide (t.sort = 2) && decide ((t.parts.getD (0 + (i' : Int)).toNat ⟨0, 0⟩).k ≠ 0))) = true → A (.int (0 + (i' : Int) + 1 + (if decide (t.sort = 2) = true then 1 else 0))) := hA
    have hB : (decide (t.sort = 1) || (decide (t.sort = 2) && decide ((t.parts.getD (0 + (i' : Int)).toNat ⟨0, 0⟩).k ≠ 0))) = false → B := hB
    rw [hgd] at hA hB
    generalize t.parts[i'] = p' at *
    refine ifD (fun z => iteT (hA (by rw [decide_eq_true z]; rfl))) fun z => ifD (fun z2 => ?_) fun z2 => iteF (hB (by rw [decide_eq_false z, decide_eq_false z2]; rfl))
    refine ixTo (by rw [Int.zero_add]; exact atI_nat hget) ?_
    refine seqIx_to 0 rfl rfl ?_
    show if (!decide (kS p'.k = ("n" : Str))) = true then _ else _
    rw [kS_n]
    refine ifN (fun y => ?_) fun y => hB (by rw [decide_eq_false z, decide_eq_false (show ¬ (p'.k ≠ 0) from fun h => h y), Bool.and_false]; rfl)
    exact hA (by rw [decide_eq_true z2, decide_eq_true y]; simp)
  · rw [ptrs_of_things ok lp]
    exact q
theorem qEx3_ok {t : Th} {n : Nat} (ok : t.Ok n) (q : Pe.nx [some (.imm (.list (ns.map .int))), some (.raw (.ref p)), s2, s3, s4, s5, s6, s7, s8, s9, s10, s11, s12, s13, some (.imm (.int t.sort)), some (.imm (.list (t.parts.map ptD))), s16, some (.imm (.int t.bits)), some (.imm (.list (intsP t.pts))), some (.imm (.int t.head)), s20, s21, s22, s23, s24, s25]) : qEx3 dl Pt Pe [some (.imm (.list (ns.map .int))), some (.raw (.ref p)), s2, s3, s4, s5, s6, s7, s8, s9, s10, s11, s12, s13, some (.imm (.int t.sort)), some (.imm (.list (t.parts.map ptD))), s16, some (.imm (.int t.bits)), some (.imm (.list (intsP t.pts))), some (.imm (.int t.head)), s20, s21, s22, s23, s24, s25] := by
  unfold qEx3
  refine zif_N (fun Q q => ?_) q
  refine ⟨by show 3 ≤ sizeLine; decide, t.sort, ((t.parts.map ptD).length : Nat), t.bits, rfl, t.head, rfl, t.head, rfl, by show 3 ≤ sizeLine; decide, ?_⟩
  refine ⟨.list [.int t.head, .int t.size, .list (intsP t.pts)], ?_, ?_, q⟩
  · show [PV.imm (.list [.int t.head, .int (1 + ((t.parts.map ptD).length : Nat) + (if decide (t.sort = 2) = true then 1 else 0)), .list (intsP t.pts)]), PV.imm (.list [.int (t.sort + 4 * ((t.parts.map ptD).length : Nat) + 4000000 * t.bits), .int (thingW t.head), .list (intsP (ptrs t.head))])] = _
    rw [← size_py, thing_head ok, ptrs_head ok, List.length_map]
    rfl
  · refine ⟨fun x hx => ?_, by show 3 ≤ 1000000; decide⟩
    simp only [List.mem_cons, List.not_mem_nil, or_false] at hx
    rcases hx with rfl | rfl | rfl
    · exact trivial
    · exact trivial
    · refine exd_ints 2 _ ?_
      have h1 := congrArg List.length (ptrs_head ok)
      have h2 := ptrs_len t.head
      have h3 := thing_head ok
      have h4 := ok.len
      have h5 : t.ex ≤ 1 := by unfold Th.ex; split <;> omega
      unfold Th.size at h3
      omega
theorem ptrLoop_ok (R : Rnd ts rs) (q : ∀ s6 s14 s15 s16 s17 s18 s19 : Option PV, Pe.nx [some (.imm (.list (ns.map .int))), some (.raw (.ref p)), s2, some (.imm (.list (thsD ts))), some (.imm (.list (intsP (wsA ts)))), some (.own (.dic (stD (thAt ts) (iota ts.length) (iota ts.length)))), s6, s7, s8, s9, s10, s11, s12, s13, s14, s15, s16, s17, s18, s19, s20, s21, s22, s23, s24, s25]) :
    tPtrLoop dl Pt Pe [some (.imm (.list (ns.map .int))), some (.raw (.ref p)), s2, some (.imm (.list (thsD ts))), some (.imm (.list (intsP (wsA ts)))), some (.own (.dic (stD (thAt ts) (iota ts.length) (iota ts.length)))), s6, s7, s8, s9, s10, s11, s12, s13, s14, s15, s16, s17, s18, s19, s20, s21, s22, s23, s24, s25] := by
  have t9 := R.t9
  refine ⟨⟨by show -(2 ^ 62) ≤ (((thsD ts).length : Nat) : Int); omega, by show (((thsD ts).length : Nat) : Int) < 2 ^ 62; rw [thsD_len]; omega⟩, ?_⟩
  refine forT_by (fun _ ρ => ∃ s6 s14 s15 s16 s17 s18 s19, ρ = [some (.imm (.list (ns.map .int))), some (.raw (.ref p)), s2, some (.imm (.list (thsD ts))), some (.imm (.list (intsP (wsA ts)))), some (.own (.dic (stD (thAt ts) (iota ts.length) (iota ts.length)))), s6, s7, s8, s9, s10, s11, s12, s13, s14, s15, s16, s17, s18, s19, s20, s21, s22, s23, s24, s25]) _ _ ⟨s6, s14, s15, s16, s17, s18, s19, rfl⟩ (fun i d ρ R' hd h hR => ?_) fun ρ h => ?_
  · obtain ⟨s6, s14, s15, s16, s17, s18, s19, rfl⟩ := h
    obtain ⟨hi, rfl⟩ := intsD_get hd
    have hi : i < (((thsD ts).length : Nat) : Int).toNat := hi
    rw [thsD_len, Int.toNat_natCast] at hi
    have hJ : (0 + (i : Int)) ∈ iota ts.length := iota_mem.mpr ⟨by omega, by omega⟩
    have ok := R.L.ok _ hJ
    have hhead := R.L.head_at hJ
    have hbound := R.L.bound hJ
    have hsz := size_pos (thAt ts (0 + (i : Int)))
    refine ixTo (at_th (by omega) (by omega)) ⟨rfl, ?_⟩
    dsimp only [yCons, yName, yNil]
    refine seq_to (qBits_ok (Pt := Pt) ok ?_)
    dsimp only
    refine seq_to (qPtrs_ok (Pt := Pt) ok ?_)
    dsimp only
    refine seq_to (zset_to (d := .int (thAt ts (0 + (i : Int))).head) (fun Q q => ?_) ?_)
    · refine someTo (stD_val _ _ (0 + (i : Int)) _ hJ) ?_
      rw [← hhead] at q
      exact ixTo (atI_ints hbound.1 (Int.lt_of_lt_of_le (Int.lt_add_of_pos_right _ (by omega)) hbound.2)) q
    refine qEx3_ok (Pt := Pt) ok ?_
    exact hR _ ⟨_, _, _, _, _, _, _, rfl⟩
  · obtain ⟨s6, s14, s15, s16, s17, s18, s19, rfl⟩ := h
    exact q _ _ _ _ _ _ _
theorem Rnd.wspos (R : Rnd ts rs) : 0 < (wsA ts).length := by
  have h0 : (0 : Int) ∈ iota ts.length := iota_mem.mpr ⟨by decide, by have := R.t1; omega⟩
  have h1 := (R.L.bound h0).1
  have h2 : stA ts 0 + (thAt ts 0).size ≤ ((wsA ts).length : Nat) := (R.L.bound h0).2
  have h3 := size_pos (thAt ts 0)
  have h1 : 0 ≤ stA ts 0 := h1
  omega
theorem bent_ok (R : Rnd ts rs) (ST : StIn dl p) (TI : TabIn dl Pt) (q : ∀ s20 s21 : Option PV, Pe.nx [some (.imm (.list (ns.map .int))), some (.raw (.ref p)), s2, s3, some (.imm (.list (intsP (wsA ts)))), s5, s6, s7, s8, s9, s10, s11, s12, s13, s14, s15, s16, s17, s18, s19, s20, s21, s22, s23, s24, s25]) :
    zSeq (tBent dl Pt) (zSeq (tAt dl Pt) (zSeq (tPut dl Pt) (tEx4 dl Pt))) Pe [some (.imm (.list (ns.map .int))), some (.raw (.ref p)), s2, s3, some (.imm (.list (intsP (wsA ts)))), s5, s6, s7, s8, s9, s10, s11, s12, s13, s14, s15, s16, s17, s18, s19, s20, s21, s22, s23, s24, s25] := by
  have h45 := R.ws45
  have hpos := R.wspos
  generalize wsA ts = ws at *
  refine ⟨p, ns, ws.length, by show _ = [_, _, _]; rw [intsP_len], ST, by omega, by omega, fun a a0 a1 => ?_⟩
  have cont : ∀ y : Int, tEx4 dl Pt Pe [some (.imm (.list (ns.map .int))), some (.raw (.ref p)), s2, s3, some (.imm (.list (intsP ws))), s5, s6, s7, s8, s9, s10, s11, s12, s13, s14, s15, s16, s17, s18, s19, some (.own (.lst (intsP (ws.set a.toNat y)))), some (.imm (.int a)), s22, s23, s24, s25] := fun y => by
    unfold tEx4
    refine frz_to rfl ?_
    refine zif_N (fun Q q => ?_) (q _ _)
    refine ⟨ws.set a.toNat y, rfl, by rw [List.length_set]; omega, ws.set a.toNat y, rfl, by rw [List.length_set]; omega, TI, ?_⟩
    exact ⟨.bool (isHeapF (ws.set a.toNat y)), rfl, trivial, q⟩
  have at_ : atI (intsP ws) a = some (.int (wAt ws a)) := atI_ints a0 a1
  have put : ∀ y : Int, someOf (ixN (intsP ws).length a) fun j => tEx4 dl Pt Pe [some (.imm (.list (ns.map .int))), some (.raw (.ref p)), s2, s3, some (.imm (.list (intsP ws))), s5, s6, s7, s8, s9, s10, s11, s12, s13, s14, s15, s16, s17, s18, s19, some (.own (.lst ((intsP ws).set j (.int y)))), some (.imm (.int a)), s22, s23, s24, s25] := fun y => by
    have hix : ixN (intsP ws).length a = some a.toNat := by
      unfold ixN
      rw [intsP_len, if_pos a0, if_pos a1]
    refine someTo hix ?_
    have := cont y
    unfold intsP at this ⊢
    rw [List.map_set] at this
    exact this
  refine ixTo at_ ⟨by show 4 ≤ sizeLine; decide, p, ns, 4, rfl, ST, by decide, by decide, fun r r0 r1 => ?_⟩
  dsimp only [retD]
  have hr : r = 0 ∨ r = 1 ∨ r = 2 ∨ r = 3 := by omega
  rcases hr with rfl | rfl | rfl | rfl
  · refine ixTo (b := false) (xs := [.int (wAt ws a + 1), .int (-1), .int ((((intsP ws).length : Nat) : Int) + 4), .int 3]) (i := 0) (atI_nat (j := 0) rfl) ?_
    exact put _
  · refine ixTo (b := false) (xs := [.int (wAt ws a + 1), .int (-1), .int ((((intsP ws).length : Nat) : Int) + 4), .int 3]) (i := 1) (atI_nat (j := 1) rfl) ?_
    exact put _
  · refine ixTo (b := false) (xs := [.int (wAt ws a + 1), .int (-1), .int ((((intsP ws).length : Nat) : Int) + 4), .int 3]) (i := 2) (atI_nat (j := 2) rfl) ?_
    exact put _
  · refine ixTo (b := false) (xs := [.int (wAt ws a + 1), .int (-1), .int ((((intsP ws).length : Nat) : Int) + 4), .int 3]) (i := 3) (atI_nat (j := 3) rfl) ?_
    exact put _
/-! ### the chain -/
theorem chD (m : Nat) : (intsD 0 m).map (fun d => match d with | .int x => PyData.list (intsP [4000006, 0, 3 * x + 3]) | d => d) = (((List.range m).map fun (j : Nat) => [4000006, 0, 3 * (j : Int) + 3]).map fun l => PyData.list (intsP l)) := by
  unfold intsD
  rw [List.map_map, List.map_map]
  apply List.map_congr_left
  intro i _
  show PyData.list (intsP [4000006, 0, 3 * (0 + (i : Int)) + 3]) = _
  rw [Int.zero_add]
  rfl
theorem ch_len (m : Nat) : (((List.range m).map fun (j : Nat) => [4000006, 0, 3 * (j : Int) + 3]).flatten).length = 3 * m := by
  induction m with
  | zero => rfl
  | succ m ih =>
    rw [List.range_succ, List.map_append, List.flatten_append, List.length_append, ih]
    simp
    omega
theorem uChain_ok {m : Nat} (hm : m ≤ 3000) (q : Pe.nx [some (.imm (.list (ns.map .int))), some (.raw (.ref p)), s2, s3, s4, s5, s6, s7, s8, s9, s10, s11, s12, s13, s14, s15, s16, s17, s18, s19, s20, s21, some (.imm (.int m)), some (.imm (.list (intsP (chain m)))), s24, s25]) : uChain dl Pt Pe [some (.imm (.list (ns.map .int))), some (.raw (.ref p)), s2, s3, s4, s5, s6, s7, s8, s9, s10, s11, s12, s13, s14, s15, s16, s17, s18, s19, s20, s21, some (.imm (.int m)), s23, s24, s25] := by
  have hl := ch_len m
  unfold uChain
  refine zset_to (d := .list (intsP (chain m))) (fun Q q => ?_) q
  refine ⟨⟨by omega, by omega⟩, ?_⟩
  refine compT_map (fun d => match d with | .int x => PyData.list (intsP [4000006, 0, 3 * x + 3]) | d => d) _ _ (fun i d A B hd hA => ?_) (line3 (by rw [intsD_len]; omega)) ?_
  · obtain ⟨hi, rfl⟩ := intsD_get hd
    refine lcY_to ⟨cm6, .inl (by decide), .inl (by decide), by show 3 ≤ sizeLine; decide, ?_⟩
    exact hA
  · rw [Int.toNat_natCast, chD]
    refine ⟨_, rfl, by omega, by show 1 ≤ sizeLine; decide, rfl, rfl, ?_, ?_⟩
    · show (intsP _).length + 1 ≤ sizeLine
      rw [intsP_len, hl, sizeLine_eq]
      omega
    · show Q (.list (intsP _ ++ intsP [0]))
      rw [← intsP_app]
      exact q
theorem ch_coll (m : Nat) : collW (chain m) (addrs (chTh m) (chOrd m)) [0, 0] = (chain m, [0, 0]) := by
  have h0 : offs (chTh m) 0 (chOrd m) 0 = 0 := ch_off (by decide) (by omega)
  have := coll_laid (chLaid m) (rs := [some 0, some 0]) fun j hj => by
    have : j = 0 := by simpa using hj
    rw [this]
    exact chOrd_mem.mpr ⟨by decide, by omega⟩
  rw [show ([some 0, some 0] : List (Option Int)).filterMap id = [0, 0] from rfl, ch_row, ch_words] at this
  rw [show [some 0, some 0].map (ask (offs (chTh m) 0 (chOrd m))) = [0, 0] by show [offs (chTh m) 0 (chOrd m) 0, offs (chTh m) 0 (chOrd m) 0] = _; rw [h0]] at this
  exact this
theorem chO_len (m : Nat) : (chOrd m).length = m + 1 := by simp [chOrd]
theorem ch_fits {m : Nat} (hm : m ≤ 3000) : Fits (chain m) (addrs (chTh m) (chOrd m)) := by
  have := (chLaid m).fits (by rw [chO_len]; omega)
  rw [ch_words] at this
  exact this
theorem chain_len (m : Nat) : (chain m).length = 3 * m + 1 := by
  unfold chain
  rw [List.length_append, ch_len]
  rfl
theorem ch_root {m : Nat} {r : Int} {j : Int} (h0 : 0 ≤ j) (h1 : j ≤ m) (e : r = 3 * j) : r ∈ addrs (chTh m) (chOrd m) := by
  have := (chLaid m).st_mem (chOrd_mem.mpr ⟨h0, h1⟩)
  rw [ch_off h0 h1, ← e] at this
  exact this
theorem uColl_ok {m : Nat} (hm : m ≤ 3000) (q : Pe.nx [some (.imm (.list (ns.map .int))), some (.raw (.ref p)), s2, s3, some (.imm (.list (intsP (chain m)))), s5, s6, some (.imm (.list (intsP [0, 0]))), s8, s9, s10, s11, s12, s13, s14, s15, s16, s17, s18, s19, s20, s21, some (.imm (.int m)), some (.imm (.list (intsP (chain m)))), s24, s25]) : uColl dl Pt Pe [some (.imm (.list (ns.map .int))), some (.raw (.ref p)), s2, s3, s4, s5, s6, s7, s8, s9, s10, s11, s12, s13, s14, s15, s16, s17, s18, s19, s20, s21, some (.imm (.int m)), some (.imm (.list (intsP (chain m)))), s24, s25] := by
  refine ⟨by show 2 ≤ sizeLine; decide, false, chain m, [0, 0], addrs (chTh m) (chOrd m), rfl, ch_fits hm, fun r hr _ => ?_, by rw [addrs_len, chO_len]; omega, by decide, ?_⟩
  · have : r = 0 := by simpa using hr
    exact ch_root (j := 0) (by decide) (by omega) (by omega)
  · rw [ch_coll]
    exact ⟨rfl, q⟩
theorem uRet_ok {m : Nat} (hm : m ≤ 3000) (TI : TabIn dl Pt) (q : Pe.rt (.imm (.bool true))) : uRet dl Pt Pe [some (.imm (.list (ns.map .int))), some (.raw (.ref p)), s2, s3, some (.imm (.list (intsP (chain m)))), s5, s6, some (.imm (.list (intsP [0, 0]))), s8, s9, s10, s11, s12, s13, s14, s15, s16, s17, s18, s19, s20, s21, some (.imm (.int m)), some (.imm (.list (intsP (chain m)))), s24, s25] := by
  have eqT : ∀ l : List Int, PyData.eqv (.list (intsP l)) (.list (intsP l)) = true := fun l => by
    show PyData.eqvAll _ _ = _
    unfold intsP
    rw [eqvAll_ints]
    simp
  have cl1 : Closed (chain m) (addrs (chTh m) (chOrd m)) := (ch_fits hm).toClosed
  have lA : (addrs (chTh m) (chOrd m)).length ≤ 1000000 := by rw [addrs_len, chO_len]; omega
  unfold uRet
  refine zret_to (d := .bool true) (fun Q q => ?_) q
  refine andV_T (fun Q q => ⟨shaped_ints _, shaped_ints _, ?_⟩) ?_
  · show Q (.bool (PyData.eqv (.list (intsP (chain m))) (.list (intsP (chain m)))))
    rw [eqT]
    exact q
  refine andV_T (fun Q q => ⟨by show 2 ≤ sizeLine; decide, shaped_ints [0, 0], shaped_ints [0, 0], ?_⟩) ?_
  · show Q (.bool (PyData.eqv (.list (intsP [0, 0])) (.list (intsP [0, 0]))))
    rw [eqT]
    exact q
  refine andV_T (fun Q q => ?_) ?_
  · refine ⟨.inl (by decide), by show 1 ≤ sizeLine; decide, false, chain m, [3 * (m : Int)], addrs (chTh m) (chOrd m), rfl, cl1, fun r hr _ => ?_, lA, ?_⟩
    · exact ch_root (j := m) (by omega) (by omega) (by simpa using hr)
    · have e : ((reachW (chain m) (addrs (chTh m) (chOrd m)) [3 * (m : Int)]).map fun a => thingW (wAt (chain m) a)).sum = 1 := ch_last m
      show Q (.bool (decide (((reachW (chain m) (addrs (chTh m) (chOrd m)) [3 * (m : Int)]).map fun a => thingW (wAt (chain m) a)).sum = 1)))
      rw [e]
      exact q
  refine andV_T (fun Q q => ⟨Nat.zero_le _, [], rfl, Nat.zero_le _, TI, q⟩) ?_
  refine ⟨by show 2 ≤ sizeLine; decide, Nat.zero_le _, false, [4, 9], [], [], rfl, ⟨⟨fun a h => absurd h (by simp), fun a h => absurd h (by simp)⟩, fun a h => absurd h (by simp), fun l hl => ?_⟩, fun r h => absurd h (by simp), by decide, by decide, ?_⟩
  · have := nodup_len hl
    have : l = [] := List.length_eq_zero_iff.mp (Nat.le_zero.mp this)
    rw [this]
    exact Nat.zero_le _
  · exact ⟨Nat.zero_le _, Nat.zero_le _, by show 2 ≤ sizeLine; decide, by decide, by decide, q⟩
end
end K73
set_option Elab.async false
set_option linter.all false
set_option maxRecDepth 100000
set_option maxHeartbeats 8000000
set_option pp.maxSteps 400
namespace K73
open PySem PySem.Spec PyProof.Rows L2 PL
section
variable {dl : Dl} {Pt p : Addr} {ns : List Int} {s2 s3 s4 s5 s6 s7 s8 s9 s10 s11 s12 s13 s14 s15 s16 s17 s18 s19 s20 s21 s22 s23 s24 s25 : Option PV} {Pe : Es} {ts : List Th} {rs : List (Option Int)}
abbrev wA (ts : List Th) : PV := .imm (.list (intsP (wsA ts)))
abbrev sA (ts : List Th) : PV := .own (.dic (stD (thAt ts) (iota ts.length) (iota ts.length)))
abbrev sB (ts : List Th) (rs : List (Option Int)) : PV := .own (.dic (stD (thAt ts) (rowA ts rs) (rowA ts rs)))
abbrev tD (ts : List Th) : PV := .imm (.list (thsD ts))
abbrev rD (rs : List (Option Int)) : PV := .imm (.list (rs.map rtD))
abbrev oD (ts : List Th) (rs : List (Option Int)) : PV := .imm (.list (intsP (rowA ts rs)))
abbrev nA (ts : List Th) (rs : List (Option Int)) : PV := .imm (.list (intsP (newA ts rs)))
abbrev aA (ts : List Th) (rs : List (Option Int)) : PV := .imm (.list (intsP (rs.map (ask (stA ts)))))
abbrev zA (ts : List Th) (rs : List (Option Int)) : PV := .imm (.int ((rowA ts rs).map fun x => (thAt ts x).size).sum)
theorem tThings_ok (ST : StIn dl p) (q : ∀ ts : List Th, 1 ≤ ts.length → ts.length ≤ 9 → (∀ t ∈ ts, t.Ok ts.length) → Pe.nx [some (.imm (.list (ns.map .int))), some (.raw (.ref p)), s2, some (tD ts), s4, s5, s6, s7, s8, s9, s10, s11, s12, s13, s14, s15, s16, s17, s18, s19, s20, s21, s22, s23, s24, s25]) : tThings dl Pt Pe [some (.imm (.list (ns.map .int))), some (.raw (.ref p)), s2, s3, s4, s5, s6, s7, s8, s9, s10, s11, s12, s13, s14, s15, s16, s17, s18, s19, s20, s21, s22, s23, s24, s25] := by
  refine ⟨p, ns, rfl, ST, fun ts t1 t9 tok => ?_⟩
  exact q ts t1 t9 tok
theorem tLaid1_ok (t9 : ts.length ≤ 9) (tok : ∀ t ∈ ts, t.Ok ts.length) (q : Pe.nx [some (.imm (.list (ns.map .int))), some (.raw (.ref p)), s2, some (tD ts), some (wA ts), some (sA ts), s6, s7, s8, s9, s10, s11, s12, s13, s14, s15, s16, s17, s18, s19, s20, s21, s22, s23, s24, s25]) : tLaid1 dl Pt Pe [some (.imm (.list (ns.map .int))), some (.raw (.ref p)), s2, some (tD ts), s4, s5, s6, s7, s8, s9, s10, s11, s12, s13, s14, s15, s16, s17, s18, s19, s20, s21, s22, s23, s24, s25] := by
  refine ⟨RgOk.of_le (by decide) (by show (((thsD ts).length : Nat) : Int) ≤ 16777216; rw [thsD_len]; omega) (by decide) (by show (0 : Int) ≤ (((thsD ts).length : Nat) : Int); omega), ts, iota ts.length, ts.length, by rw [← iotaD, thsD_len], iotaLaid tok, hlt1, by rw [hio]; omega, ?_⟩
  exact q
theorem tRoots_ok (ST : StIn dl p) (t1 : 1 ≤ ts.length) (t9 : ts.length ≤ 9) (q : ∀ rs : List (Option Int), (∀ j, some j ∈ rs → j ∈ iota ts.length) → rs.length ≤ 4 → Pe.nx [some (.imm (.list (ns.map .int))), some (.raw (.ref p)), s2, some (tD ts), some (wA ts), some (sA ts), s6, some (rD rs), s8, s9, s10, s11, s12, s13, s14, s15, s16, s17, s18, s19, s20, s21, s22, s23, s24, s25]) : tRoots dl Pt Pe [some (.imm (.list (ns.map .int))), some (.raw (.ref p)), s2, some (tD ts), some (wA ts), some (sA ts), s6, s7, s8, s9, s10, s11, s12, s13, s14, s15, s16, s17, s18, s19, s20, s21, s22, s23, s24, s25] := by
  refine ⟨p, ns, 5, rfl, ST, by decide, by decide, fun m m0 m1 => ⟨⟨by omega, by omega⟩, ?_⟩⟩
  refine compT_rel (fun _ _ o => ∃ x : Option Int, o = some (rtD x) ∧ ∀ j, x = some j → j ∈ iota ts.length) _ _ (fun i d A B hd hA hB => ?_) (line3 (by rw [intsD_len]; omega)) (fun os ho hr => ?_)
  · refine lcY_to ⟨p, ns, 5, rfl, ST, by decide, by decide, fun c c0 c1 => ?_⟩
    refine ifD (fun _ => hA _ ⟨none, rfl, fun j h => by cases h⟩) fun _ => ?_
    refine ⟨p, ns, ts.length, by show _ = [_, _, _]; rw [thsD_len], ST, by omega, by omega, fun j j0 j1 => hA _ ⟨some j, rfl, fun j' h => by cases h; exact iota_mem.mpr ⟨j0, j1⟩⟩⟩
  obtain ⟨rs, hrs, hrm, hrl⟩ := rts_of (fun j => j ∈ iota ts.length) os fun o ho' => by
    obtain ⟨i, hi, e⟩ := List.getElem_of_mem ho'
    have hlo := ho
    rw [ho] at hi
    exact hr i _ o (List.getElem?_eq_getElem hi) (by rw [← e]; exact List.getElem?_eq_getElem (by omega))
  have hrl5 : rs.length ≤ 4 := by rw [hrl, ho, intsD_len]; omega
  rw [hrs]
  exact q rs hrm hrl5
theorem askC_ok {ord : List Int} {i : Nat} {th : Int → Th} (hr : ∀ j, some j ∈ rs → j ∈ ord) (hl : rs.length ≤ 4) {ρ : Ev} {Q : List D → Prop} (hij : i ≠ 24) (hlen : ρ.length = 26) (h0 : ρ[i]? = some (some (.own (.dic (stD th ord ord))))) (q : Q (intsP (rs.map (ask (offs th 0 ord))))) :
    compT (yName 24) (xC true) (xIf (xB (xBin (rdIs false) (xV 24) (xC PyData.none))) (xUn rdNeg (xC (PyData.int 3))) (xDget i (xV 24))) (wipeE ρ [24]) (rs.map rtD) [] Q := by
  refine compT_map (askD (offs th 0 ord)) _ _ (fun i' d A B hd hA => ?_) (line3 (by rw [List.length_map]; omega)) ?_
  · rw [List.getElem?_map] at hd
    obtain ⟨x, hx, rfl⟩ := Option.map_eq_some_iff.mp hd
    refine lcY_to ?_
    have hs : ((ρ.set 24 none).set 24 (some (.imm (rtD x))))[24]? = some (some (.imm (rtD x))) := by
      rw [List.getElem?_set_self (by rw [List.length_set]; omega)]
    have hd' : ((ρ.set 24 none).set 24 (some (.imm (rtD x))))[i]? = some (some (.own (.dic (stD th ord ord)))) := by
      rw [List.getElem?_set_ne (Ne.symm hij), List.getElem?_set_ne (Ne.symm hij), h0]
    cases x with
    | none => exact xif_T (fun Q q => xB_to (b := true) (fun Q q => xV_to (d := .none) hs q) q) hA
    | some j =>
      refine xif_F (fun Q q => xB_to (b := false) (fun Q q => xV_to (d := .int j) hs q) q) ?_
      unfold xDget dicV
      show (match ((ρ.set 24 none).set 24 (some (.imm (rtD (some j)))))[i]? with | some (some (.own (.dic kvs))) => _ | some (some (.std _ kvs)) => _ | _ => False)
      rw [hd']
      exact xV_to (d := .int j) hs (someTo (stD_val _ _ j _ (hr j (List.mem_of_getElem? hx))) hA)
  · rw [askD_all]
    exact q
theorem tAsked_ok (R : Rnd ts rs) (q : Pe.nx [some (.imm (.list (ns.map .int))), some (.raw (.ref p)), s2, some (tD ts), some (wA ts), some (sA ts), s6, some (rD rs), some (aA ts rs), s9, s10, s11, s12, s13, s14, s15, s16, s17, s18, s19, s20, s21, s22, s23, s24, s25]) : tAsked dl Pt Pe [some (.imm (.list (ns.map .int))), some (.raw (.ref p)), s2, some (tD ts), some (wA ts), some (sA ts), s6, some (rD rs), s8, s9, s10, s11, s12, s13, s14, s15, s16, s17, s18, s19, s20, s21, s22, s23, s24, s25] := by
  refine zset_to (d := .list (intsP (rs.map (ask (stA ts))))) (fun Q q => ?_) q
  exact askC_ok (i := 5) R.hrm R.hrl (by decide) rfl rfl q
theorem tOrd_ok (R : Rnd ts rs) (q : Pe.nx [some (.imm (.list (ns.map .int))), some (.raw (.ref p)), s2, some (tD ts), s4, s5, s6, some (rD rs), s8, some (oD ts rs), s10, s11, s12, s13, s14, s15, s16, s17, s18, s19, s20, s21, s22, s23, s24, s25]) : tOrd dl Pt Pe [some (.imm (.list (ns.map .int))), some (.raw (.ref p)), s2, some (tD ts), s4, s5, s6, some (rD rs), s8, s9, s10, s11, s12, s13, s14, s15, s16, s17, s18, s19, s20, s21, s22, s23, s24, s25] :=
  ⟨ts, rs, iota ts.length, ts.length, rfl, R.L, hlt1, R.hrm, by rw [hio]; have := R.t9; omega, q⟩
theorem tLaid2_ok (R : Rnd ts rs) (q : Pe.nx [some (.imm (.list (ns.map .int))), some (.raw (.ref p)), s2, some (tD ts), s4, s5, s6, s7, s8, some (oD ts rs), some (nA ts rs), some (sB ts rs), s12, s13, s14, s15, s16, s17, s18, s19, s20, s21, s22, s23, s24, s25]) : tLaid2 dl Pt Pe [some (.imm (.list (ns.map .int))), some (.raw (.ref p)), s2, some (tD ts), s4, s5, s6, s7, s8, some (oD ts rs), s10, s11, s12, s13, s14, s15, s16, s17, s18, s19, s20, s21, s22, s23, s24, s25] :=
  ⟨ts, rowA ts rs, ts.length, rfl, R.S, R.hlt2, by have := R.row9; omega, q⟩
theorem tSizes_ok (R : Rnd ts rs) (q : Pe.nx [some (.imm (.list (ns.map .int))), some (.raw (.ref p)), s2, some (tD ts), s4, s5, s6, s7, s8, some (oD ts rs), s10, s11, some (zA ts rs), s13, s14, s15, s16, s17, s18, s19, s20, s21, s22, s23, s24, s25]) : tSizes dl Pt Pe [some (.imm (.list (ns.map .int))), some (.raw (.ref p)), s2, some (tD ts), s4, s5, s6, s7, s8, some (oD ts rs), s10, s11, s12, s13, s14, s15, s16, s17, s18, s19, s20, s21, s22, s23, s24, s25] := by
  have h9 := R.row9
  refine zset_to (d := .int ((rowA ts rs).map fun x => (thAt ts x).size).sum) (fun Q q => ?_) q
  refine compT_map (szD ts) _ _ (fun i d A B hd hA => ?_) (line3 (by rw [intsP_len]; exact Nat.le_trans h9 (by decide))) ⟨rfl, someTo (d := (rowA ts rs).map fun x => (thAt ts x).size) (by rw [szD_all, ints_of]) q⟩
  obtain ⟨x, hx, rfl⟩ := intsP_get hd
  have hxm := List.mem_of_getElem? hx
  have ax := at_th (R.S.pos x hxm) (R.hlt2 x hxm)
  refine lcY_to ?_
  refine ixTo ax ?_
  refine seqIx_to 1 rfl rfl ?_
  refine ixTo ax ?_
  refine seqIx_to 0 rfl rfl ?_
  have hA : A (.int (thAt ts x).size) := hA
  rw [size_py] at hA
  exact hA
theorem tDue_ok (R : Rnd ts rs) (q : Pe.nx [some (.imm (.list (ns.map .int))), some (.raw (.ref p)), s2, s3, s4, some (sA ts), s6, some (rD rs), s8, some (oD ts rs), some (nA ts rs), some (sB ts rs), some (zA ts rs), some (.imm (dueD ts rs)), s14, s15, s16, s17, s18, s19, s20, s21, s22, s23, s24, s25]) : tDue dl Pt Pe [some (.imm (.list (ns.map .int))), some (.raw (.ref p)), s2, s3, s4, some (sA ts), s6, some (rD rs), s8, some (oD ts rs), some (nA ts rs), some (sB ts rs), some (zA ts rs), s13, s14, s15, s16, s17, s18, s19, s20, s21, s22, s23, s24, s25] := by
  have h9 := R.row9
  refine zset_to (d := dueD ts rs) (fun Q q => ?_) q
  refine compT_map (stDD (stA ts)) _ _ (fun i d A B hd hA => ?_) (line3 (by rw [intsP_len]; exact Nat.le_trans h9 (by decide))) ?_
  · obtain ⟨x, hx, rfl⟩ := intsP_get hd
    exact lcY_to (someTo (stD_val _ _ x _ (R.T.sub x (List.mem_of_getElem? hx))) hA)
  refine askC_ok (i := 11) R.root R.hrl (by decide) rfl rfl ?_
  rw [stDD_all]
  exact ⟨by show 2 ≤ sizeLine; decide, by show 4 ≤ sizeLine; decide, q⟩
theorem tBody_ok (ST : StIn dl p) (TI : TabIn dl Pt) (q : ∀ s3 s4 s5 s6 s7 s8 s9 s10 s11 s12 s13 s14 s15 s16 s17 s18 s19 s20 s21 : Option PV, Pe.nx [some (.imm (.list (ns.map .int))), some (.raw (.ref p)), s2, s3, s4, s5, s6, s7, s8, s9, s10, s11, s12, s13, s14, s15, s16, s17, s18, s19, s20, s21, s22, s23, s24, s25]) : tBody dl Pt Pe [some (.imm (.list (ns.map .int))), some (.raw (.ref p)), s2, s3, s4, s5, s6, s7, s8, s9, s10, s11, s12, s13, s14, s15, s16, s17, s18, s19, s20, s21, s22, s23, s24, s25] := by
  refine seq_to (tThings_ok (dl := dl) (Pt := Pt) ST fun ts t1 t9 tok => ?_)
  refine seq_to (tLaid1_ok (dl := dl) (Pt := Pt) t9 tok ?_)
  refine seq_to (tRoots_ok (dl := dl) (Pt := Pt) ST t1 t9 fun rs hrm hrl => ?_)
  have R : Rnd ts rs := ⟨t1, t9, tok, hrm, hrl⟩
  refine seq_to (tAsked_ok (dl := dl) (Pt := Pt) R ?_)
  refine seq_to (tOrd_ok (dl := dl) (Pt := Pt) R ?_)
  refine seq_to (tLaid2_ok (dl := dl) (Pt := Pt) R ?_)
  refine seq_to (tSizes_ok (dl := dl) (Pt := Pt) R ?_)
  refine seq_to (tDue_ok (dl := dl) (Pt := Pt) R ?_)
  refine seq_to (ex1_ok (dl := dl) (Pt := Pt) R TI ?_)
  refine seq_to (ex2_ok (dl := dl) (Pt := Pt) R TI ?_)
  refine seq_to (ptrLoop_ok (dl := dl) (Pt := Pt) R fun s6 s14 s15 s16 s17 s18 s19 => ?_)
  exact bent_ok (dl := dl) (Pt := Pt) R ST TI fun s20 s21 => q _ _ _ _ _ _ _ _ _ _ _ _ _ _ _ _ _ _ _
theorem uMany_ok (ST : StIn dl p) (q : ∀ m : Nat, m ≤ 3000 → Pe.nx [some (.imm (.list (ns.map .int))), some (.raw (.ref p)), s2, s3, s4, s5, s6, s7, s8, s9, s10, s11, s12, s13, s14, s15, s16, s17, s18, s19, s20, s21, some (.imm (.int m)), s23, s24, s25]) : uMany dl Pt Pe [some (.imm (.list (ns.map .int))), some (.raw (.ref p)), s2, s3, s4, s5, s6, s7, s8, s9, s10, s11, s12, s13, s14, s15, s16, s17, s18, s19, s20, s21, s22, s23, s24, s25] := by
  refine ⟨p, ns, 500, rfl, ST, by decide, by decide, fun r r0 r1 => ?_⟩
  have := q (1500 + r).toNat (by omega)
  rw [show (((1500 + r).toNat : Nat) : Int) = 1500 + r by omega] at this
  exact this
theorem tLaw_ok (ST : StIn dl p) (TI : TabIn dl Pt) : tLaw dl Pt lawEs [some (.imm (.list (ns.map .int))), some (.raw (.ref p)), none, none, none, none, none, none, none, none, none, none, none, none, none, none, none, none, none, none, none, none, none, none, none, none] := by
  refine seq_to (zif_N (fun Q q => ⟨cm6, (show Q (!decide ((1000000 : Int) = 10 ^ (6 : Int).toNat)) from by rw [show decide ((1000000 : Int) = 10 ^ (6 : Int).toNat) = true by decide]; exact q)⟩) ?_)
  dsimp only
  refine seq_to ⟨⟨by decide, by decide⟩, ?_⟩
  refine forT_by (fun _ ρ => ∃ s2 s3 s4 s5 s6 s7 s8 s9 s10 s11 s12 s13 s14 s15 s16 s17 s18 s19 s20 s21 s22 s23 s24 s25, ρ = [some (.imm (.list (ns.map .int))), some (.raw (.ref p)), s2, s3, s4, s5, s6, s7, s8, s9, s10, s11, s12, s13, s14, s15, s16, s17, s18, s19, s20, s21, s22, s23, s24, s25]) _ _ ⟨none, none, none, none, none, none, none, none, none, none, none, none, none, none, none, none, none, none, none, none, none, none, none, none, rfl⟩ (fun i d ρ R hd h hR => ?_) fun ρ h => ?_
  · obtain ⟨s2, s3, s4, s5, s6, s7, s8, s9, s10, s11, s12, s13, s14, s15, s16, s17, s18, s19, s20, s21, s22, s23, s24, s25, rfl⟩ := h
    exact tBody_ok ST TI fun s3 s4 s5 s6 s7 s8 s9 s10 s11 s12 s13 s14 s15 s16 s17 s18 s19 s20 s21 => hR _ ⟨_, _, _, _, _, _, _, _, _, _, _, _, _, _, _, _, _, _, _, _, _, _, _, _, rfl⟩
  · obtain ⟨s2, s3, s4, s5, s6, s7, s8, s9, s10, s11, s12, s13, s14, s15, s16, s17, s18, s19, s20, s21, s22, s23, s24, s25, rfl⟩ := h
    refine seq_to (uMany_ok (dl := dl) (Pt := Pt) ST fun m hm => ?_)
    refine seq_to (uChain_ok (dl := dl) (Pt := Pt) hm ?_)
    refine seq_to (uColl_ok (dl := dl) (Pt := Pt) hm ?_)
    exact uRet_ok hm TI rfl
end
end K73
set_option Elab.async false
set_option linter.all false
set_option maxRecDepth 100000
set_option maxHeartbeats 8000000
set_option pp.maxSteps 3000
namespace K73
open PySem PySem.Spec PyProof.Rows L2 PL
section
variable {P : Program} {w : World} {K : PySem.W.Frag} {mg : Str → Option Value} {base : Heap} {f Pt : Addr} {fd : FuncData} {tM : Tok} {f_first_word f_thing_size f_pointer_places f_reached f_reached_words f_collect f_is_heap f__law_draw f__law_exact f__law_flat f__law_is_heap f__law_heap f__law_laid f__law_power f__law_order : Addr} {fd_first_word fd_thing_size fd_pointer_places fd_reached fd_reached_words fd_collect fd_is_heap fd__law_draw fd__law_exact fd__law_flat fd__law_is_heap fd__law_heap fd__law_laid fd__law_power fd__law_order : FuncData}
def spLaw (K : PySem.W.Frag) (Pt : Addr) : Sp := fun vs H Q _ => ∃ (a : Addr) (ns : List Int), vs = [.ref a] ∧ SqL K H a (ns.map V.int) ∧ H Pt = some (.tbl #[]) ∧ ∀ H', Q (.bl true) H'
theorem ok_law (F : Fun K "law" "law" s_law f fd) (g_MOST : mg "MOST" = some (.int 1000000 tM)) (m_len : mg "len" = none) (m_int : mg "int" = none) (m_list : mg "list" = none) (m_tuple : mg "tuple" = none) (m_range : mg "range" = none) (m_sum : mg "sum" = none) (G_first_word : FnOk P w K mg base CX0 1 f_first_word fd_first_word ["sort", "size", "bits"] (Prm K tfFirst)) (g_first_word : mg "first_word" = some (.ref f_first_word)) (F_first_word : Fun K "first_word" "first_word" s_first_word f_first_word fd_first_word) (b_first_word : Binds K fd_first_word ["sort", "size", "bits"] []) (G_thing_size : FnOk P w K mg base CX0 1 f_thing_size fd_thing_size ["word"] (Prm K tfThing)) (g_thing_size : mg "thing_size" = some (.ref f_thing_size)) (F_thing_size : Fun K "thing_size" "thing_size" s_thing_size f_thing_size fd_thing_size) (b_thing_size : Binds K fd_thing_size ["word"] []) (G_pointer_places : FnOk P w K mg base CX0 1 f_pointer_places fd_pointer_places ["word"] (Prm K tfPtrs)) (g_pointer_places : mg "pointer_places" = some (.ref f_pointer_places)) (F_pointer_places : Fun K "pointer_places" "pointer_places" s_pointer_places f_pointer_places fd_pointer_places) (b_pointer_places : Binds K fd_pointer_places ["word"] []) (G_reached : FnOk P w K mg base CX0 2 f_reached fd_reached ["words", "roots"] (Prm K tfReached)) (g_reached : mg "reached" = some (.ref f_reached)) (F_reached : Fun K "reached" "reached" s_reached f_reached fd_reached) (b_reached : Binds K fd_reached ["words", "roots"] []) (G_reached_words : FnOk P w K mg base CX0 3 f_reached_words fd_reached_words ["words", "roots"] (Prm K tfRW)) (g_reached_words : mg "reached_words" = some (.ref f_reached_words)) (F_reached_words : Fun K "reached_words" "reached_words" s_reached_words f_reached_words fd_reached_words) (b_reached_words : Binds K fd_reached_words ["words", "roots"] []) (G_collect : FnOk P w K mg base CX0 3 f_collect fd_collect ["words", "roots"] (Prm K tfColl)) (g_collect : mg "collect" = some (.ref f_collect)) (F_collect : Fun K "collect" "collect" s_collect f_collect fd_collect) (b_collect : Binds K fd_collect ["words", "roots"] []) (G_is_heap : FnOk P w K mg base CX0 2 f_is_heap fd_is_heap ["words"] (Prm K (tfIsHeap Pt))) (g_is_heap : mg "is_heap" = some (.ref f_is_heap)) (F_is_heap : Fun K "is_heap" "is_heap" s_is_heap f_is_heap fd_is_heap) (b_is_heap : Binds K fd_is_heap ["words"] []) (G__law_draw : FnOk P w K mg base CX0 2 f__law_draw fd__law_draw ["state", "script", "size"] (Prm K tfDraw2)) (g__law_draw : mg "_law_draw" = some (.ref f__law_draw)) (F__law_draw : Fun K "_law_draw" "_law_draw" s__law_draw f__law_draw fd__law_draw) (b__law_draw : Binds K fd__law_draw ["state", "script", "size"] []) (G__law_exact : FnOk P w K mg base CX0 6 f__law_exact fd__law_exact ["first", "second"] (Prm K (tfExact 5))) (g__law_exact : mg "_law_exact" = some (.ref f__law_exact)) (F__law_exact : Fun K "_law_exact" "_law_exact" s__law_exact f__law_exact fd__law_exact) (b__law_exact : Binds K fd__law_exact ["first", "second"] []) (G__law_flat : FnOk P w K mg base CX0 1 f__law_flat fd__law_flat ["rows"] (Prm K tfFlat)) (g__law_flat : mg "_law_flat" = some (.ref f__law_flat)) (F__law_flat : Fun K "_law_flat" "_law_flat" s__law_flat f__law_flat fd__law_flat) (b__law_flat : Binds K fd__law_flat ["rows"] []) (G__law_is_heap : FnOk P w K mg base CX0 1 f__law_is_heap fd__law_is_heap ["words"] (Prm K tfLawHeap)) (g__law_is_heap : mg "_law_is_heap" = some (.ref f__law_is_heap)) (F__law_is_heap : Fun K "_law_is_heap" "_law_is_heap" s__law_is_heap f__law_is_heap fd__law_is_heap) (b__law_is_heap : Binds K fd__law_is_heap ["words"] []) (G__law_heap : FnOk P w K mg base CX0 3 f__law_heap fd__law_heap ["state", "script"] (Prm K tfLHeap)) (g__law_heap : mg "_law_heap" = some (.ref f__law_heap)) (F__law_heap : Fun K "_law_heap" "_law_heap" s__law_heap f__law_heap fd__law_heap) (b__law_heap : Binds K fd__law_heap ["state", "script"] []) (G__law_laid : FnOk P w K mg base CX0 2 f__law_laid fd__law_laid ["things", "order"] (Prm K tfLaid)) (g__law_laid : mg "_law_laid" = some (.ref f__law_laid)) (F__law_laid : Fun K "_law_laid" "_law_laid" s__law_laid f__law_laid fd__law_laid) (b__law_laid : Binds K fd__law_laid ["things", "order"] []) (G__law_power : FnOk P w K mg base CX0 1 f__law_power fd__law_power ["many"] (Prm K tfPower)) (g__law_power : mg "_law_power" = some (.ref f__law_power)) (F__law_power : Fun K "_law_power" "_law_power" s__law_power f__law_power fd__law_power) (b__law_power : Binds K fd__law_power ["many"] []) (G__law_order : FnOk P w K mg base CX0 1 f__law_order fd__law_order ["things", "roots"] (Prm K tfOrder)) (g__law_order : mg "_law_order" = some (.ref f__law_order)) (F__law_order : Fun K "_law_order" "_law_order" s__law_order f__law_order fd__law_order) (b__law_order : Binds K fd__law_order ["things", "roots"] []) :
    FnOk P w K mg base CX0 7 f fd ["script"] (spLaw K Pt) := by
  refine F.ok sc_law (fun _ _ _ _ ⟨_, _, e, _⟩ => by rw [e] <;> rfl) fun cdv A outer s H vs Q E hr ⟨a, ns, ev, hs, hP, q⟩ => ?_
  subst ev
  refine ⟨_, pss_cons (ps_set (i := 1) sc_law.nd rfl (.inr rfl) (pe_lst (pa_cons pe_int (pa_cons pe_int pa_nil)))) (ent_any fun e => der_law g_MOST m_len m_int m_list m_tuple m_range m_sum G_first_word g_first_word F_first_word b_first_word G_thing_size g_thing_size F_thing_size b_thing_size G_pointer_places g_pointer_places F_pointer_places b_pointer_places G_reached g_reached F_reached b_reached G_reached_words g_reached_words F_reached_words b_reached_words G_collect g_collect F_collect b_collect G_is_heap g_is_heap F_is_heap b_is_heap G__law_draw g__law_draw F__law_draw b__law_draw G__law_exact g__law_exact F__law_exact b__law_exact G__law_flat g__law_flat F__law_flat b__law_flat G__law_is_heap g__law_is_heap F__law_is_heap b__law_is_heap G__law_heap g__law_heap F__law_heap b__law_heap G__law_laid g__law_laid F__law_laid b__law_laid G__law_power g__law_power F__law_power b__law_power G__law_order g__law_order F__law_order b__law_order hr e), by show 2 ≤ sizeLine; decide, fun p hp => ?_⟩
  have hPp : p ∉ [Pt] := fun z => by
    rw [List.mem_singleton.mp z, hP] at hp
    cases hp
  have hT : ∀ q ∈ [Pt], H q = some (.tbl #[]) := fun q hq => by rw [List.mem_singleton.mp hq]; exact hP
  exact ⟨entOf p [Pt] H, stF p [Pt] H, some (.imm (.list (ns.map .int))) :: some (.raw (.ref p)) :: List.replicate 24 none, lawEs, start_law hp hT hs 24, tLaw_ok (start_st hPp) (start_tab hPp (List.mem_singleton.mpr rfl)), lawLk q⟩
end
end K73
set_option Elab.async false
set_option linter.all false
set_option maxRecDepth 100000
set_option maxHeartbeats 8000000
namespace K73
open PySem PySem.Spec PyProof.Rows L2 PL
/-- the table of the def named nm is empty, its code object well formed -/
def HasTab (K : PySem.W.Frag) (mg : Str → Option Value) (nm : Str) (h : Heap) : Prop := ∀ (fa c P : Addr) (o : Obj) (fd : FuncData) (e : Value) (dd : Option Addr) (vs : Array Value) (sl : Array (Option Value)), mg nm = some (.ref fa) → K.lookup fa = some o → o.data = .func fd → fd.code = .ref c → K.lookup c = some ⟨e, dd, .fields vs, sl⟩ → vs[11]? = some (.ref P) →
  h.get? P = some { cls := .none, data := .fields #[] } ∧ PySem.W.CodeHd h c P
theorem walk_ofTab {l : PySem.W.OpenLaw} {n k : Nat} {q : Program} {loose : List Str} {XP : (Str → Option Value) → Heap → Prop} {YP : World → Heap → Prop} {d : DefRec} {K : Params → PySem.W.Frag} {CX : World → CXT} {x nm : Str}
    (hn : l.most = some n) (hn2 : n ≤ sizeLine) (hdf : d.params.defaults = []) (hr : Room k callerA) (hrec : ((recsOf q).any fun e => e.name == nm) = true) (hY : ∀ (w : World) (h : Heap), YP w h → (K w.params).In h)
    (F : ∀ (w : World) (mg : Str → Option Value) (fa : Addr) (h : Heap), YP w h → (K w.params).In h → h.Ns mainGlobals mg → mg d.name = some (.ref fa) → HasTab (K w.params) mg nm h → LamX.LawAtS l w (K w.params) (CX w) k n x mg fa h)
    (hCX : ∀ (w : World) (H : Hp) (s : Shared) (e : Value) (s' : Shared), CX w [] H s (fun _ _ _ => False) e s' → False) :
    PySem.W.WalkO q loose XP YP l.row.toRowW d [] (fun f vs => PySem.call f vs) := by
  refine Att.attach_callB hn hdf fun w s₀ s₁ mg mb fa o pm cd doc a vs ns G Y ho hd hcd hmg hobj hints hlen hbits hg => ?_
  have KX := hY w _ Y
  have own : HasTab (K w.params) mg nm s₁.heap := fun fa1 c P o1 fd1 e dd vs1 sl k0 k1 k2 k3 k4 k5 => by
    obtain ⟨dL, hm, hn1⟩ := List.any_eq_true.mp hrec
    have hn2 : dL.name = nm := beq_iff_eq.mp hn1
    obtain ⟨a', o', fd', c', P', h1, h2, h3, h4, h5, h6⟩ := G.T.tab dL hm
    rw [hn2, k0] at h1
    cases h1
    have g1 := KX _ _ k1
    rw [g1] at h2
    cases h2
    rw [k2] at h3
    cases h3
    rw [k3] at h4
    cases h4
    have hc := PySem.W.CodeHd.of h5 h6
    obtain ⟨⟨oc, vc, e1, _, e3, e4⟩, hP⟩ := h6
    have g2 := KX _ _ k4
    rw [g2] at e1
    cases e1
    cases e3
    rw [k5] at e4
    cases e4
    exact ⟨hP, hc⟩
  obtain ⟨fd, cs, sp, hT, nT, C, hb, hsp, hF⟩ := F w mg fa _ Y KX G.T.g hmg own
  exact LamX.law_callTs KX G.T.g G.T.b G.T.builtins G.T.nolimit hg hT nT C G.T.bmain hobj hints (Nat.le_trans hlen hn2) hr hF hb (fun H hH hS => hsp H a ns hlen hbits hH hS) fun H e s' => hCX w H s₁ e s'
theorem all_mk {l : PySem.W.OpenLaw} {w : World} {K : PySem.W.Frag} {h : Heap} {mg : Str → Option Value} {fa : Addr} (X : K.In h) (G : h.Ns mainGlobals mg) (hfa : mg "law" = some (.ref fa)) (own : HasTab K mg "is_heap" h)
    (y_int : PySem.W.nsIn K mainGlobals "int" = some none)
    (y_range : PySem.W.nsIn K mainGlobals "range" = some none)
    (y_list : PySem.W.nsIn K mainGlobals "list" = some none)
    (y_len : PySem.W.nsIn K mainGlobals "len" = some none)
    (y_all : PySem.W.nsIn K mainGlobals "all" = some none)
    (y_sum : PySem.W.nsIn K mainGlobals "sum" = some none)
    (y_isinstance : PySem.W.nsIn K mainGlobals "isinstance" = some none)
    (y_tuple : PySem.W.nsIn K mainGlobals "tuple" = some none)
    (y_str : PySem.W.nsIn K mainGlobals "str" = some none)
    (y_bool : PySem.W.nsIn K mainGlobals "bool" = some none)
    {tM : Tok}
    (k_MOST : PySem.W.nsIn K mainGlobals "MOST" = some (some (.int 1000000 tM)))
    {F0 : Addr} {od0 an0 : Option Addr} {sl0 : Array (Option Value)} {oc0 kV0 dc0 pm0 cd0 ct0 : Value}
    (a0 : PySem.W.nsIn K mainGlobals "first_word" = some (some (.ref F0))) (l0 : K.lookup F0 = some ⟨oc0, od0, .func (PySem.W.fnOf "first_word" "first_word" (defArgs s_first_word) (defBody s_first_word) (defScope s_first_word) .none kV0 dc0 pm0 an0 cd0 ct0), sl0⟩) (c0 : PySem.W.codeIn K cd0 "first_word" = true) (p0 : PySem.W.keepIn K (.ref F0) = true)
    {F1 : Addr} {od1 an1 : Option Addr} {sl1 : Array (Option Value)} {oc1 kV1 dc1 pm1 cd1 ct1 : Value}
    (a1 : PySem.W.nsIn K mainGlobals "thing_size" = some (some (.ref F1))) (l1 : K.lookup F1 = some ⟨oc1, od1, .func (PySem.W.fnOf "thing_size" "thing_size" (defArgs s_thing_size) (defBody s_thing_size) (defScope s_thing_size) .none kV1 dc1 pm1 an1 cd1 ct1), sl1⟩) (c1 : PySem.W.codeIn K cd1 "thing_size" = true) (p1 : PySem.W.keepIn K (.ref F1) = true)
    {F2 : Addr} {od2 an2 : Option Addr} {sl2 : Array (Option Value)} {oc2 kV2 dc2 pm2 cd2 ct2 : Value}
    (a2 : PySem.W.nsIn K mainGlobals "pointer_places" = some (some (.ref F2))) (l2 : K.lookup F2 = some ⟨oc2, od2, .func (PySem.W.fnOf "pointer_places" "pointer_places" (defArgs s_pointer_places) (defBody s_pointer_places) (defScope s_pointer_places) .none kV2 dc2 pm2 an2 cd2 ct2), sl2⟩) (c2 : PySem.W.codeIn K cd2 "pointer_places" = true) (p2 : PySem.W.keepIn K (.ref F2) = true)
    {F3 : Addr} {od3 an3 : Option Addr} {sl3 : Array (Option Value)} {oc3 kV3 dc3 pm3 cd3 ct3 : Value}
    (a3 : PySem.W.nsIn K mainGlobals "is_first_word" = some (some (.ref F3))) (l3 : K.lookup F3 = some ⟨oc3, od3, .func (PySem.W.fnOf "is_first_word" "is_first_word" (defArgs s_is_first_word) (defBody s_is_first_word) (defScope s_is_first_word) .none kV3 dc3 pm3 an3 cd3 ct3), sl3⟩) (c3 : PySem.W.codeIn K cd3 "is_first_word" = true) (p3 : PySem.W.keepIn K (.ref F3) = true)
    {F4 : Addr} {od4 an4 : Option Addr} {sl4 : Array (Option Value)} {oc4 kV4 dc4 pm4 cd4 ct4 : Value}
    (a4 : PySem.W.nsIn K mainGlobals "_law_refill" = some (some (.ref F4))) (l4 : K.lookup F4 = some ⟨oc4, od4, .func (PySem.W.fnOf "_law_refill" "_law_refill" (defArgs s__law_refill) (defBody s__law_refill) (defScope s__law_refill) .none kV4 dc4 pm4 an4 cd4 ct4), sl4⟩) (c4 : PySem.W.codeIn K cd4 "_law_refill" = true) (p4 : PySem.W.keepIn K (.ref F4) = true)
    {F5 : Addr} {od5 an5 : Option Addr} {sl5 : Array (Option Value)} {oc5 kV5 dc5 pm5 cd5 ct5 : Value}
    (a5 : PySem.W.nsIn K mainGlobals "_law_flat" = some (some (.ref F5))) (l5 : K.lookup F5 = some ⟨oc5, od5, .func (PySem.W.fnOf "_law_flat" "_law_flat" (defArgs s__law_flat) (defBody s__law_flat) (defScope s__law_flat) .none kV5 dc5 pm5 an5 cd5 ct5), sl5⟩) (c5 : PySem.W.codeIn K cd5 "_law_flat" = true) (p5 : PySem.W.keepIn K (.ref F5) = true)
    {F6 : Addr} {od6 an6 : Option Addr} {sl6 : Array (Option Value)} {oc6 kV6 dc6 pm6 cd6 ct6 : Value}
    (a6 : PySem.W.nsIn K mainGlobals "_law_is_heap" = some (some (.ref F6))) (l6 : K.lookup F6 = some ⟨oc6, od6, .func (PySem.W.fnOf "_law_is_heap" "_law_is_heap" (defArgs s__law_is_heap) (defBody s__law_is_heap) (defScope s__law_is_heap) .none kV6 dc6 pm6 an6 cd6 ct6), sl6⟩) (c6 : PySem.W.codeIn K cd6 "_law_is_heap" = true) (p6 : PySem.W.keepIn K (.ref F6) = true)
    {F7 : Addr} {od7 an7 : Option Addr} {sl7 : Array (Option Value)} {oc7 kV7 dc7 pm7 cd7 ct7 : Value}
    (a7 : PySem.W.nsIn K mainGlobals "_law_power" = some (some (.ref F7))) (l7 : K.lookup F7 = some ⟨oc7, od7, .func (PySem.W.fnOf "_law_power" "_law_power" (defArgs s__law_power) (defBody s__law_power) (defScope s__law_power) .none kV7 dc7 pm7 an7 cd7 ct7), sl7⟩) (c7 : PySem.W.codeIn K cd7 "_law_power" = true) (p7 : PySem.W.keepIn K (.ref F7) = true)
    {F8 : Addr} {od8 an8 : Option Addr} {sl8 : Array (Option Value)} {oc8 kV8 dc8 pm8 cd8 ct8 : Value}
    (a8 : PySem.W.nsIn K mainGlobals "_law_order" = some (some (.ref F8))) (l8 : K.lookup F8 = some ⟨oc8, od8, .func (PySem.W.fnOf "_law_order" "_law_order" (defArgs s__law_order) (defBody s__law_order) (defScope s__law_order) .none kV8 dc8 pm8 an8 cd8 ct8), sl8⟩) (c8 : PySem.W.codeIn K cd8 "_law_order" = true) (p8 : PySem.W.keepIn K (.ref F8) = true)
    {F9 : Addr} {od9 an9 : Option Addr} {sl9 : Array (Option Value)} {oc9 kV9 dc9 pm9 cd9 ct9 : Value}
    (a9 : PySem.W.nsIn K mainGlobals "reached" = some (some (.ref F9))) (l9 : K.lookup F9 = some ⟨oc9, od9, .func (PySem.W.fnOf "reached" "reached" (defArgs s_reached) (defBody s_reached) (defScope s_reached) .none kV9 dc9 pm9 an9 cd9 ct9), sl9⟩) (c9 : PySem.W.codeIn K cd9 "reached" = true) (p9 : PySem.W.keepIn K (.ref F9) = true)
    {F10 : Addr} {od10 an10 : Option Addr} {sl10 : Array (Option Value)} {oc10 kV10 dc10 pm10 ct10 : Value} {cT Pt : Addr}
    (a10 : PySem.W.nsIn K mainGlobals "is_heap" = some (some (.ref F10))) (l10 : K.lookup F10 = some ⟨oc10, od10, .func (PySem.W.fnOf "is_heap" "is_heap" (defArgs s_is_heap) (defBody s_is_heap) (defScope s_is_heap) .none kV10 dc10 pm10 an10 (.ref cT) ct10), sl10⟩) (c10 : PySem.W.codeIn K (.ref cT) "is_heap" = true) (p10 : PySem.W.keepIn K (.ref F10) = true)
    {F11 : Addr} {od11 an11 : Option Addr} {sl11 : Array (Option Value)} {oc11 kV11 dc11 pm11 cd11 ct11 : Value}
    (a11 : PySem.W.nsIn K mainGlobals "_law_draw" = some (some (.ref F11))) (l11 : K.lookup F11 = some ⟨oc11, od11, .func (PySem.W.fnOf "_law_draw" "_law_draw" (defArgs s__law_draw) (defBody s__law_draw) (defScope s__law_draw) .none kV11 dc11 pm11 an11 cd11 ct11), sl11⟩) (c11 : PySem.W.codeIn K cd11 "_law_draw" = true) (p11 : PySem.W.keepIn K (.ref F11) = true)
    {F12 : Addr} {od12 an12 : Option Addr} {sl12 : Array (Option Value)} {oc12 kV12 dc12 pm12 cd12 ct12 : Value}
    (a12 : PySem.W.nsIn K mainGlobals "_law_laid" = some (some (.ref F12))) (l12 : K.lookup F12 = some ⟨oc12, od12, .func (PySem.W.fnOf "_law_laid" "_law_laid" (defArgs s__law_laid) (defBody s__law_laid) (defScope s__law_laid) .none kV12 dc12 pm12 an12 cd12 ct12), sl12⟩) (c12 : PySem.W.codeIn K cd12 "_law_laid" = true) (p12 : PySem.W.keepIn K (.ref F12) = true)
    {F13 : Addr} {od13 an13 : Option Addr} {sl13 : Array (Option Value)} {oc13 kV13 dc13 pm13 cd13 ct13 : Value}
    (a13 : PySem.W.nsIn K mainGlobals "reached_words" = some (some (.ref F13))) (l13 : K.lookup F13 = some ⟨oc13, od13, .func (PySem.W.fnOf "reached_words" "reached_words" (defArgs s_reached_words) (defBody s_reached_words) (defScope s_reached_words) .none kV13 dc13 pm13 an13 cd13 ct13), sl13⟩) (c13 : PySem.W.codeIn K cd13 "reached_words" = true) (p13 : PySem.W.keepIn K (.ref F13) = true)
    {F14 : Addr} {od14 an14 : Option Addr} {sl14 : Array (Option Value)} {oc14 kV14 dc14 pm14 cd14 ct14 : Value}
    (a14 : PySem.W.nsIn K mainGlobals "collect" = some (some (.ref F14))) (l14 : K.lookup F14 = some ⟨oc14, od14, .func (PySem.W.fnOf "collect" "collect" (defArgs s_collect) (defBody s_collect) (defScope s_collect) .none kV14 dc14 pm14 an14 cd14 ct14), sl14⟩) (c14 : PySem.W.codeIn K cd14 "collect" = true) (p14 : PySem.W.keepIn K (.ref F14) = true)
    {F15 : Addr} {od15 an15 : Option Addr} {sl15 : Array (Option Value)} {oc15 kV15 dc15 pm15 cd15 ct15 : Value}
    (a15 : PySem.W.nsIn K mainGlobals "_law_heap" = some (some (.ref F15))) (l15 : K.lookup F15 = some ⟨oc15, od15, .func (PySem.W.fnOf "_law_heap" "_law_heap" (defArgs s__law_heap) (defBody s__law_heap) (defScope s__law_heap) .none kV15 dc15 pm15 an15 cd15 ct15), sl15⟩) (c15 : PySem.W.codeIn K cd15 "_law_heap" = true) (p15 : PySem.W.keepIn K (.ref F15) = true)
    {F16 : Addr} {od16 an16 : Option Addr} {sl16 : Array (Option Value)} {oc16 kV16 dc16 pm16 cd16 ct16 : Value}
    (a16 : PySem.W.nsIn K mainGlobals "_law_exact" = some (some (.ref F16))) (l16 : K.lookup F16 = some ⟨oc16, od16, .func (PySem.W.fnOf "_law_exact" "_law_exact" (defArgs s__law_exact) (defBody s__law_exact) (defScope s__law_exact) .none kV16 dc16 pm16 an16 cd16 ct16), sl16⟩) (c16 : PySem.W.codeIn K cd16 "_law_exact" = true) (p16 : PySem.W.keepIn K (.ref F16) = true)
    {F17 : Addr} {od17 an17 : Option Addr} {sl17 : Array (Option Value)} {oc17 kV17 dc17 pm17 cd17 ct17 : Value}
    (a17 : PySem.W.nsIn K mainGlobals "law" = some (some (.ref F17))) (l17 : K.lookup F17 = some ⟨oc17, od17, .func (PySem.W.fnOf "law" "law" (defArgs s_law) (defBody s_law) (defScope s_law) .none kV17 dc17 pm17 an17 cd17 ct17), sl17⟩) (c17 : PySem.W.codeIn K cd17 "law" = true) (p17 : PySem.W.keepIn K (.ref F17) = true)
    {ccl : Value} {cdd : Option Addr} {vs : Array Value} {ccs : Array (Option Value)} (lk : K.lookup cT = some ⟨ccl, cdd, .fields vs, ccs⟩) (hv : vs[11]? = some (.ref Pt)) (hPt : K.lookup Pt = none)
    : LamX.LawAtS l w K CX0 7 63 "script" mg fa h := by
  have e := hfa.symm.trans (PySem.W.mg_of X G a17)
  cases e
  have m_int := PySem.W.mg_none_of X G y_int
  have m_range := PySem.W.mg_none_of X G y_range
  have m_list := PySem.W.mg_none_of X G y_list
  have m_len := PySem.W.mg_none_of X G y_len
  have m_all := PySem.W.mg_none_of X G y_all
  have m_sum := PySem.W.mg_none_of X G y_sum
  have m_isinstance := PySem.W.mg_none_of X G y_isinstance
  have m_tuple := PySem.W.mg_none_of X G y_tuple
  have m_str := PySem.W.mg_none_of X G y_str
  have m_bool := PySem.W.mg_none_of X G y_bool
  have g_MOST := PySem.W.mg_of X G k_MOST
  have F_first_word := fun_mk (st := s_first_word) l0 c0 p0
  have g_first_word := PySem.W.mg_of X G a0
  have b_first_word := F_first_word.binds (ps := ["sort", "size", "bits"]) fun _ _ _ _ _ _ us hl => match us, hl with | [_, _, _], _ => rfl
  have F_thing_size := fun_mk (st := s_thing_size) l1 c1 p1
  have g_thing_size := PySem.W.mg_of X G a1
  have b_thing_size := F_thing_size.binds (ps := ["word"]) fun _ _ _ _ _ _ us hl => match us, hl with | [_], _ => rfl
  have F_pointer_places := fun_mk (st := s_pointer_places) l2 c2 p2
  have g_pointer_places := PySem.W.mg_of X G a2
  have b_pointer_places := F_pointer_places.binds (ps := ["word"]) fun _ _ _ _ _ _ us hl => match us, hl with | [_], _ => rfl
  have F_is_first_word := fun_mk (st := s_is_first_word) l3 c3 p3
  have g_is_first_word := PySem.W.mg_of X G a3
  have b_is_first_word := F_is_first_word.binds (ps := ["word"]) fun _ _ _ _ _ _ us hl => match us, hl with | [_], _ => rfl
  have F__law_refill := fun_mk (st := s__law_refill) l4 c4 p4
  have g__law_refill := PySem.W.mg_of X G a4
  have b__law_refill := F__law_refill.binds (ps := ["script", "k"]) fun _ _ _ _ _ _ us hl => match us, hl with | [_, _], _ => rfl
  have F__law_flat := fun_mk (st := s__law_flat) l5 c5 p5
  have g__law_flat := PySem.W.mg_of X G a5
  have b__law_flat := F__law_flat.binds (ps := ["rows"]) fun _ _ _ _ _ _ us hl => match us, hl with | [_], _ => rfl
  have F__law_is_heap := fun_mk (st := s__law_is_heap) l6 c6 p6
  have g__law_is_heap := PySem.W.mg_of X G a6
  have b__law_is_heap := F__law_is_heap.binds (ps := ["words"]) fun _ _ _ _ _ _ us hl => match us, hl with | [_], _ => rfl
  have F__law_power := fun_mk (st := s__law_power) l7 c7 p7
  have g__law_power := PySem.W.mg_of X G a7
  have b__law_power := F__law_power.binds (ps := ["many"]) fun _ _ _ _ _ _ us hl => match us, hl with | [_], _ => rfl
  have F__law_order := fun_mk (st := s__law_order) l8 c8 p8
  have g__law_order := PySem.W.mg_of X G a8
  have b__law_order := F__law_order.binds (ps := ["things", "roots"]) fun _ _ _ _ _ _ us hl => match us, hl with | [_, _], _ => rfl
  have F_reached := fun_mk (st := s_reached) l9 c9 p9
  have g_reached := PySem.W.mg_of X G a9
  have b_reached := F_reached.binds (ps := ["words", "roots"]) fun _ _ _ _ _ _ us hl => match us, hl with | [_, _], _ => rfl
  have F_is_heap := fun_mk (st := s_is_heap) l10 c10 p10
  have g_is_heap := PySem.W.mg_of X G a10
  have b_is_heap := F_is_heap.binds (ps := ["words"]) fun _ _ _ _ _ _ us hl => match us, hl with | [_], _ => rfl
  have F__law_draw := fun_mk (st := s__law_draw) l11 c11 p11
  have g__law_draw := PySem.W.mg_of X G a11
  have b__law_draw := F__law_draw.binds (ps := ["state", "script", "size"]) fun _ _ _ _ _ _ us hl => match us, hl with | [_, _, _], _ => rfl
  have F__law_laid := fun_mk (st := s__law_laid) l12 c12 p12
  have g__law_laid := PySem.W.mg_of X G a12
  have b__law_laid := F__law_laid.binds (ps := ["things", "order"]) fun _ _ _ _ _ _ us hl => match us, hl with | [_, _], _ => rfl
  have F_reached_words := fun_mk (st := s_reached_words) l13 c13 p13
  have g_reached_words := PySem.W.mg_of X G a13
  have b_reached_words := F_reached_words.binds (ps := ["words", "roots"]) fun _ _ _ _ _ _ us hl => match us, hl with | [_, _], _ => rfl
  have F_collect := fun_mk (st := s_collect) l14 c14 p14
  have g_collect := PySem.W.mg_of X G a14
  have b_collect := F_collect.binds (ps := ["words", "roots"]) fun _ _ _ _ _ _ us hl => match us, hl with | [_, _], _ => rfl
  have F__law_heap := fun_mk (st := s__law_heap) l15 c15 p15
  have g__law_heap := PySem.W.mg_of X G a15
  have b__law_heap := F__law_heap.binds (ps := ["state", "script"]) fun _ _ _ _ _ _ us hl => match us, hl with | [_, _], _ => rfl
  have F__law_exact := fun_mk (st := s__law_exact) l16 c16 p16
  have g__law_exact := PySem.W.mg_of X G a16
  have b__law_exact := F__law_exact.binds (ps := ["first", "second"]) fun _ _ _ _ _ _ us hl => match us, hl with | [_, _], _ => rfl
  have F_law := fun_mk (st := s_law) l17 c17 p17
  have g_law := PySem.W.mg_of X G a17
  obtain ⟨hT, hC⟩ := own F10 cT Pt _ _ _ _ _ _ g_is_heap l10 rfl rfl lk hv
  refine ⟨PySem.W.fnOf "law" "law" (defArgs s_law) (defBody s_law) (defScope s_law) .none kV17 dc17 pm17 an17 cd17 ct17, [(cT, Pt)], spLaw K Pt, fun p hp => by rw [List.mem_singleton.mp hp]; exact hT, fun p hp => by rw [List.mem_singleton.mp hp]; exact hPt, fun p hp => by rw [List.mem_singleton.mp hp]; exact hC, fun s v => .of_eq rfl, fun H a ns hl hb hH hS => ⟨a, ns, rfl, hS, hH _ (List.mem_singleton.mpr rfl), fun _ => rfl⟩, fun base _ _ hTB => ?_⟩
  have TB0 := hTB _ (List.mem_singleton.mpr rfl)
  have TB : GxR.TabB base mg cT Pt := ⟨TB0.code, TB0.bm, TB0.gP⟩
  have G_first_word := (show FnOk l.prog w K mg base CX0 1 F0 _ ["sort", "size", "bits"] (Prm K tfFirst) from ok_first_word F_first_word g_MOST)
  have G_thing_size := (show FnOk l.prog w K mg base CX0 1 F1 _ ["word"] (Prm K tfThing) from ok_thing_size F_thing_size g_MOST m_int)
  have G_pointer_places := (show FnOk l.prog w K mg base CX0 1 F2 _ ["word"] (Prm K tfPtrs) from ok_pointer_places F_pointer_places g_MOST m_range m_list)
  have G_is_first_word := (show FnOk l.prog w K mg base CX0 1 F3 _ ["word"] (Prm K tfIsFirst) from ok_is_first_word F_is_first_word g_MOST)
  have G__law_refill := (show FnOk l.prog w K mg base CX0 1 F4 _ ["script", "k"] (Prm K tfRefill) from ok__law_refill F__law_refill m_len m_int)
  have G__law_flat := (show FnOk l.prog w K mg base CX0 1 F5 _ ["rows"] (Prm K tfFlat) from ok__law_flat F__law_flat m_list)
  have G__law_is_heap := (show FnOk l.prog w K mg base CX0 1 F6 _ ["words"] (Prm K tfLawHeap) from ok__law_is_heap F__law_is_heap m_len m_int m_range)
  have G__law_power := (show FnOk l.prog w K mg base CX0 1 F7 _ ["many"] (Prm K tfPower) from ok__law_power F__law_power m_range)
  have G__law_order := (show FnOk l.prog w K mg base CX0 1 F8 _ ["things", "roots"] (Prm K tfOrder) from ok__law_order F__law_order m_len m_int)
  have G_reached := (show FnOk l.prog w K mg base CX0 2 F9 _ ["words", "roots"] (Prm K tfReached) from ok_reached F_reached m_len G_pointer_places g_pointer_places F_pointer_places b_pointer_places)
  have G_is_heap := (show FnOk l.prog w K mg base CX0 2 F10 _ ["words"] (Prm K (tfIsHeap Pt)) from ok_is_heap F_is_heap rfl TB m_len m_all G_is_first_word g_is_first_word F_is_first_word b_is_first_word G_thing_size g_thing_size F_thing_size b_thing_size G_pointer_places g_pointer_places F_pointer_places b_pointer_places)
  have G__law_draw := (show FnOk l.prog w K mg base CX0 2 F11 _ ["state", "script", "size"] (Prm K tfDraw2) from ok__law_draw F__law_draw m_int G__law_refill g__law_refill F__law_refill b__law_refill)
  have G__law_laid := (show FnOk l.prog w K mg base CX0 2 F12 _ ["things", "order"] (Prm K tfLaid) from ok__law_laid F__law_laid m_len m_int m_sum m_range G__law_power g__law_power F__law_power b__law_power)
  have G_reached_words := (show FnOk l.prog w K mg base CX0 3 F13 _ ["words", "roots"] (Prm K tfRW) from ok_reached_words F_reached_words m_sum G_reached g_reached F_reached b_reached G_thing_size g_thing_size F_thing_size b_thing_size)
  have G_collect := (show FnOk l.prog w K mg base CX0 3 F14 _ ["words", "roots"] (Prm K tfColl) from ok_collect F_collect m_len m_list G_reached g_reached F_reached b_reached G_thing_size g_thing_size F_thing_size b_thing_size G_pointer_places g_pointer_places F_pointer_places b_pointer_places)
  have G__law_heap := (show FnOk l.prog w K mg base CX0 3 F15 _ ["state", "script"] (Prm K tfLHeap) from ok__law_heap F__law_heap m_int m_range G__law_draw g__law_draw F__law_draw b__law_draw)
  have G__law_exact := (show FnOk l.prog w K mg base CX0 6 F16 _ ["first", "second"] (Prm K (tfExact 5)) from ok__law_exact F__law_exact g__law_exact b__law_exact m_isinstance m_list m_tuple m_len m_all m_range m_str m_bool m_int 5)
  exact ok_law F_law g_MOST m_len m_int m_list m_tuple m_range m_sum G_first_word g_first_word F_first_word b_first_word G_thing_size g_thing_size F_thing_size b_thing_size G_pointer_places g_pointer_places F_pointer_places b_pointer_places G_reached g_reached F_reached b_reached G_reached_words g_reached_words F_reached_words b_reached_words G_collect g_collect F_collect b_collect G_is_heap g_is_heap F_is_heap b_is_heap G__law_draw g__law_draw F__law_draw b__law_draw G__law_exact g__law_exact F__law_exact b__law_exact G__law_flat g__law_flat F__law_flat b__law_flat G__law_is_heap g__law_is_heap F__law_is_heap b__law_is_heap G__law_heap g__law_heap F__law_heap b__law_heap G__law_laid g__law_laid F__law_laid b__law_laid G__law_power g__law_power F__law_power b__law_power G__law_order g__law_order F__law_order b__law_order
end K73
open PySem PySem.W PyProof.Rows
set_option maxRecDepth 100000 in
set_option maxHeartbeats 0 in
theorem PySem.Challenge.cw_stagesworn_k73_whole_collector_holds : PySem.Challenge.rw_stagesworn_k73_whole_collector.Holds := by
  w_on; o_law; k_head; (case hw => w_witness2)
  k_fill
  refine K73.walk_ofTab (l := PySem.Challenge.rw_stagesworn_k73_whole_collector) (n := 63) (k := 7) (x := "script") (nm := "is_heap") (CX := fun _ => L2.CX0) rfl (by decide) rfl ⟨rfl, by decide, by decide⟩ (by decide +kernel) (fun w h Y => PySem.W.kIn_of Y) ?F (fun _ _ _ _ _ h => h)
  case F =>
    intro w mg fa h Y KX G hmg own
    refine' K73.all_mk (l := PySem.Challenge.rw_stagesworn_k73_whole_collector) KX G hmg own ?y_int ?y_range ?y_list ?y_len ?y_all ?y_sum ?y_isinstance ?y_tuple ?y_str ?y_bool ?k_MOST ?a0 ?l0 ?c0 ?p0 ?a1 ?l1 ?c1 ?p1 ?a2 ?l2 ?c2 ?p2 ?a3 ?l3 ?c3 ?p3 ?a4 ?l4 ?c4 ?p4 ?a5 ?l5 ?c5 ?p5 ?a6 ?l6 ?c6 ?p6 ?a7 ?l7 ?c7 ?p7 ?a8 ?l8 ?c8 ?p8 ?a9 ?l9 ?c9 ?p9 ?a10 ?l10 ?c10 ?p10 ?a11 ?l11 ?c11 ?p11 ?a12 ?l12 ?c12 ?p12 ?a13 ?l13 ?c13 ?p13 ?a14 ?l14 ?c14 ?p14 ?a15 ?l15 ?c15 ?p15 ?a16 ?l16 ?c16 ?p16 ?a17 ?l17 ?c17 ?p17 ?lk ?hv ?hPt
    (case y_int => k_is)
    (case y_range => k_is)
    (case y_list => k_is)
    (case y_len => k_is)
    (case y_all => k_is)
    (case y_sum => k_is)
    (case y_isinstance => k_is)
    (case y_tuple => k_is)
    (case y_str => k_is)
    (case y_bool => k_is)
    (case k_MOST => k_is)
    (case a0 => k_is)
    (case l0 => k_is)
    (case c0 => k_is)
    (case p0 => k_is)
    (case a1 => k_is)
    (case l1 => k_is)
    (case c1 => k_is)
    (case p1 => k_is)
    (case a2 => k_is)
    (case l2 => k_is)
    (case c2 => k_is)
    (case p2 => k_is)
    (case a3 => k_is)
    (case l3 => k_is)
    (case c3 => k_is)
    (case p3 => k_is)
    (case a4 => k_is)
    (case l4 => k_is)
    (case c4 => k_is)
    (case p4 => k_is)
    (case a5 => k_is)
    (case l5 => k_is)
    (case c5 => k_is)
    (case p5 => k_is)
    (case a6 => k_is)
    (case l6 => k_is)
    (case c6 => k_is)
    (case p6 => k_is)
    (case a7 => k_is)
    (case l7 => k_is)
    (case c7 => k_is)
    (case p7 => k_is)
    (case a8 => k_is)
    (case l8 => k_is)
    (case c8 => k_is)
    (case p8 => k_is)
    (case a9 => k_is)
    (case l9 => k_is)
    (case c9 => k_is)
    (case p9 => k_is)
    (case a10 => k_is)
    (case l10 => k_is)
    (case c10 => k_is)
    (case p10 => k_is)
    (case a11 => k_is)
    (case l11 => k_is)
    (case c11 => k_is)
    (case p11 => k_is)
    (case a12 => k_is)
    (case l12 => k_is)
    (case c12 => k_is)
    (case p12 => k_is)
    (case a13 => k_is)
    (case l13 => k_is)
    (case c13 => k_is)
    (case p13 => k_is)
    (case a14 => k_is)
    (case l14 => k_is)
    (case c14 => k_is)
    (case p14 => k_is)
    (case a15 => k_is)
    (case l15 => k_is)
    (case c15 => k_is)
    (case p15 => k_is)
    (case a16 => k_is)
    (case l16 => k_is)
    (case c16 => k_is)
    (case p16 => k_is)
    (case a17 => k_is)
    (case l17 => k_is)
    (case c17 => k_is)
    (case p17 => k_is)
    (case lk => k_is)
    (case hv => rfl)
    (case hPt => first | k_is | rfl)
#print axioms PySem.Challenge.cw_stagesworn_k73_whole_collector_holds
