import PyProof.Rows.All
import Wide.All
import OpenK.AllK
import Wide.FinOn
import HandS.ForMost
import HandS.TryOnly
import HandS.Wide
import HandS.TupAny
import HandS.Walk
import HandS.Zip
import HandS.Deep
import HandS.IsInst
import HandS.Text
import HandS.Flow
import HandS.Dict
import HandS.Iter
import KE.GoesEnum
import KE.SortData
import HandS.SortInts
import HandS.Conv
import HandS.AnyAll
import HandS.EndTab
import HandS.EndOwn
import HandS.Nested
import HandS.Style
import HandS.SetFor
import HandS.More
import HandS.Ends
import HandS.EndBits
import HandS.Small
import PySem.Challenge.RW_stagesworn_k05_trees_and_addresses
set_option Elab.async false
set_option linter.all false
set_option maxRecDepth 100000
set_option maxHeartbeats 4000000
/-! readings over data, without the heap: what never changes (F) apart from what a def owns -/
namespace PL
open PySem PySem.Spec PyProof.Rows L2
abbrev D := PyData
/-- what a frame owns: a list, a dict -/
inductive OC where
  | lst (xs : List D) | dic (kvs : List (Key × D))
/-- what a slot holds: data that stands, a thing of one's own, a raw value, a dict that stands -/
inductive PV where
  | imm (d : D) | own (o : OC) | raw (v : V) | std (a : Addr) (kvs : List (Key × D))
  /-- a pair that a def gives: data, and a thing of one's own -/
  | two (d : D) (o : OC)
abbrev Ev := List (Option PV)
/-- what may turn while a def runs, and its law -/
structure Dl where
  M : Addr → Prop
  J : Hp → Prop
structure Dl.Ok (e : Dl) (F H : Hp) : Prop where
  sub : Same F H
  mu : ∀ b, e.M b → F b = none ∧ ∃ o, H b = some o
  inv : e.J H
/-- the law hangs on what may turn alone -/
def Dl.Stay (e : Dl) : Prop := ∀ H1 H2 : Hp, e.J H1 → (∀ b, e.M b → H2 b = H1 b) → e.J H2
/-- from (F, H) to (F', H'): more is frozen, all that stood stands but for what may turn -/
structure Gr (e : Dl) (F H F' H' : Hp) : Prop where
  fz : Same F F'
  new : ∀ b o, F' b = some o → F b = none → H b = none
  st : ∀ b o, H b = some o → ¬ e.M b → H' b = some o
  ok : e.Ok F' H'
noncomputable def Msk (M : Addr → Prop) (H : Hp) : Hp := fun b => open Classical in if M b then none else H b
theorem msk_some {M : Addr → Prop} {H : Hp} {b : Addr} {o : HO} : Msk M H b = some o ↔ ¬ M b ∧ H b = some o := by
  unfold Msk
  by_cases h : M b
  · rw [if_pos h]
    simp [h]
  · rw [if_neg h]
    simp [h]
theorem msk_sub {M : Addr → Prop} {H : Hp} : Same (Msk M H) H := fun _ _ h => (msk_some.mp h).2
theorem Dl.Ok.msk {e : Dl} {F H : Hp} (r : e.Ok F H) : Same F (Msk e.M H) := fun b o h => msk_some.mpr ⟨fun m => (by rw [(r.mu b m).1] at h; cases h), r.sub b o h⟩
section
variable {e : Dl} {F H F1 H1 F2 H2 : Hp}
theorem Gr.refl (r : e.Ok F H) : Gr e F H F H := ⟨Same.refl _, fun b o h z => (by rw [z] at h; cases h), fun _ _ h _ => h, r⟩
theorem Gr.trans (a : Gr e F H F1 H1) (r : e.Ok F H) (b : Gr e F1 H1 F2 H2) : Gr e F H F2 H2 where
  fz := a.fz.trans b.fz
  new := fun x o h z => by
    cases q : F1 x with
    | some u => exact a.new x u q z
    | none =>
      have h1 := b.new x o h q
      cases q2 : H x with
      | none => rfl
      | some u =>
        by_cases m : e.M x
        · have := (b.ok.mu x m).1
          rw [this] at h
          cases h
        · have := a.st x u q2 m
          rw [h1] at this
          cases this
  st := fun x o h m => b.st x o (a.st x o h m) m
  ok := b.ok
theorem Gr.msk (a : Gr e F H F1 H1) : Same (Msk e.M H) (Msk e.M H1) := fun b o h => by
  obtain ⟨m, q⟩ := msk_some.mp h
  exact msk_some.mpr ⟨m, a.st b o q m⟩
end
/-! ### data in a greater heap -/
theorem SqLmono {K : PySem.W.Frag} {H H' : Hp} {a : Addr} {xs : List V} (s : Same H H') (h : SqL K H a xs) : SqL K H' a xs := s.seq h
theorem SqTmono {K : PySem.W.Frag} {H H' : Hp} {a : Addr} {xs : List V} (s : Same H H') (h : SqT K H a xs) : SqT K H' a xs := by
  rcases h with (h | ⟨o, h⟩) | h
  · exact .inl (.inl (s _ _ h))
  · exact .inl (.inr ⟨o, s _ _ h⟩)
  · exact .inr h
mutual
theorem dpMono {K : PySem.W.Frag} {H H' : Hp} (s : Same H H') : ∀ (d : D) {v : V}, Dp K H v d → Dp K H' v d
  | .none, _, h => by cases h; exact .non
  | .bool b, _, h => by cases h; exact .bl b
  | .int i, _, h => by cases h; exact .int i
  | .str x, _, h => by cases h; exact .str x
  | .list ds, _, h => by cases h with | lst a b => exact .lst (SqLmono s a) (dpAllMono s ds b)
  | .tuple ds, _, h => by cases h with | tup a b => exact .tup (SqTmono s a) (dpAllMono s ds b)
  | .dict _, _, h => by cases h
theorem dpAllMono {K : PySem.W.Frag} {H H' : Hp} (s : Same H H') : ∀ (ds : List D) {vs : List V}, DpAll K H vs ds → DpAll K H' vs ds
  | [], _, h => by cases h; exact .nil
  | d :: ds, _, h => by cases h with | cons a b => exact .cons (dpMono s d a) (dpAllMono s ds b)
end
section
variable {K : PySem.W.Frag} {H : Hp}
theorem DpAll.len : ∀ {vs : List V} {ds : List D}, DpAll K H vs ds → vs.length = ds.length
  | _, _, .nil => rfl
  | _, _, .cons _ t => by rw [List.length_cons, List.length_cons, DpAll.len t]
theorem DpAll.get : ∀ {vs : List V} {ds : List D} {i : Nat} {d : D}, DpAll K H vs ds → ds[i]? = some d → ∃ v, vs[i]? = some v ∧ Dp K H v d
  | _, _, _, _, .nil, h => by simp at h
  | _, _, 0, _, .cons a _, h => by
    have e := Option.some.inj h
    subst e
    exact ⟨_, rfl, a⟩
  | _, _, i + 1, _, .cons _ t, h => by
    obtain ⟨v, h1, h2⟩ := DpAll.get (i := i) t (by simpa using h)
    exact ⟨v, by simpa using h1, h2⟩
theorem DpAll.back : ∀ {vs : List V} {ds : List D} {i : Nat} {v : V}, DpAll K H vs ds → vs[i]? = some v → ∃ d, ds[i]? = some d ∧ Dp K H v d
  | _, _, _, _, .nil, h => by simp at h
  | _, _, 0, _, .cons a _, h => by
    have e := Option.some.inj h
    subst e
    exact ⟨_, rfl, a⟩
  | _, _, i + 1, _, .cons _ t, h => by
    obtain ⟨v, h1, h2⟩ := DpAll.back (i := i) t (by simpa using h)
    exact ⟨v, by simpa using h1, h2⟩
theorem DpAll.app : ∀ {vs ws : List V} {ds es : List D}, DpAll K H vs ds → DpAll K H ws es → DpAll K H (vs ++ ws) (ds ++ es)
  | _, _, _, _, .nil, h => h
  | _, _, _, _, .cons a t, h => .cons a (DpAll.app t h)
theorem DpAll.take : ∀ {vs : List V} {ds : List D} (n : Nat), DpAll K H vs ds → DpAll K H (vs.take n) (ds.take n)
  | _, _, 0, _ => .nil
  | _, _, _ + 1, .nil => .nil
  | _, _, n + 1, .cons a t => .cons a (DpAll.take n t)
theorem DpAll.drop : ∀ {vs : List V} {ds : List D} (n : Nat), DpAll K H vs ds → DpAll K H (vs.drop n) (ds.drop n)
  | _, _, 0, h => h
  | _, _, _ + 1, .nil => .nil
  | _, _, n + 1, .cons _ t => DpAll.drop n t
theorem DpAll.set {v : V} {d : D} (h : Dp K H v d) : ∀ {vs : List V} {ds : List D} (n : Nat), DpAll K H vs ds → DpAll K H (vs.set n v) (ds.set n d)
  | _, _, _, .nil => .nil
  | _, _, 0, .cons _ t => .cons h t
  | _, _, n + 1, .cons a t => .cons a (DpAll.set h n t)
theorem DpAll.nil' {vs : List V} (h : DpAll K H vs []) : vs = [] := by cases h; rfl
theorem DpAll.erase : ∀ {vs : List V} {ds : List D} (n : Nat), DpAll K H vs ds → DpAll K H (vs.eraseIdx n) (ds.eraseIdx n)
  | _, _, _, .nil => .nil
  | _, _, 0, .cons _ t => t
  | _, _, n + 1, .cons a t => .cons a (DpAll.erase n t)
theorem DpAll.rep {vs : List V} {ds : List D} (h : DpAll K H vs ds) : ∀ n : Nat, DpAll K H (List.replicate n vs).flatten (List.replicate n ds).flatten
  | 0 => .nil
  | n + 1 => by
    rw [List.replicate_succ, List.flatten_cons, List.replicate_succ, List.flatten_cons]
    exact DpAll.app h (DpAll.rep h n)
theorem DpAll.atI {vs : List V} {ds : List D} {i : Int} {d : D} (h : DpAll K H vs ds) (q : atI ds i = some d) : ∃ v, atI vs i = some v ∧ Dp K H v d := by
  unfold L2.atI at q ⊢
  rw [DpAll.len h]
  cases e : ixN ds.length i with
  | none => rw [e] at q; cases q
  | some j =>
    rw [e] at q
    exact DpAll.get h q
theorem DpAll.dropLast {vs : List V} {ds : List D} (h : DpAll K H vs ds) : DpAll K H vs.dropLast ds.dropLast := by
  rw [List.dropLast_eq_take, List.dropLast_eq_take, DpAll.len h]
  exact DpAll.take _ h
theorem DpAll.rev : ∀ {vs : List V} {ds : List D}, DpAll K H vs ds → DpAll K H vs.reverse ds.reverse
  | _, _, .nil => .nil
  | _, _, .cons a t => by
    rw [List.reverse_cons, List.reverse_cons]
    exact DpAll.app (DpAll.rev t) (.cons a .nil)
end
/-! ### slots -/
inductive KvAll (K : PySem.W.Frag) (F : Hp) : List (Key × V) → List (Key × D) → Prop
  | nil : KvAll K F [] []
  | cons {k : Key} {v : V} {d : D} {ks : List (Key × V)} {kvs : List (Key × D)} : Dp K F v d → KvAll K F ks kvs → KvAll K F ((k, v) :: ks) ((k, d) :: kvs)
theorem KvAll.mono {K : PySem.W.Frag} {F F' : Hp} (s : Same F F') : ∀ {ks : List (Key × V)} {kvs : List (Key × D)}, KvAll K F ks kvs → KvAll K F' ks kvs
  | _, _, .nil => .nil
  | _, _, .cons a t => .cons (dpMono s _ a) (KvAll.mono s t)
def OCat (K : PySem.W.Frag) (F H : Hp) (a : Addr) : OC → Prop
  | .lst xs => ∃ vs, H a = some (.lst vs) ∧ DpAll K F vs xs
  | .dic kvs => ∃ ks, H a = some (.dK ks) ∧ KvAll K F ks kvs
theorem OCat.mono {K : PySem.W.Frag} {F F' H H' : Hp} {a : Addr} {o : OC} (s : Same F F') (h : ∀ x, H a = some x → H' a = some x) (q : OCat K F H a o) : OCat K F' H' a o := by
  cases o with
  | lst xs =>
    obtain ⟨vs, q1, q2⟩ := q
    exact ⟨vs, h _ q1, dpAllMono s xs q2⟩
  | dic kvs =>
    obtain ⟨ks, q1, q2⟩ := q
    exact ⟨ks, h _ q1, q2.mono s⟩
theorem OCat.some {K : PySem.W.Frag} {F H : Hp} {a : Addr} {o : OC} (q : OCat K F H a o) : ∃ x, H a = some x := by
  cases o with
  | lst xs => exact ⟨_, q.choose_spec.1⟩
  | dic kvs => exact ⟨_, q.choose_spec.1⟩
/-- a dict that stands (locked) -/
def StdOk (K : PySem.W.Frag) (F : Hp) (v : V) (a : Addr) (kvs : List (Key × D)) : Prop := v = .ref a ∧ ∃ o ks, F a = some (.frz o (.dK ks)) ∧ KvAll K F ks kvs
theorem StdOk.mono {K : PySem.W.Frag} {F F' : Hp} {v : V} {a : Addr} {kvs : List (Key × D)} (s : Same F F') (h : StdOk K F v a kvs) : StdOk K F' v a kvs := by
  obtain ⟨h1, o, ks, h2, h3⟩ := h
  exact ⟨h1, o, ks, s _ _ h2, h3.mono s⟩
/-- the entry of a def -/
structure Ent extends Dl where
  F0 : Hp
  H0 : Hp
def SlotOk (K : PySem.W.Frag) (e : Ent) (F H : Hp) (v : V) : PV → Prop
  | .imm d => Dp K F v d
  | .own o => ∃ a, v = .ref a ∧ OCat K F H a o ∧ F a = none ∧ e.H0 a = none ∧ ¬ e.M a
  | .raw w => v = w
  | .std a kvs => StdOk K F v a kvs
  | .two _ _ => False
structure Rp (K : PySem.W.Frag) (e : Ent) (ρ : Ev) (F : Hp) (σ : L2.St) (H : Hp) : Prop where
  len : σ.length = ρ.length
  ok0 : e.toDl.Ok e.F0 e.H0
  gr : Gr e.toDl e.F0 e.H0 F H
  stay : e.toDl.Stay
  slots : ∀ (i : Nat) (p : PV), ρ[i]? = some (some p) → ∃ v, σ[i]? = some (some v) ∧ SlotOk K e F H v p
  apart : ∀ (i j : Nat) (x y : OC) (a : Addr), i ≠ j → ρ[i]? = some (some (.own x)) → ρ[j]? = some (some (.own y)) → σ[i]? = some (some (.ref a)) → σ[j]? ≠ some (some (.ref a))
section
variable {K : PySem.W.Frag} {e : Ent} {ρ : Ev} {σ : L2.St} {F H F' H' : Hp} {p : Addr} {o : HO}
theorem Rp.ok (r : Rp K e ρ F σ H) : e.toDl.Ok F H := r.gr.ok
theorem Rp.sub (r : Rp K e ρ F σ H) : Same F H := r.gr.ok.sub
theorem SlotOk.step {v : V} {pv : PV} (g : Gr e.toDl F H F' H') (q : SlotOk K e F H v pv) : SlotOk K e F' H' v pv := by
  cases pv with
  | imm d => exact dpMono g.fz d q
  | own oc =>
    obtain ⟨a, e1, e2, e3, e4, e5⟩ := q
    refine ⟨a, e1, e2.mono g.fz fun x h => g.st a x h e5, ?_, e4, e5⟩
    cases z : F' a with
    | none => rfl
    | some u =>
      obtain ⟨x, h⟩ := e2.some
      rw [g.new a u z e3] at h
      cases h
  | raw w => exact q
  | std a kvs => exact q.mono g.fz
  | two _ _ => exact q.elim
theorem Rp.step (r : Rp K e ρ F σ H) (g : Gr e.toDl F H F' H') : Rp K e ρ F' σ H' where
  len := r.len
  ok0 := r.ok0
  gr := r.gr.trans r.ok0 g
  stay := r.stay
  slots := fun i pv q => by
    obtain ⟨v, q1, q2⟩ := r.slots i pv q
    exact ⟨v, q1, q2.step g⟩
  apart := r.apart
theorem Rp.f0 (r : Rp K e ρ F σ H) (h : H p = none) : e.H0 p = none := by
  cases q : e.H0 p with
  | none => rfl
  | some o =>
    by_cases m : e.M p
    · obtain ⟨_, o, q⟩ := r.ok.mu p m
      rw [h] at q
      cases q
    · have := r.gr.st p o q m
      rw [h] at this
      cases this
theorem Dl.Ok.fM {e : Dl} (r : e.Ok F H) (h : H p = none) : ¬ e.M p := fun m => by
  obtain ⟨_, o, q⟩ := r.mu p m
  rw [h] at q
  cases q
theorem sameNew {H : Hp} {p : Addr} {o : HO} (h : H p = none) : Same H (upd H p o) := fun b x q => by
  rw [upd_ne (ne_of_none q h)]
  exact q
/-- a new thing that no one holds yet -/
theorem Gr.newO {e : Dl} (r : e.Ok F H) (s : e.Stay) (h : H p = none) : Gr e F H F (upd H p o) where
  fz := Same.refl _
  new := fun b u q z => by rw [z] at q; cases q
  st := fun b u q _ => sameNew h b u q
  ok := ⟨r.sub.trans (sameNew h), fun b m => ⟨(r.mu b m).1, by
    obtain ⟨_, x, q⟩ := r.mu b m
    exact ⟨x, sameNew h b x q⟩⟩, s _ _ r.inv fun b m => by
    obtain ⟨_, x, q⟩ := r.mu b m
    rw [upd_ne (ne_of_none q h)]⟩
/-- a thing that came since then is frozen -/
theorem Gr.freeze {e : Dl} (r : e.Ok F H) (g : Gr e F H F' H') (h : H' p = some o) (hn : H p = none) (hF : F' p = none) (hm : ¬ e.M p) : Gr e F H (upd F' p o) H' where
  fz := g.fz.trans (sameNew hF)
  new := fun b u q z => by
    by_cases hb : b = p
    · rw [hb]
      exact hn
    · rw [upd_ne hb] at q
      exact g.new b u q z
  st := g.st
  ok := ⟨fun b x q => by
      by_cases hb : b = p
      · subst hb
        rw [upd_same] at q
        rw [← q]
        exact h
      · rw [upd_ne hb] at q
        exact g.ok.sub b x q, fun b m => ⟨by
      rw [upd_ne (fun z => hm (by rw [← z]; exact m))]
      exact (g.ok.mu b m).1, (g.ok.mu b m).2⟩, g.ok.inv⟩
/-- a new frozen thing -/
theorem Gr.newF {e : Dl} (r : e.Ok F H) (s : e.Stay) (h : H p = none) : Gr e F H (upd F p o) (upd H p o) :=
  Gr.freeze r (Gr.newO r s h) upd_same h (r.sub.free h) (r.fM h)
end
/-- a sequence that is to be read -/
def SeqOk (K : PySem.W.Frag) (M : Addr → Prop) (F H : Hp) (v : V) (isT : Bool) (xs : List D) : Prop := ∃ a vs, v = .ref a ∧ (if isT = true then SqT K (Msk M H) a vs else SqL K (Msk M H) a vs) ∧ DpAll K F vs xs
theorem imp {X : Cx} {x : Expr} {t t' : TE} (h : PE X x t) (k : ∀ σ H Q, t' σ H Q → t σ H Q) : PE X x t' := ⟨fun pins s σ H Q I q => h.run pins s σ H Q I (k σ H Q q)⟩
theorem impT {X : Cx} {x : Expr} {t t' : TT} (h : L2.PT X x t) (k : ∀ σ H Q, t' σ H Q → t σ H Q) : L2.PT X x t' := ⟨fun pins s σ H Q I q => h.run pins s σ H Q I (k σ H Q q)⟩
theorem impA {X : Cx} {x : List Expr} {t t' : TA} (h : PA X x t) (k : ∀ σ H Q, t' σ H Q → t σ H Q) : PA X x t' := ⟨fun pos pins s σ H Q I q => h.run pos pins s σ H Q I (k σ H Q q)⟩
theorem impS {X : Cx} {x : Stmt} {t t' : TS} (h : PS X x t) (k : ∀ D σ H, t' D σ H → t D σ H) : PS X x t' := ⟨fun pins s σ H D I q => h.run pins s σ H D I (k D σ H q)⟩
theorem impSs {X : Cx} {x : List Stmt} {t t' : TS} (h : PSs X x t) (k : ∀ D σ H, t' D σ H → t D σ H) : PSs X x t' := ⟨fun pins s σ H D I q => h.run pins s σ H D I (k D σ H q)⟩
end PL
set_option Elab.async false
set_option linter.all false
set_option maxRecDepth 100000
set_option maxHeartbeats 4000000
namespace PL
open PySem PySem.Spec PyProof.Rows L2
/-! ### kinds of worths -/
structure Kd (e : Ent) (α : Type) where
  Ok : Hp → Hp → Hp → V → α → Prop
  step : ∀ {H F' H' F'' H'' : Hp} {v : V} {x : α}, Gr e.toDl F' H' F'' H'' → Ok H F' H' v x → Ok H F'' H'' v x
  weak : ∀ {F0 H0 F H F' H' : Hp} {v : V} {x : α}, Gr e.toDl F0 H0 F H → Ok H F' H' v x → Ok H0 F' H' v x
theorem SeqOk.step {K : PySem.W.Frag} {e : Dl} {F H F' H' : Hp} {v : V} {b : Bool} {xs : List D} (g : Gr e F H F' H') (q : SeqOk K e.M F H v b xs) : SeqOk K e.M F' H' v b xs := by
  obtain ⟨a, vs, e1, e2, e3⟩ := q
  refine ⟨a, vs, e1, ?_, dpAllMono g.fz xs e3⟩
  cases b with
  | true =>
    rw [if_pos rfl] at e2 ⊢
    exact SqTmono g.msk e2
  | false =>
    rw [if_neg Bool.false_ne_true] at e2 ⊢
    exact SqLmono g.msk e2
def kD (K : PySem.W.Frag) (e : Ent) : Kd e D := ⟨fun _ F' _ v d => Dp K F' v d, fun g q => dpMono g.fz _ q, fun _ q => q⟩
def kQ (K : PySem.W.Frag) (e : Ent) : Kd e (Bool × List D) := ⟨fun _ F' H' v x => SeqOk K e.M F' H' v x.1 x.2, fun g q => SeqOk.step g q, fun _ q => q⟩
def NOk (K : PySem.W.Frag) (e : Ent) (H F' H' : Hp) (v : V) (oc : OC) : Prop := ∃ a, v = .ref a ∧ OCat K F' H' a oc ∧ F' a = none ∧ H a = none ∧ ¬ e.M a
theorem NOk.step {K : PySem.W.Frag} {e : Ent} {H F' H' F'' H'' : Hp} {v : V} {oc : OC} (g : Gr e.toDl F' H' F'' H'') (q : NOk K e H F' H' v oc) : NOk K e H F'' H'' v oc := by
  obtain ⟨a, e1, e2, e3, e4, e5⟩ := q
  refine ⟨a, e1, e2.mono g.fz fun x h => g.st a x h e5, ?_, e4, e5⟩
  cases z : F'' a with
  | none => rfl
  | some u =>
    obtain ⟨x, h⟩ := e2.some
    rw [g.new a u z e3] at h
    cases h
theorem NOk.weak {K : PySem.W.Frag} {e : Ent} {F0 H0 F H F' H' : Hp} {v : V} {oc : OC} (g : Gr e.toDl F0 H0 F H) (q : NOk K e H F' H' v oc) : NOk K e H0 F' H' v oc := by
  obtain ⟨a, e1, e2, e3, e4, e5⟩ := q
  refine ⟨a, e1, e2, e3, ?_, e5⟩
  cases z : H0 a with
  | none => rfl
  | some u =>
    have := g.st a u z e5
    rw [e4] at this
    cases this
def kN (K : PySem.W.Frag) (e : Ent) : Kd e OC := ⟨NOk K e, fun g q => q.step g, fun g q => q.weak g⟩
def kR (e : Ent) : Kd e V := ⟨fun _ _ _ v w => v = w, fun _ q => q, fun _ q => q⟩
abbrev TX (α : Type) := Ev → (α → Prop) → Prop
def MonoX {α : Type} (t : TX α) : Prop := ∀ ρ (Q Q' : α → Prop), (∀ d, Q d → Q' d) → t ρ Q → t ρ Q'
def lift (K : PySem.W.Frag) (e : Ent) {α : Type} (k : Kd e α) (t : TX α) : TE := fun σ H Q => ∃ F ρ, Rp K e ρ F σ H ∧ t ρ fun d => ∀ v F' H', Gr e.toDl F H F' H' → k.Ok H F' H' v d → Q v H'
structure PX (X : Cx) (e : Ent) {α : Type} (k : Kd e α) (x : Expr) (t : TX α) : Prop where
  mono : MonoX t
  pe : PE X x (lift X.K e k t)
abbrev PD (X : Cx) (e : Ent) := PX X e (kD X.K e)
abbrev PQ (X : Cx) (e : Ent) := PX X e (kQ X.K e)
abbrev PN (X : Cx) (e : Ent) := PX X e (kN X.K e)
abbrev PR (X : Cx) (e : Ent) := PX X e (kR e)
def liftT (K : PySem.W.Frag) (e : Ent) (t : TX Bool) : TT := fun σ H Q => ∃ F ρ, Rp K e ρ F σ H ∧ t ρ fun b => ∀ F' H', Gr e.toDl F H F' H' → Q b H'
structure PB (X : Cx) (e : Ent) (x : Expr) (t : TX Bool) : Prop where
  mono : MonoX t
  pt : L2.PT X x (liftT X.K e t)
structure PBw (X : Cx) (e : Ent) (x : Expr) (t : TX Bool) : Prop where
  mono : MonoX t
  pw : PW X x (liftT X.K e t)
def liftA (K : PySem.W.Frag) (e : Ent) (t : TX (List D)) : TA := fun σ H Q => ∃ F ρ, Rp K e ρ F σ H ∧ t ρ fun ds => ∀ vs F' H', Gr e.toDl F H F' H' → DpAll K F' vs ds → Q vs H'
structure PAd (X : Cx) (e : Ent) (x : List Expr) (t : TX (List D)) : Prop where
  mono : MonoX t
  pa : PA X x (liftA X.K e t)
section
variable {X : Cx} {e : Ent} {α β γ : Type} {k1 : Kd e α} {k2 : Kd e β} {k3 : Kd e γ} {a b : Expr} {ta : TX α} {tb : TX β} {pos : Pos}
abbrev RX (α β γ : Type) := α → β → (γ → Prop) → Prop
def Mono2 (r : RX α β γ) : Prop := ∀ x y (Q Q' : γ → Prop), (∀ d, Q d → Q' d) → r x y Q → r x y Q'
def xBin (r : RX α β γ) (ta : TX α) (tb : TX β) : TX γ := fun ρ Q => ta ρ fun x => tb ρ fun y => r x y Q
theorem xBin_mono {r : RX α β γ} (mr : Mono2 r) (ma : MonoX ta) (mb : MonoX tb) : MonoX (xBin r ta tb) := fun ρ Q Q' h q => ma ρ _ _ (fun x hx => mb ρ _ _ (fun y hy => mr x y Q Q' h hy) hx) q
/-- what is wanted behind an expression, over data -/
abbrev Fin (k : Kd e γ) (F H : Hp) (Q : VK) : γ → Prop := fun d => ∀ v F' H', Gr e.toDl F H F' H' → k.Ok H F' H' v d → Q v H'
theorem Fin.step {k : Kd e γ} {F H F1 H1 : Hp} {Q : VK} {d : γ} (r : e.toDl.Ok F H) (g : Gr e.toDl F H F1 H1) (h : Fin k F H Q d) : Fin k F1 H1 Q d := fun v F' H' g' q => h v F' H' (g.trans r g') (k.weak g q)
theorem seq2 {K : PySem.W.Frag} {r : RX α β γ} (mr : Mono2 r) (ma : MonoX ta) (mb : MonoX tb) {σ : L2.St} {H : Hp} {Q : VK}
    (h : lift K e k3 (xBin r ta tb) σ H Q) {R : V → V → Hp → Prop}
    (k : ∀ ρ F H0 H1 H2 v w x y, Rp K e ρ F σ H2 → k1.Ok H0 F H2 v x → k2.Ok H1 F H2 w y → r x y (Fin k3 F H2 Q) → R v w H2) :
    lift K e k1 ta σ H fun v H1 => lift K e k2 tb σ H1 fun w H2 => R v w H2 := by
  obtain ⟨F, ρ, rp, q⟩ := h
  refine ⟨F, ρ, rp, ma ρ _ _ (fun x hx v F1 H1 s1 d1 => ?_) q⟩
  refine ⟨F1, ρ, rp.step s1, mb ρ _ _ (fun y hy w F2 H2 s2 d2 => ?_) hx⟩
  exact k ρ F2 H H1 H2 v w x y ((rp.step s1).step s2) (k1.step s2 d1) d2 (mr x y _ _ (fun d hd => Fin.step rp.ok (s1.trans rp.ok s2) hd) hy)
theorem px_op {op : Operator} {r : R2} {rd : RX α β γ} (ho : OpR X (binaryOp op) r) (mr : Mono2 rd) (ha : PX X e k1 a ta) (hb : PX X e k2 b tb)
    (k : ∀ ρ F σ H0 H1 H v w x y Q, Rp X.K e ρ F σ H → k1.Ok H0 F H v x → k2.Ok H1 F H w y → rd x y (Fin k3 F H Q) → r v w H Q) : PX X e k3 (.BinOp a op b pos) (xBin rd ta tb) :=
  ⟨xBin_mono mr ha.mono hb.mono, imp (pe_op ho ha.pe hb.pe) fun σ H Q h => seq2 mr ha.mono hb.mono h fun ρ F H0 H1 H2 v w x y rp dv dw q => k ρ F σ H0 H1 H2 v w x y Q rp dv dw q⟩
/-- a comparison -/
structure PCx (X : Cx) (e : Ent) (op : CmpOp) (a b : Expr) (t : TX D) : Prop where
  mono : MonoX t
  pc : PC X op a b (lift X.K e (kD X.K e) t)
theorem px_cmp {op : CmpOp} {r : R2} {rd : RX α β D} (ho : OpR X (compareOp op) r) (mr : Mono2 rd) (ha : PX X e k1 a ta) (hb : PX X e k2 b tb)
    (k : ∀ ρ F σ H0 H1 H v w x y Q, Rp X.K e ρ F σ H → k1.Ok H0 F H v x → k2.Ok H1 F H w y → rd x y (Fin (kD X.K e) F H Q) → r v w H Q) : PCx X e op a b (xBin rd ta tb) :=
  ⟨xBin_mono mr ha.mono hb.mono, ⟨fun pins s σ H Q I h => binT ha.pe hb.pe I (seq2 (k3 := kD X.K e) (R := fun v w H2 => r v w H2 Q) mr ha.mono hb.mono h fun ρ F H0 H1 H2 v w x y rp dv dw q => k ρ F σ H0 H1 H2 v w x y Q rp dv dw q) fun v u s2 x y H2 I2 rx ry q => ho pins s2 σ H2 x y v u Q I2 rx ry q⟩⟩
theorem pd_c {op : CmpOp} {t : TX D} (h : PCx X e op a b t) (hm : behindInMarks op b = false) : PD X e (.Compare a [op] [b] pos) t := ⟨h.mono, pe_cmp h.pc hm⟩
def boolOf (d : D) (Q : Bool → Prop) : Prop := match d with | .bool c => Q c | _ => False
def xB (t : TX D) : TX Bool := fun ρ Q => t ρ fun d => boolOf d Q
theorem boolOf_mono {d : D} {Q Q' : Bool → Prop} (h : ∀ c, Q c → Q' c) (q : boolOf d Q) : boolOf d Q' := by
  unfold boolOf at q ⊢
  split at q
  · exact h _ q
  · exact q.elim
theorem xB_mono {t : TX D} (m : MonoX t) : MonoX (xB t) := fun ρ Q Q' h q => m ρ _ _ (fun d hd => boolOf_mono h hd) q
theorem px_ix {r : R2} {rd : RX α β γ} (ho : IxR X r) (mr : Mono2 rd) (ha : PX X e k1 a ta) (hb : PX X e k2 b tb) (hs : PlainIx b)
    (k : ∀ ρ F σ H0 H1 H v w x y Q, Rp X.K e ρ F σ H → k1.Ok H0 F H v x → k2.Ok H1 F H w y → rd x y (Fin k3 F H Q) → r v w H Q) : PX X e k3 (.Subscript a b pos) (xBin rd ta tb) :=
  ⟨xBin_mono mr ha.mono hb.mono, imp (pe_ix ho ha.pe hb.pe hs) fun σ H Q h => seq2 mr ha.mono hb.mono h fun ρ F H0 H1 H2 v w x y rp dv dw q => k ρ F σ H0 H1 H2 v w x y Q rp dv dw q⟩
abbrev R1 (α γ : Type) := α → (γ → Prop) → Prop
def Mono1 (r : R1 α γ) : Prop := ∀ x (Q Q' : γ → Prop), (∀ d, Q d → Q' d) → r x Q → r x Q'
def xUn (r : R1 α γ) (ta : TX α) : TX γ := fun ρ Q => ta ρ fun x => r x Q
theorem xUn_mono {r : R1 α γ} (mr : Mono1 r) (ma : MonoX ta) : MonoX (xUn r ta) := fun ρ Q Q' h q => ma ρ _ _ (fun x hx => mr x Q Q' h hx) q
theorem seq1 {K : PySem.W.Frag} {r : R1 α γ} (mr : Mono1 r) (ma : MonoX ta) {σ : L2.St} {H : Hp} {Q : VK} (h : lift K e k3 (xUn r ta) σ H Q) {R : V → Hp → Prop}
    (k : ∀ ρ F H0 H2 v x, Rp K e ρ F σ H2 → k1.Ok H0 F H2 v x → r x (Fin k3 F H2 Q) → R v H2) : lift K e k1 ta σ H R := by
  obtain ⟨F, ρ, rp, q⟩ := h
  refine ⟨F, ρ, rp, ma ρ _ _ (fun x hx v F1 H1 s1 d1 => ?_) q⟩
  exact k ρ F1 H H1 v x (rp.step s1) d1 (mr x _ _ (fun d hd => Fin.step rp.ok s1 hd) hx)
theorem px_un {op : UnaryOp} {r : V → Hp → VK → Prop} {rd : R1 α γ} (ho : UnR X (unaryOp op) r) (mr : Mono1 rd) (ha : PX X e k1 a ta)
    (k : ∀ ρ F σ H0 H v x Q, Rp X.K e ρ F σ H → k1.Ok H0 F H v x → rd x (Fin k3 F H Q) → r v H Q) : PX X e k3 (.UnaryOp op a pos) (xUn rd ta) :=
  ⟨xUn_mono mr ha.mono, imp (pe_un ho ha.pe) fun σ H Q h => seq1 mr ha.mono h fun ρ F H0 H2 v x rp dv q => k ρ F σ H0 H2 v x Q rp dv q⟩
/-- an argument list of one -/
theorem seqA1 {K : PySem.W.Frag} {r : R1 α γ} (mr : Mono1 r) (ma : MonoX ta) {σ : L2.St} {H : Hp} {Q : VK} (h : lift K e k3 (xUn r ta) σ H Q) {R : List V → Hp → Prop}
    (k : ∀ ρ F H0 H2 v x, Rp K e ρ F σ H2 → k1.Ok H0 F H2 v x → r x (Fin k3 F H2 Q) → R [v] H2) : tCons (lift K e k1 ta) tNil σ H R :=
  seq1 (R := fun v H1 => R [v] H1) mr ma h k
theorem px_b1 {id : String} {x : Str} {p : Pos} {r : List V → Hp → VK → Prop} {rd : R1 α γ} (hc : CallR X (.builtin id) r) (hg : Gl X x) (hm : X.mg x = none) (hv : bootBuiltins x = some (.builtin id)) (mr : Mono1 rd) (ha : PX X e k1 a ta)
    (k : ∀ ρ F σ H0 H v x Q, Rp X.K e ρ F σ H → k1.Ok H0 F H v x → rd x (Fin k3 F H Q) → r [v] H Q) (hn : x ≠ "__name__" := by decide) (hd : (x == ("__debug__" : Str)) = false := by decide)
    (he : starEach [a] X.env = (false, eval a X.env) :: starEach [] X.env := by rfl) (hpl : (backTo pos (starEach [] X.env)).any (·.1) = false := by rfl) : PX X e k3 (.Call (.Name x p) [a] [] pos) (xUn rd ta) :=
  ⟨xUn_mono mr ha.mono, imp (pe_callB hc hg hm hv (pa_cons ha.pe pa_nil he) hn hd he hpl) fun σ H Q h => seqA1 mr ha.mono h fun ρ F H0 H2 v x rp dv q => k ρ F σ H0 H2 v x Q rp dv q⟩
theorem px_ty1 {T : String} {x : Str} {p : Pos} {r : List V → Hp → VK → Prop} {rd : R1 α γ} (hc : CallR X (.type T) r) (hg : Gl X x) (hm : X.mg x = none) (hv : bootBuiltins x = some (.type T)) (mr : Mono1 rd) (ha : PX X e k1 a ta)
    (k : ∀ ρ F σ H0 H v x Q, Rp X.K e ρ F σ H → k1.Ok H0 F H v x → rd x (Fin k3 F H Q) → r [v] H Q) (hn : x ≠ "__name__" := by decide) (hd : (x == ("__debug__" : Str)) = false := by decide)
    (he : starEach [a] X.env = (false, eval a X.env) :: starEach [] X.env := by rfl) (hpl : (backTo pos (starEach [] X.env)).any (·.1) = false := by rfl) : PX X e k3 (.Call (.Name x p) [a] [] pos) (xUn rd ta) :=
  ⟨xUn_mono mr ha.mono, imp (pe_callTy hc hg hm hv (pa_cons ha.pe pa_nil he) hn hd he hpl) fun σ H Q h => seqA1 mr ha.mono h fun ρ F H0 H2 v x rp dv q => k ρ F σ H0 H2 v x Q rp dv q⟩
end
end PL
set_option Elab.async false
set_option linter.all false
set_option maxRecDepth 100000
set_option maxHeartbeats 4000000
namespace PL
open PySem PySem.Spec PyProof.Rows L2
section
variable {X : Cx} {e : Ent} {α β γ : Type} {k1 : Kd e α} {k2 : Kd e β} {k3 : Kd e γ} {a b : Expr} {pos : Pos}
/-- not, if it is asked -/
def ng : Bool → Bool → Bool
  | true, b => !b
  | false, b => b
/-! ### names and constants -/
def xC {α : Type} (d : α) : TX α := fun _ Q => Q d
theorem xC_mono {α : Type} {d : α} : MonoX (xC d) := fun _ _ _ h q => h _ q
theorem lift_now {K : PySem.W.Frag} {k : Kd e α} {d : α} {v : V} {σ : L2.St} {H : Hp} {Q : VK} {t : TX α} (h : lift K e k t σ H Q) (k' : ∀ F ρ, Rp K e ρ F σ H → t ρ (Fin k F H Q) → Q v H) : Q v H := by
  obtain ⟨F, ρ, rp, q⟩ := h
  exact k' F ρ rp q
theorem pd_int {i j} : PD X e (.Constant (.int i) j pos) (xC (.int i)) := ⟨xC_mono, imp pe_int fun σ H Q ⟨F, ρ, rp, q⟩ => q _ F H (.refl rp.ok) (.int _)⟩
theorem pd_bl {i j} : PD X e (.Constant (.bool i) j pos) (xC (.bool i)) := ⟨xC_mono, imp pe_bl fun σ H Q ⟨F, ρ, rp, q⟩ => q _ F H (.refl rp.ok) (.bl _)⟩
theorem pd_non {j} : PD X e (.Constant .none j pos) (xC .none) := ⟨xC_mono, imp pe_non fun σ H Q ⟨F, ρ, rp, q⟩ => q _ F H (.refl rp.ok) .non⟩
theorem pd_str {i j} : PD X e (.Constant (.str i) j pos) (xC (.str i)) := ⟨xC_mono, imp pe_str fun σ H Q ⟨F, ρ, rp, q⟩ => q _ F H (.refl rp.ok) (.str _)⟩
theorem pd_k {v : V} {d : D} (h : PE X a (tC v)) (hd : ∀ F, Dp X.K F v d) : PD X e a (xC d) := ⟨xC_mono, imp h fun σ H Q ⟨F, ρ, rp, q⟩ => q _ F H (.refl rp.ok) (hd F)⟩
theorem pr_k {v : V} (h : PE X a (tC v)) : PR X e a (xC v) := ⟨xC_mono, imp h fun σ H Q ⟨F, ρ, rp, q⟩ => q _ F H (.refl rp.ok) rfl⟩
def xV (i : Nat) : TX D := fun ρ Q => match ρ[i]? with | some (some (.imm d)) => Q d | _ => False
theorem xV_mono {i : Nat} : MonoX (xV i) := fun ρ Q Q' h q => by
  unfold xV at q ⊢
  split at q
  · exact h _ q
  · exact q.elim
theorem xV_of {i : Nat} {ρ : Ev} {Q : D → Prop} (q : xV i ρ Q) : ∃ d, ρ[i]? = some (some (.imm d)) ∧ Q d := by
  unfold xV at q
  split at q
  · rename_i d h
    exact ⟨d, h, q⟩
  · exact q.elim
theorem pd_v {i : Nat} (h : PE X a (tVar i)) : PD X e a (xV i) := ⟨xV_mono, imp h fun σ H Q ⟨F, ρ, rp, q⟩ => by
  obtain ⟨d, h1, q⟩ := xV_of q
  obtain ⟨v, h2, h3⟩ := rp.slots i _ h1
  exact ⟨v, h2, q v F H (.refl rp.ok) h3⟩⟩
def xVR (i : Nat) : TX V := fun ρ Q => match ρ[i]? with | some (some (.raw d)) => Q d | _ => False
theorem pr_v {i : Nat} (h : PE X a (tVar i)) : PR X e a (xVR i) := ⟨fun ρ Q Q' h q => by
  unfold xVR at q ⊢
  split at q
  · exact h _ q
  · exact q.elim, imp h fun σ H Q ⟨F, ρ, rp, q⟩ => by
  unfold xVR at q
  split at q
  · rename_i d h1
    obtain ⟨v, h2, h3⟩ := rp.slots i _ h1
    exact ⟨v, h2, q v F H (.refl rp.ok) h3⟩
  · exact q.elim⟩
/-! ### sequences to be read -/
/-- one's own list by its slot -/
def xVQ (i : Nat) : TX (Bool × List D) := fun ρ Q => match ρ[i]? with | some (some (.own (.lst xs))) => Q (false, xs) | _ => False
theorem pq_v {i : Nat} (h : PE X a (tVar i)) : PQ X e a (xVQ i) := ⟨fun ρ Q Q' h q => by
  unfold xVQ at q ⊢
  split at q
  · exact h _ q
  · exact q.elim, imp h fun σ H Q ⟨F, ρ, rp, q⟩ => by
  unfold xVQ at q
  split at q
  · rename_i xs h1
    obtain ⟨v, h2, a, e1, ⟨vs, e2, e3⟩, e4, e5, e6⟩ := rp.slots i _ h1
    refine ⟨v, h2, q v F H (.refl rp.ok) ⟨a, vs, e1, ?_, e3⟩⟩
    rw [if_neg Bool.false_ne_true]
    exact SqL.of (msk_some.mpr ⟨e6, e2⟩)
  · exact q.elim⟩
def seqOf (d : D) (Q : Bool × List D → Prop) : Prop := match d with | .tuple xs => Q (true, xs) | .list xs => Q (false, xs) | _ => False
def xQ (ta : TX D) : TX (Bool × List D) := fun ρ Q => ta ρ fun d => seqOf d Q
theorem seqOf_mono {d : D} {Q Q' : Bool × List D → Prop} (h : ∀ d, Q d → Q' d) (q : seqOf d Q) : seqOf d Q' := by
  unfold seqOf at q ⊢
  split at q
  · exact h _ q
  · exact h _ q
  · exact q.elim
theorem seqOk_dp {K : PySem.W.Frag} {e : Dl} {F H : Hp} {v : V} {d : D} {Q : Bool × List D → Prop} (ok : e.Ok F H) (h : Dp K F v d) (q : seqOf d Q) : ∃ b xs, SeqOk K e.M F H v b xs ∧ Q (b, xs) := by
  unfold seqOf at q
  split at q
  · cases h with
    | tup h1 h2 => exact ⟨true, _, ⟨_, _, rfl, by rw [if_pos rfl]; exact SqTmono ok.msk h1, h2⟩, q⟩
  · cases h with
    | lst h1 h2 => exact ⟨false, _, ⟨_, _, rfl, by rw [if_neg Bool.false_ne_true]; exact SqLmono ok.msk h1, h2⟩, q⟩
  · exact q.elim
theorem pq_d {ta : TX D} (h : PD X e a ta) : PQ X e a (xQ ta) := ⟨fun ρ Q Q' k q => h.mono ρ _ _ (fun d hd => seqOf_mono k hd) q, imp h.pe fun σ H Q ⟨F, ρ, rp, q⟩ => ⟨F, ρ, rp, h.mono ρ _ _ (fun d hd v F' H' g dv => by
    obtain ⟨b, xs, h1, h2⟩ := seqOk_dp (K := X.K) g.ok dv hd
    exact h2 v F' H' g h1) q⟩⟩
def lstOf (o : OC) (Q : List D → Prop) : Prop := match o with | .lst xs => Q xs | _ => False
theorem lstOf_mono {o : OC} {Q Q' : List D → Prop} (h : ∀ d, Q d → Q' d) (q : lstOf o Q) : lstOf o Q' := by
  cases o with
  | lst xs => exact h _ q
  | dic kvs => exact q
def xNQ (ta : TX OC) : TX (Bool × List D) := fun ρ Q => ta ρ fun d => lstOf d fun xs => Q (false, xs)
theorem pq_n {ta : TX OC} (h : PN X e a ta) : PQ X e a (xNQ ta) := ⟨fun ρ Q Q' k q => h.mono ρ _ _ (fun d hd => lstOf_mono (fun xs => k _) hd) q, imp h.pe fun σ H Q ⟨F, ρ, rp, q⟩ => ⟨F, ρ, rp, h.mono ρ _ _ (fun d hd v F' H' g dv => by
    cases d with
    | dic kvs => exact (show False from hd).elim
    | lst xs =>
      obtain ⟨a, e1, ⟨vs, e2, e3⟩, e4, e5, e6⟩ := dv
      exact (show Fin (kQ X.K e) F H Q (false, xs) from hd) v F' H' g ⟨a, vs, e1, by rw [if_neg Bool.false_ne_true]; exact SqL.of (msk_some.mpr ⟨e6, e2⟩), e3⟩) q⟩⟩
/-- a fresh list is frozen -/
def xND (ta : TX OC) : TX D := fun ρ Q => ta ρ fun d => lstOf d fun xs => Q (.list xs)
theorem pd_n {ta : TX OC} (h : PN X e a ta) : PD X e a (xND ta) := ⟨fun ρ Q Q' k q => h.mono ρ _ _ (fun d hd => lstOf_mono (fun xs => k _) hd) q, imp h.pe fun σ H Q ⟨F, ρ, rp, q⟩ => ⟨F, ρ, rp, h.mono ρ _ _ (fun d hd v F' H' g dv => by
    cases d with
    | dic kvs => exact (show False from hd).elim
    | lst xs =>
      obtain ⟨a, e1, ⟨vs, e2, e3⟩, e4, e5, e6⟩ := dv
      subst e1
      exact (show Fin (kD X.K e) F H Q (.list xs) from hd) _ (upd F' a (.lst vs)) H' (Gr.freeze rp.ok g e2 e5 e4 e6) (.lst (SqL.of upd_same) (dpAllMono (sameNew e4) xs e3))) q⟩⟩
theorem SeqOk.list {K : PySem.W.Frag} {M : Addr → Prop} {F H : Hp} {v : V} {xs : List D} (h : SeqOk K M F H v false xs) : ∃ a vs, v = .ref a ∧ SqL K H a vs ∧ DpAll K F vs xs := by
  obtain ⟨a, vs, e1, e2, e3⟩ := h
  rw [if_neg Bool.false_ne_true] at e2
  exact ⟨a, vs, e1, SqLmono msk_sub e2, e3⟩
theorem SeqOk.tup {K : PySem.W.Frag} {M : Addr → Prop} {F H : Hp} {v : V} {xs : List D} (h : SeqOk K M F H v true xs) : ∃ a vs, v = .ref a ∧ SqT K H a vs ∧ DpAll K F vs xs := by
  obtain ⟨a, vs, e1, e2, e3⟩ := h
  rw [if_pos rfl] at e2
  exact ⟨a, vs, e1, SqTmono msk_sub e2, e3⟩
theorem SeqOk.both {K : PySem.W.Frag} {M : Addr → Prop} {F H : Hp} {v : V} {b : Bool} {xs : List D} (h : SeqOk K M F H v b xs) : ∃ a vs, v = .ref a ∧ (SqL K H a vs ∨ SqT K H a vs) ∧ DpAll K F vs xs := by
  cases b with
  | true =>
    obtain ⟨a, vs, e1, e2, e3⟩ := h.tup
    exact ⟨a, vs, e1, .inr e2, e3⟩
  | false =>
    obtain ⟨a, vs, e1, e2, e3⟩ := h.list
    exact ⟨a, vs, e1, .inl e2, e3⟩
/-! ### ints -/
def CMod (_ j : Int) : Prop := 0 < j
def CShr0 (_ j : Int) : Prop := 0 ≤ j
theorem cm {i j : Int} (h : 0 < j) : CMod i j := h
theorem csh {i j : Int} (h : 0 ≤ j) : CShr0 i j := h
def rdI (C : Int → Int → Prop) (g : Int → Int → D) : RX D D D := fun x y Q => match x, y with | .int i, .int j => C i j ∧ Q (g i j) | _, _ => False
theorem rdI_mono (C g) : Mono2 (rdI C g) := fun x y Q Q' h q => by
  unfold rdI at q ⊢
  split at q
  · exact ⟨q.1, h _ q.2⟩
  · exact q.elim
theorem rdI_of {C g} {x y : D} {Q : D → Prop} (q : rdI C g x y Q) : ∃ i j, x = .int i ∧ y = .int j ∧ C i j ∧ Q (g i j) := by
  unfold rdI at q
  split at q
  · exact ⟨_, _, rfl, rfl, q⟩
  · exact q.elim
variable {ta tb : TX D}
theorem pd_i {op : Operator} {C : Int → Int → Prop} {g : Int → Int → Int} (ho : OpR X (binaryOp op) (rI C fun i j => .int (g i j))) (ha : PD X e a ta) (hb : PD X e b tb) : PD X e (.BinOp a op b pos) (xBin (rdI C fun i j => .int (g i j)) ta tb) :=
  px_op ho (rdI_mono _ _) ha hb fun ρ F σ H0 H1 H v w x y Q rp dv dw q => by
    obtain ⟨i, j, rfl, rfl, c, q⟩ := rdI_of q
    cases dv
    cases dw
    exact ⟨i, j, rfl, rfl, c, q _ F H (.refl rp.ok) (.int _)⟩
def rd0 (g : Int → Int → D) : RX D D D := fun x y Q => match x, y with | .int i, .int j => Q (g i j) | _, _ => False
theorem rd0_mono (g) : Mono2 (rd0 g) := fun x y Q Q' h q => by
  unfold rd0 at q ⊢
  split at q
  · exact h _ q
  · exact q.elim
theorem rd0_of {g} {x y : D} {Q : D → Prop} (q : rd0 g x y Q) : ∃ i j, x = .int i ∧ y = .int j ∧ Q (g i j) := by
  unfold rd0 at q
  split at q
  · exact ⟨_, _, rfl, rfl, q⟩
  · exact q.elim
theorem pd_i0 {op : Operator} {g : Int → Int → Int} (ho : OpR X (binaryOp op) (rI0 fun i j => .int (g i j))) (ha : PD X e a ta) (hb : PD X e b tb) : PD X e (.BinOp a op b pos) (xBin (rd0 fun i j => .int (g i j)) ta tb) :=
  px_op ho (rd0_mono _) ha hb fun ρ F σ H0 H1 H v w x y Q rp dv dw q => by
    obtain ⟨i, j, rfl, rfl, q⟩ := rd0_of q
    cases dv
    cases dw
    exact ⟨i, j, rfl, rfl, q _ F H (.refl rp.ok) (.int _)⟩
theorem pc_0 {op : CmpOp} {g : Int → Int → Bool} (ho : OpR X (compareOp op) (rI0 fun i j => .bl (g i j))) (ha : PD X e a ta) (hb : PD X e b tb) : PCx X e op a b (xBin (rd0 fun i j => .bool (g i j)) ta tb) :=
  px_cmp ho (rd0_mono _) ha hb fun ρ F σ H0 H1 H v w x y Q rp dv dw q => by
    obtain ⟨i, j, rfl, rfl, q⟩ := rd0_of q
    cases dv
    cases dw
    exact ⟨i, j, rfl, rfl, q _ F H (.refl rp.ok) (.bl _)⟩
theorem pd_add (ha : PD X e a ta) (hb : PD X e b tb) : PD X e (.BinOp a .Add b pos) (xBin (rd0 fun i j => .int (i + j)) ta tb) := pd_i0 op_add ha hb
theorem pd_sub (ha : PD X e a ta) (hb : PD X e b tb) : PD X e (.BinOp a .Sub b pos) (xBin (rd0 fun i j => .int (i - j)) ta tb) := pd_i0 op_sub ha hb
theorem pd_mul (ha : PD X e a ta) (hb : PD X e b tb) : PD X e (.BinOp a .Mult b pos) (xBin (rdI CMul fun i j => .int (i * j)) ta tb) := pd_i op_mul ha hb
theorem pd_mulW (ha : PD X e a ta) (hb : PD X e b tb) : PD X e (.BinOp a .Mult b pos) (xBin (rdI CMulW fun i j => .int (i * j)) ta tb) := pd_i op_mulW ha hb
theorem pd_fdiv (ha : PD X e a ta) (hb : PD X e b tb) : PD X e (.BinOp a .FloorDiv b pos) (xBin (rdI CDiv fun i j => .int (i / j)) ta tb) := pd_i op_fdiv ha hb
theorem pd_fdivW (ha : PD X e a ta) (hb : PD X e b tb) : PD X e (.BinOp a .FloorDiv b pos) (xBin (rdI CDivW fun i j => .int (i / j)) ta tb) := pd_i op_fdivW ha hb
theorem pd_mod (ha : PD X e a ta) (hb : PD X e b tb) : PD X e (.BinOp a .Mod b pos) (xBin (rdI CMod fun i j => .int (i % j)) ta tb) := pd_i (C := CMod) op_mod ha hb
theorem pd_pow (ha : PD X e a ta) (hb : PD X e b tb) : PD X e (.BinOp a .Pow b pos) (xBin (rdI CPow fun i j => .int (i ^ j.toNat)) ta tb) := pd_i op_pow ha hb
theorem pd_shr (ha : PD X e a ta) (hb : PD X e b tb) : PD X e (.BinOp a .RShift b pos) (xBin (rdI CShr0 fun i j => .int (i / 2 ^ j.toNat)) ta tb) := pd_i (C := CShr0) op_shr ha hb
theorem pc_lt (ha : PD X e a ta) (hb : PD X e b tb) : PCx X e .Lt a b (xBin (rd0 fun i j => .bool (decide (i < j))) ta tb) := pc_0 op_lt ha hb
theorem pc_le (ha : PD X e a ta) (hb : PD X e b tb) : PCx X e .LtE a b (xBin (rd0 fun i j => .bool (decide (i ≤ j))) ta tb) := pc_0 op_le ha hb
theorem pc_gt (ha : PD X e a ta) (hb : PD X e b tb) : PCx X e .Gt a b (xBin (rd0 fun i j => .bool (decide (j < i))) ta tb) := pc_0 op_gt ha hb
theorem pc_ge (ha : PD X e a ta) (hb : PD X e b tb) : PCx X e .GtE a b (xBin (rd0 fun i j => .bool (decide (j ≤ i))) ta tb) := pc_0 op_ge ha hb
def rdNeg : R1 D D := fun x Q => match x with | .int i => Q (.int (-i)) | _ => False
theorem rdNeg_mono : Mono1 rdNeg := fun x Q Q' h q => by
  unfold rdNeg at q ⊢
  split at q
  · exact h _ q
  · exact q.elim
theorem pd_neg (ha : PD X e a ta) : PD X e (.UnaryOp .USub a pos) (xUn rdNeg ta) :=
  px_un un_neg rdNeg_mono ha fun ρ F σ H0 H v x Q rp dv q => by
    unfold rdNeg at q
    split at q
    · cases dv
      exact ⟨_, rfl, q _ F H (.refl rp.ok) (.int _)⟩
    · exact q.elim
/-! ### == and != -/
def rdEq (neg : Bool) : RX D D D := fun x y Q => SeqAt.shaped x = true ∧ SeqAt.shaped y = true ∧ Q (.bool (ng neg (PyData.eqv x y)))
theorem rdEq_mono (neg : Bool) : Mono2 (rdEq neg) := fun x y Q Q' h q => ⟨q.1, q.2.1, h _ q.2.2⟩
theorem pc_eqD (hu : X.A.units + 64 < cLine) (ha : PD X e a ta) (hb : PD X e b tb) : PCx X e .Eq a b (xBin (rdEq false) ta tb) :=
  px_cmp (op_eqD hu) (rdEq_mono _) ha hb fun ρ F σ H0 H1 H v w x y Q rp dv dw q => by
    obtain ⟨s1, s2, q⟩ := q
    refine ⟨x, y, dpMono rp.sub x dv, dpMono rp.sub y dw, s1, s2, ?_⟩
    have := q _ F H (.refl rp.ok) (.bl _)
    simpa [ng] using this
theorem pc_neD (hu : X.A.units + 64 < cLine) (ha : PD X e a ta) (hb : PD X e b tb) : PCx X e .NotEq a b (xBin (rdEq true) ta tb) :=
  px_cmp (op_neD hu) (rdEq_mono _) ha hb fun ρ F σ H0 H1 H v w x y Q rp dv dw q => by
    obtain ⟨s1, s2, q⟩ := q
    refine ⟨x, y, dpMono rp.sub x dv, dpMono rp.sub y dw, s1, s2, ?_⟩
    have := q _ F H (.refl rp.ok) (.bl _)
    simpa [ng] using this
/-- == and != of plain values -/
def plainD : D → Option V
  | .none => some .non
  | .bool b => some (.bl b)
  | .int i => some (.int i)
  | .str x => some (.str x)
  | _ => none
theorem plainD_of {K : PySem.W.Frag} {F : Hp} {v w : V} {x : D} (h : plainD x = some w) (d : Dp K F v x) : v = w := by
  cases d <;> simp [plainD] at h <;> exact h
def eqP : D → D → Option Bool
  | .none, .none => some true | .none, .int _ => some false | .int _, .none => some false | .none, .bool _ => some false | .bool _, .none => some false | .none, .str _ => some false | .str _, .none => some false
  | .int i, .int j => some (decide (i = j)) | .bool i, .bool j => some (decide (i = j)) | .str i, .str j => some (decide (i = j))
  | .int _, .str _ => some false | .str _, .int _ => some false | .bool _, .str _ => some false | .str _, .bool _ => some false
  | _, _ => none
theorem eqP_of {K : PySem.W.Frag} {F : Hp} {v w : V} {x y : D} {b : Bool} (h : eqP x y = some b) (d : Dp K F v x) (d' : Dp K F w y) : scal v w = true ∧ b = decide (v = w) := by
  cases d <;> cases d' <;> simp [eqP] at h <;> first | (subst h; simp [scal]) | skip
def rdEqP (neg : Bool) : RX D D D := fun x y Q => match eqP x y with
  | some b => Q (.bool (ng neg b))
  | _ => False
theorem rdEqP_mono (neg : Bool) : Mono2 (rdEqP neg) := fun x y Q Q' h q => by
  unfold rdEqP at q ⊢
  split at q
  · exact h _ q
  · exact q.elim
theorem rdEqP_of {neg : Bool} {x y : D} {Q : D → Prop} (q : rdEqP neg x y Q) : ∃ b, eqP x y = some b ∧ Q (.bool (ng neg b)) := by
  unfold rdEqP at q
  split at q
  · rename_i b h1
    exact ⟨b, h1, q⟩
  · exact q.elim
theorem pc_eq (ha : PD X e a ta) (hb : PD X e b tb) : PCx X e .Eq a b (xBin (rdEqP false) ta tb) :=
  px_cmp op_eq (rdEqP_mono _) ha hb fun ρ F σ H0 H1 H v w x y Q rp dv dw q => by
    obtain ⟨c, h1, q⟩ := rdEqP_of q
    obtain ⟨s1, rfl⟩ := eqP_of h1 dv dw
    refine ⟨s1, ?_⟩
    have := q _ F H (.refl rp.ok) (.bl _)
    simpa [ng] using this
theorem pc_ne (ha : PD X e a ta) (hb : PD X e b tb) : PCx X e .NotEq a b (xBin (rdEqP true) ta tb) :=
  px_cmp op_ne (rdEqP_mono _) ha hb fun ρ F σ H0 H1 H v w x y Q rp dv dw q => by
    obtain ⟨c, h1, q⟩ := rdEqP_of q
    obtain ⟨s1, rfl⟩ := eqP_of h1 dv dw
    refine ⟨s1, ?_⟩
    have := q _ F H (.refl rp.ok) (.bl _)
    simpa [ng] using this
/-- x is None -/
def isNone : D → Bool
  | .none => true
  | _ => false
def rdIs (neg : Bool) : RX D D D := fun x y Q => match y with | .none => Q (.bool (ng neg (isNone x))) | _ => False
theorem rdIs_mono (neg : Bool) : Mono2 (rdIs neg) := fun x y Q Q' h q => by
  unfold rdIs at q ⊢
  split at q
  · exact h _ q
  · exact q.elim
theorem isNone_of {K : PySem.W.Frag} {F : Hp} {v : V} {x : D} (d : Dp K F v x) : isNone x = decide (v = .non) := by
  cases d <;> simp [isNone]
theorem pc_is (ha : PD X e a ta) (hb : PD X e b tb) : PCx X e .Is a b (xBin (rdIs false) ta tb) :=
  px_cmp op_isN (rdIs_mono _) ha hb fun ρ F σ H0 H1 H v w x y Q rp dv dw q => by
    unfold rdIs at q
    split at q
    · cases dw
      refine ⟨rfl, ?_⟩
      have := q _ F H (.refl rp.ok) (.bl _)
      simpa [ng, isNone_of dv] using this
    · exact q.elim
theorem pc_isnt (ha : PD X e a ta) (hb : PD X e b tb) : PCx X e .IsNot a b (xBin (rdIs true) ta tb) :=
  px_cmp op_notN (rdIs_mono _) ha hb fun ρ F σ H0 H1 H v w x y Q rp dv dw q => by
    unfold rdIs at q
    split at q
    · cases dw
      refine ⟨rfl, ?_⟩
      have := q _ F H (.refl rp.ok) (.bl _)
      simpa [ng, isNone_of dv] using this
    · exact q.elim
/-! ### subscripts -/
def someOf {α : Type} (o : Option α) (Q : α → Prop) : Prop := match o with | some x => Q x | none => False
theorem someOf_mono {α : Type} {o : Option α} {Q Q' : α → Prop} (h : ∀ k, Q k → Q' k) (q : someOf o Q) : someOf o Q' := by
  cases o with
  | none => exact q
  | some x => exact h _ q
theorem someOf_of {α : Type} {o : Option α} {Q : α → Prop} (q : someOf o Q) : ∃ x, o = some x ∧ Q x := by
  cases o with
  | none => exact q.elim
  | some x => exact ⟨x, rfl, q⟩
theorem someTo {α : Type} {o : Option α} {d : α} {Q : α → Prop} (h : o = some d) (q : Q d) : someOf o Q := by
  rw [h]
  exact q
def rdIx : RX (Bool × List D) D D := fun x y Q => match y with | .int i => someOf (atI x.2 i) Q | _ => False
theorem rdIx_mono : Mono2 rdIx := fun x y Q Q' h q => by
  cases y with
  | int i => exact someOf_mono h q
  | _ => exact q
theorem rdIx_of {x : Bool × List D} {y : D} {Q : D → Prop} (q : rdIx x y Q) : ∃ i d, y = .int i ∧ atI x.2 i = some d ∧ Q d := by
  cases y with
  | int i =>
    obtain ⟨d, h, q⟩ := someOf_of (show someOf (atI x.2 i) Q from q)
    exact ⟨i, d, rfl, h, q⟩
  | _ => exact (show False from q).elim
def ixB (X : Cx) : R2 := fun x y H Q => rIxL X.K x y H Q ∨ rIxT X.K x y H Q
theorem ix_both : IxR X (ixB X) := IxR.or ix_list ix_tup
theorem pd_ix {tq : TX (Bool × List D)} (ha : PQ X e a tq) (hb : PD X e b tb) (hs : PlainIx b) : PD X e (.Subscript a b pos) (xBin rdIx tq tb) :=
  px_ix ix_both rdIx_mono ha hb hs fun ρ F σ H0 H1 H v w x y Q rp dv dw q => by
    obtain ⟨i, d, rfl, h, q⟩ := rdIx_of q
    cases dw
    obtain ⟨p, vs, e1, e2, e3⟩ := SeqOk.both dv
    obtain ⟨u, h1, h2⟩ := DpAll.atI e3 h
    rcases e2 with e2 | e2
    · exact .inl ⟨p, vs, i, u, e1, rfl, e2, h1, q _ F H (.refl rp.ok) h2⟩
    · exact .inr ⟨p, vs, i, u, e1, rfl, e2, h1, q _ F H (.refl rp.ok) h2⟩
def rdIxS : RX D D D := fun x y Q => match x, y with | .str z, .int i => z.length ≤ sizeLine ∧ (match atI z.cps.toList i with | some c => Q (.str ⟨#[c]⟩) | none => False) | _, _ => False
theorem rdIxS_mono : Mono2 rdIxS := fun x y Q Q' h q => by
  unfold rdIxS at q ⊢
  split at q
  · refine ⟨q.1, ?_⟩
    have q := q.2
    split at q
    · exact h _ q
    · exact q.elim
  · exact q.elim
theorem pd_ixS (ha : PD X e a ta) (hb : PD X e b tb) (hs : PlainIx b) : PD X e (.Subscript a b pos) (xBin rdIxS ta tb) :=
  px_ix ix_str rdIxS_mono ha hb hs fun ρ F σ H0 H1 H v w x y Q rp dv dw q => by
    unfold rdIxS at q
    split at q
    · obtain ⟨q1, q⟩ := q
      split at q
      · rename_i c hc
        cases dv
        cases dw
        exact ⟨_, _, c, rfl, rfl, q1, hc, q _ F H (.refl rp.ok) (.str _)⟩
      · exact q.elim
    · exact q.elim
end
end PL
set_option Elab.async false
set_option linter.all false
set_option maxRecDepth 100000
set_option maxHeartbeats 4000000
namespace PL
open PySem PySem.Spec PyProof.Rows L2
section
variable {X : Cx} {e : Ent} {α β γ : Type} {k1 : Kd e α} {k2 : Kd e β} {k3 : Kd e γ} {a b c : Expr} {rest : List Expr} {pos : Pos} {ta tb : TX D} {sa sb sc : TX Bool} {tq tq2 : TX (Bool × List D)}
/-! ### tests -/
abbrev FinB (e : Ent) (F H : Hp) (Q : Bool → Hp → Prop) : Bool → Prop := fun b => ∀ F' H', Gr e.toDl F H F' H' → Q b H'
theorem FinB.step {F H F1 H1 : Hp} {Q : Bool → Hp → Prop} {c : Bool} (r : e.toDl.Ok F H) (g : Gr e.toDl F H F1 H1) (h : FinB e F H Q c) : FinB e F1 H1 Q c := fun F' H' g' => h F' H' (g.trans r g')
theorem pb_c {op : CmpOp} {t : TX D} (h : PCx X e op a b t) (hm : behindInMarks op b = false) : PB X e (.Compare a [op] [b] pos) (xB t) :=
  ⟨xB_mono h.mono, impT (pt_cmp h.pc hm) fun σ H Q ⟨F, ρ, rp, q⟩ => ⟨F, ρ, rp, h.mono ρ _ _ (fun d hd v F' H' g dv => by
    cases d with
    | bool c =>
      cases dv
      exact ⟨c, rfl, (show FinB e F H Q c from hd) F' H' g⟩
    | _ => exact (show False from hd).elim) q⟩⟩
theorem pb_val (h : PD X e a ta) (he : ∀ whole, isTrue a X.env whole = (do let v ← whole; standAt a.pos; holding [v] (truthy v)) := by intro _; rfl) : PB X e a (xB ta) :=
  ⟨xB_mono h.mono, impT (pt_val h.pe he) fun σ H Q ⟨F, ρ, rp, q⟩ => ⟨F, ρ, rp, h.mono ρ _ _ (fun d hd v F' H' g dv => by
    cases d with
    | bool c =>
      cases dv
      exact ⟨c, rfl, (show FinB e F H Q c from hd) F' H' g⟩
    | _ => exact (show False from hd).elim) q⟩⟩
def truthD : D → Option Bool
  | .none => some false
  | .bool b => some b
  | .int i => some (i != 0)
  | .str z => if z.length ≤ sizeLine then some ((z.length : Int) != 0) else none
  | .list xs => some (!xs.isEmpty)
  | .tuple xs => some (!xs.isEmpty)
  | .dict _ => none
theorem isEmpty_dp {K : PySem.W.Frag} {F : Hp} {vs : List V} {xs : List D} (h : DpAll K F vs xs) : (!vs.isEmpty) = !xs.isEmpty := by
  cases h <;> rfl
theorem truthD_of {K : PySem.W.Frag} {F H : Hp} {v : V} {d : D} {k : Bool} (s : Same F H) (h : truthD d = some k) (dp : Dp K F v d) : TruV K v H k := by
  cases dp with
  | non => exact (Option.some.inj h).symm
  | bl b => exact (Option.some.inj h).symm
  | int i => exact (Option.some.inj h).symm
  | str x =>
    have h : (if x.length ≤ sizeLine then some ((x.length : Int) != 0) else none) = some k := h
    by_cases hz : x.length ≤ sizeLine
    · rw [if_pos hz] at h
      exact ⟨hz, (Option.some.inj h).symm⟩
    · rw [if_neg hz] at h
      cases h
  | lst h1 h2 => exact .inl ⟨_, SqLmono s h1, by rw [isEmpty_dp h2]; exact (Option.some.inj h).symm⟩
  | tup h1 h2 => exact .inr (.inl ⟨_, SqTmono s h1, by rw [isEmpty_dp h2]; exact (Option.some.inj h).symm⟩)
def truOf (d : D) (Q : Bool → Prop) : Prop := match truthD d with | some k => Q k | none => False
def xTr (t : TX D) : TX Bool := fun ρ Q => t ρ fun d => truOf d Q
theorem truOf_mono {d : D} {Q Q' : Bool → Prop} (h : ∀ c, Q c → Q' c) (q : truOf d Q) : truOf d Q' := by
  unfold truOf at q ⊢
  split at q
  · exact h _ q
  · exact q.elim
theorem truOf_of {d : D} {Q : Bool → Prop} (q : truOf d Q) : ∃ k, truthD d = some k ∧ Q k := by
  unfold truOf at q
  split at q
  · rename_i k h
    exact ⟨k, h, q⟩
  · exact q.elim
theorem pb_tr (h : PD X e a ta) (he : ∀ whole, isTrue a X.env whole = (do let v ← whole; standAt a.pos; holding [v] (truthy v))) : PB X e a (xTr ta) :=
  ⟨fun ρ Q Q' k q => h.mono ρ _ _ (fun d hd => truOf_mono k hd) q, impT (pt_truth h.pe he) fun σ H Q ⟨F, ρ, rp, q⟩ => ⟨F, ρ, rp, h.mono ρ _ _ (fun d hd v F' H' g dv => by
    obtain ⟨k, h1, h2⟩ := truOf_of hd
    exact ⟨k, truthD_of g.ok.sub h1 dv, h2 F' H' g⟩) q⟩⟩
def xTrQ (t : TX (Bool × List D)) : TX Bool := fun ρ Q => t ρ fun x => Q (!x.2.isEmpty)
theorem pb_trq (h : PQ X e a tq) (he : ∀ whole, isTrue a X.env whole = (do let v ← whole; standAt a.pos; holding [v] (truthy v))) : PB X e a (xTrQ tq) :=
  ⟨fun ρ Q Q' k q => h.mono ρ _ _ (fun d hd => k _ hd) q, impT (pt_truth h.pe he) fun σ H Q ⟨F, ρ, rp, q⟩ => ⟨F, ρ, rp, h.mono ρ _ _ (fun d hd v F' H' g dv => by
    obtain ⟨p, vs, e1, e2, e3⟩ := SeqOk.both dv
    subst e1
    refine ⟨!vs.isEmpty, ?_, by rw [isEmpty_dp e3]; exact hd F' H' g⟩
    rcases e2 with e2 | e2
    · exact .inl ⟨_, e2, rfl⟩
    · exact .inr (.inl ⟨_, e2, rfl⟩)) q⟩⟩
def xNot (s : TX Bool) : TX Bool := fun ρ Q => s ρ fun k => Q (!k)
theorem pb_not (h : PB X e a sa) : PB X e (.UnaryOp .Not a pos) (xNot sa) :=
  ⟨fun ρ Q Q' k q => h.mono ρ _ _ (fun d hd => k _ hd) q, impT (pt_not h.pt) fun σ H Q ⟨F, ρ, rp, q⟩ => ⟨F, ρ, rp, h.mono ρ _ _ (fun d hd F' H' g => hd F' H' g) q⟩⟩
def xAnd (s t : TX Bool) : TX Bool := fun ρ Q => s ρ fun k => if k = true then t ρ Q else Q false
def xOr (s t : TX Bool) : TX Bool := fun ρ Q => s ρ fun k => if k = true then Q true else t ρ Q
theorem xAnd_mono (ma : MonoX sa) (mb : MonoX sb) : MonoX (xAnd sa sb) := fun ρ Q Q' h q => ma ρ _ _ (fun k hk => by
  cases k with
  | true => rw [if_pos rfl] at hk ⊢; exact mb ρ Q Q' h hk
  | false => rw [if_neg Bool.false_ne_true] at hk ⊢; exact h _ hk) q
theorem xOr_mono (ma : MonoX sa) (mb : MonoX sb) : MonoX (xOr sa sb) := fun ρ Q Q' h q => ma ρ _ _ (fun k hk => by
  cases k with
  | false => rw [if_neg Bool.false_ne_true] at hk ⊢; exact mb ρ Q Q' h hk
  | true => rw [if_pos rfl] at hk ⊢; exact h _ hk) q
theorem impW {x : Expr} {t t' : TT} (h : PW X x t) (k : ∀ σ H Q, t' σ H Q → t σ H Q) : PW X x t' := ⟨fun wh pins s σ H Q I q => h.run wh pins s σ H Q I (k σ H Q q)⟩
theorem pb_w {t : TX Bool} (h : PBw X e a t) : PB X e a t := ⟨h.mono, h.pw.pt⟩
theorem pw_a1 (h : PB X e a sa) : PBw X e (.BoolOp .And [a] pos) sa := ⟨h.mono, pw_and1 h.pt⟩
theorem pw_o1 (h : PB X e a sa) : PBw X e (.BoolOp .Or [a] pos) sa := ⟨h.mono, pw_or1 h.pt⟩
theorem pw_a (h : PB X e a sa) (h2 : PBw X e (.BoolOp .And (b :: rest) pos) sb) : PBw X e (.BoolOp .And (a :: b :: rest) pos) (xAnd sa sb) :=
  ⟨xAnd_mono h.mono h2.mono, impW (pw_and h.pt h2.pw) fun σ H Q ⟨F, ρ, rp, q⟩ => ⟨F, ρ, rp, h.mono ρ _ _ (fun k hk F' H' g => by
    cases k with
    | true =>
      rw [if_pos rfl] at hk
      exact if_pos rfl ▸ ⟨F', ρ, rp.step g, h2.mono ρ _ _ (fun d hd => FinB.step rp.ok g hd) hk⟩
    | false =>
      rw [if_neg Bool.false_ne_true] at hk
      exact if_neg Bool.false_ne_true ▸ hk F' H' g) q⟩⟩
theorem pw_o (h : PB X e a sa) (h2 : PBw X e (.BoolOp .Or (b :: rest) pos) sb) : PBw X e (.BoolOp .Or (a :: b :: rest) pos) (xOr sa sb) :=
  ⟨xOr_mono h.mono h2.mono, impW (pw_or h.pt h2.pw) fun σ H Q ⟨F, ρ, rp, q⟩ => ⟨F, ρ, rp, h.mono ρ _ _ (fun k hk F' H' g => by
    cases k with
    | false =>
      rw [if_neg Bool.false_ne_true] at hk
      exact if_neg Bool.false_ne_true ▸ ⟨F', ρ, rp.step g, h2.mono ρ _ _ (fun d hd => FinB.step rp.ok g hd) hk⟩
    | true =>
      rw [if_pos rfl] at hk
      exact if_pos rfl ▸ hk F' H' g) q⟩⟩
/-! ### and, or, not, a if t else b as values -/
def xAndV (s t : TX D) : TX D := fun ρ Q => s ρ fun d => truOf d fun k => if k = true then t ρ Q else Q d
def xOrV (s t : TX D) : TX D := fun ρ Q => s ρ fun d => truOf d fun k => if k = true then Q d else t ρ Q
theorem pd_one {op} (h : PD X e a ta) : PD X e (.BoolOp op [a] pos) ta := ⟨h.mono, pe_one h.pe⟩
theorem pd_and (h : PD X e a ta) (h2 : PD X e (.BoolOp .And (b :: rest) pos) tb) : PD X e (.BoolOp .And (a :: b :: rest) pos) (xAndV ta tb) :=
  ⟨fun ρ Q Q' h' q => h.mono ρ _ _ (fun d hd => by
    unfold truOf at hd ⊢
    split at hd
    · rename_i k hk
      cases k with
      | true => rw [if_pos rfl] at hd ⊢; exact h2.mono ρ Q Q' h' hd
      | false => rw [if_neg Bool.false_ne_true] at hd ⊢; exact h' _ hd
    · exact hd.elim) q, imp (pe_andT h.pe h2.pe) fun σ H Q ⟨F, ρ, rp, q⟩ => ⟨F, ρ, rp, h.mono ρ _ _ (fun d hd v F' H' g dv => by
    obtain ⟨k, h1, hk⟩ := truOf_of hd
    refine ⟨k, truthD_of g.ok.sub h1 dv, ?_⟩
    cases k with
    | true =>
      rw [if_pos rfl] at hk ⊢
      exact ⟨F', ρ, rp.step g, h2.mono ρ _ _ (fun d hd => Fin.step rp.ok g hd) hk⟩
    | false =>
      rw [if_neg Bool.false_ne_true] at hk ⊢
      exact (show Fin (kD X.K e) F H Q d from hk) v F' H' g dv) q⟩⟩
theorem pd_or (h : PD X e a ta) (h2 : PD X e (.BoolOp .Or (b :: rest) pos) tb) : PD X e (.BoolOp .Or (a :: b :: rest) pos) (xOrV ta tb) :=
  ⟨fun ρ Q Q' h' q => h.mono ρ _ _ (fun d hd => by
    unfold truOf at hd ⊢
    split at hd
    · rename_i k hk
      cases k with
      | false => rw [if_neg Bool.false_ne_true] at hd ⊢; exact h2.mono ρ Q Q' h' hd
      | true => rw [if_pos rfl] at hd ⊢; exact h' _ hd
    · exact hd.elim) q, imp (pe_orT h.pe h2.pe) fun σ H Q ⟨F, ρ, rp, q⟩ => ⟨F, ρ, rp, h.mono ρ _ _ (fun d hd v F' H' g dv => by
    obtain ⟨k, h1, hk⟩ := truOf_of hd
    refine ⟨k, truthD_of g.ok.sub h1 dv, ?_⟩
    cases k with
    | false =>
      rw [if_neg Bool.false_ne_true] at hk ⊢
      exact ⟨F', ρ, rp.step g, h2.mono ρ _ _ (fun d hd => Fin.step rp.ok g hd) hk⟩
    | true =>
      rw [if_pos rfl] at hk ⊢
      exact (show Fin (kD X.K e) F H Q d from hk) v F' H' g dv) q⟩⟩
def xNotV (s : TX D) : TX D := fun ρ Q => s ρ fun d => truOf d fun k => Q (.bool (!k))
theorem pd_not (h : PD X e a ta) : PD X e (.UnaryOp .Not a pos) (xNotV ta) :=
  ⟨fun ρ Q Q' h' q => h.mono ρ _ _ (fun d hd => truOf_mono (fun _ z => h' _ z) hd) q, imp (pe_notT h.pe) fun σ H Q ⟨F, ρ, rp, q⟩ => ⟨F, ρ, rp, h.mono ρ _ _ (fun d hd v F' H' g dv => by
    obtain ⟨k, h1, hk⟩ := truOf_of hd
    exact ⟨k, truthD_of g.ok.sub h1 dv, hk _ F' H' g (.bl _)⟩) q⟩⟩
def xNotQ (s : TX (Bool × List D)) : TX D := fun ρ Q => s ρ fun x => Q (.bool x.2.isEmpty)
theorem pd_notQ (h : PQ X e a tq) : PD X e (.UnaryOp .Not a pos) (xNotQ tq) :=
  ⟨fun ρ Q Q' h' q => h.mono ρ _ _ (fun d hd => h' _ hd) q, imp (pe_notT h.pe) fun σ H Q ⟨F, ρ, rp, q⟩ => ⟨F, ρ, rp, h.mono ρ _ _ (fun d hd v F' H' g dv => by
    obtain ⟨p, vs, e1, e2, e3⟩ := SeqOk.both dv
    subst e1
    refine ⟨!vs.isEmpty, ?_, ?_⟩
    · rcases e2 with e2 | e2
      · exact .inl ⟨_, e2, rfl⟩
      · exact .inr (.inl ⟨_, e2, rfl⟩)
    · rw [isEmpty_dp e3, Bool.not_not]
      exact hd _ F' H' g (.bl _)) q⟩⟩
def xIf {α : Type} (s : TX Bool) (t u : TX α) : TX α := fun ρ Q => s ρ fun k => if k = true then t ρ Q else u ρ Q
theorem px_if {k : Kd e α} {t u : TX α} (hc : PB X e c sc) (h : PX X e k a t) (h2 : PX X e k b u) : PX X e k (.IfExp c a b pos) (xIf sc t u) :=
  ⟨fun ρ Q Q' h' q => hc.mono ρ _ _ (fun k hk => by
    cases k with
    | true => rw [if_pos rfl] at hk ⊢; exact h.mono ρ Q Q' h' hk
    | false => rw [if_neg Bool.false_ne_true] at hk ⊢; exact h2.mono ρ Q Q' h' hk) q, imp (pe_ifExp hc.pt h.pe h2.pe) fun σ H Q ⟨F, ρ, rp, q⟩ => ⟨F, ρ, rp, hc.mono ρ _ _ (fun k hk F' H' g => by
    cases k with
    | true =>
      rw [if_pos rfl] at hk ⊢
      exact ⟨F', ρ, rp.step g, h.mono ρ _ _ (fun d hd => Fin.step rp.ok g hd) hk⟩
    | false =>
      rw [if_neg Bool.false_ne_true] at hk ⊢
      exact ⟨F', ρ, rp.step g, h2.mono ρ _ _ (fun d hd => Fin.step rp.ok g hd) hk⟩) q⟩⟩
/-! ### displays -/
abbrev FinA (K : PySem.W.Frag) (e : Ent) (F H : Hp) (Q : List V → Hp → Prop) : List D → Prop := fun ds => ∀ vs F' H', Gr e.toDl F H F' H' → DpAll K F' vs ds → Q vs H'
variable {es : List Expr} {tl : TX (List D)}
theorem pad_nil : PAd X e [] (xC []) := ⟨xC_mono, impA pa_nil fun σ H Q ⟨F, ρ, rp, q⟩ => q [] F H (.refl rp.ok) .nil⟩
def xCons (t : TX D) (r : TX (List D)) : TX (List D) := fun ρ Q => t ρ fun d => r ρ fun ds => Q (d :: ds)
theorem pad_cons (h : PD X e a ta) (hr : PAd X e es tl) (hs : starEach (a :: es) X.env = (false, eval a X.env) :: starEach es X.env := by rfl) : PAd X e (a :: es) (xCons ta tl) :=
  ⟨fun ρ Q Q' k q => h.mono ρ _ _ (fun d hd => hr.mono ρ _ _ (fun ds hds => k _ hds) hd) q, impA (pa_cons h.pe hr.pa hs) fun σ H Q ⟨F, ρ, rp, q⟩ => ⟨F, ρ, rp, h.mono ρ _ _ (fun d hd v F1 H1 g dv =>
    ⟨F1, ρ, rp.step g, hr.mono ρ _ _ (fun ds hds vs F2 H2 g2 dvs => (show FinA X.K e F H Q (d :: ds) from hds) (v :: vs) F2 H2 (g.trans rp.ok g2) (.cons (dpMono g2.fz d dv) dvs)) hd⟩) q⟩⟩
def xTup (t : TX (List D)) : TX D := fun ρ Q => t ρ fun ds => ds.length ≤ sizeLine ∧ Q (.tuple ds)
theorem pd_tup {x1} (h : PAd X e es tl) : PD X e (.Tuple es x1 pos) (xTup tl) :=
  ⟨fun ρ Q Q' k q => h.mono ρ _ _ (fun d hd => ⟨hd.1, k _ hd.2⟩) q, imp (pe_tup h.pa) fun σ H Q ⟨F, ρ, rp, q⟩ => ⟨F, ρ, rp, h.mono ρ _ _ (fun ds hd vs F1 H1 g dv =>
    ⟨by rw [DpAll.len dv]; exact hd.1, fun p hp => (show Fin (kD X.K e) F H Q (.tuple ds) from hd.2) _ (upd F1 p (.tup vs)) _ (g.trans rp.ok (Gr.newF g.ok rp.stay hp)) (.tup (SqT.of upd_same) (dpAllMono (sameNew (g.ok.sub.free hp)) ds dv))⟩) q⟩⟩
def xLst (t : TX (List D)) : TX OC := fun ρ Q => t ρ fun ds => ds.length ≤ sizeLine ∧ Q (.lst ds)
theorem pn_lst (h : PAd X e es tl) : PN X e (.List es pos) (xLst tl) :=
  ⟨fun ρ Q Q' k q => h.mono ρ _ _ (fun d hd => ⟨hd.1, k _ hd.2⟩) q, imp (pe_lst h.pa) fun σ H Q ⟨F, ρ, rp, q⟩ => ⟨F, ρ, rp, h.mono ρ _ _ (fun ds hd vs F1 H1 g dv =>
    ⟨by rw [DpAll.len dv]; exact hd.1, fun p hp => by
      have g2 := Gr.newO (o := .lst vs) g.ok rp.stay hp
      have g3 := g.trans rp.ok g2
      refine (show Fin (kN X.K e) F H Q (.lst ds) from hd.2) _ F1 _ g3 ⟨p, rfl, ⟨vs, upd_same, dv⟩, g.ok.sub.free hp, ?_, g.ok.fM hp⟩
      cases z : H p with
      | none => rfl
      | some u =>
        have := g.st p u z (g.ok.fM hp)
        rw [hp] at this
        cases this⟩) q⟩⟩
/-! ### + of sequences and texts -/
theorem nOk_new {K : PySem.W.Frag} {ρ : Ev} {F H : Hp} {σ : L2.St} {p : Addr} {vs : List V} {ds : List D} (rp : Rp K e ρ F σ H) (hp : H p = none) (dv : DpAll K F vs ds) : Gr e.toDl F H F (upd H p (.lst vs)) ∧ NOk K e H F (upd H p (.lst vs)) (.ref p) (.lst ds) :=
  ⟨Gr.newO rp.ok rp.stay hp, p, rfl, ⟨vs, upd_same, dv⟩, rp.sub.free hp, hp, rp.ok.fM hp⟩
theorem dOk_new {K : PySem.W.Frag} {ρ : Ev} {F H : Hp} {σ : L2.St} {p : Addr} {vs : List V} {ds : List D} (rp : Rp K e ρ F σ H) (hp : H p = none) (dv : DpAll K F vs ds) : Gr e.toDl F H (upd F p (.tup vs)) (upd H p (.tup vs)) ∧ Dp K (upd F p (.tup vs)) (.ref p) (.tuple ds) :=
  ⟨Gr.newF rp.ok rp.stay hp, .tup (SqT.of upd_same) (dpAllMono (sameNew (rp.sub.free hp)) ds dv)⟩
/-- list + list, any that is read -/
def rCatL (K : PySem.W.Frag) : R2 := fun x y H Q => ∃ l b xs zs, x = .ref l ∧ y = .ref b ∧ SqL K H l xs ∧ SqL K H b zs ∧ xs.length + zs.length ≤ sizeLine ∧ ∀ p, H p = none → Q (.ref p) (upd H p (.lst (xs ++ zs)))
theorem op_catL : OpR X (binaryOp .Add) (rCatL X.K) := by
  intro pins s σ H x y v u Q I rx ry h
  obtain ⟨l, b, xs, zs, rfl, rfl, hH, hB, hz, q⟩ := h
  cases rx
  cases ry
  obtain ⟨its, r, ⟨o1, n1, q1, q2, q3, q4⟩, _⟩ := I.list hH
  obtain ⟨its2, r2, ⟨o2, n2, p1, p2, p3, p4⟩, _⟩ := I.list hB
  have l1 := r.length
  have l2 := r2.length
  obtain ⟨c1, d1, da1, sl1⟩ := o1
  obtain ⟨c2, d2, da2, sl2⟩ := o2
  simp only at q2 q3 q4 p2 p3 p4
  subst q2 q3 q4 p2 p3 p4
  have ea : its.toArray ++ its2.toArray = (its ++ its2).toArray := by simp
  refine concat_meets ⟨_, q1, rfl⟩ ⟨_, p1, rfl⟩ noFill_list_add seq_list_add PySem.F.slot_list_add PySem.F.entry_list_add (PySem.F.args_list_add_2 _ _) (list_addW l b its.toArray its2.toArray n1 n2 none none sl1 sl2 (by rw [List.size_toArray, List.size_toArray]; omega)) ⟨q1, p1, ?_⟩
  rw [ea]
  exact ⟨.ref _, _, I.lnew (t' := s.toks) (r.append r2) (by rw [List.length_append]; omega), rfl, q _ I.fresh⟩
end
end PL
set_option Elab.async false
set_option linter.all false
set_option maxRecDepth 100000
set_option maxHeartbeats 4000000
namespace PL
open PySem PySem.Spec PyProof.Rows L2
section
variable {X : Cx} {e : Ent} {α β γ : Type} {k1 : Kd e α} {k2 : Kd e β} {k3 : Kd e γ} {a b c : Expr} {rest : List Expr} {pos p2 pf : Pos} {ta tb : TX D} {sa sb sc : TX Bool} {tq tq2 : TX (Bool × List D)}
/-! ### + -/
def rdCatL : RX (Bool × List D) (Bool × List D) OC := fun x y Q => x.1 = false ∧ y.1 = false ∧ x.2.length + y.2.length ≤ sizeLine ∧ Q (.lst (x.2 ++ y.2))
theorem pn_cat (ha : PQ X e a tq) (hb : PQ X e b tq2) : PN X e (.BinOp a .Add b pos) (xBin rdCatL tq tq2) :=
  px_op op_catL (fun x y Q Q' h q => ⟨q.1, q.2.1, q.2.2.1, h _ q.2.2.2⟩) ha hb fun ρ F σ H0 H1 H v w x y Q rp dv dw q => by
    obtain ⟨b1, xs⟩ := x
    obtain ⟨b2, ys⟩ := y
    obtain ⟨q1, q2, q3, q⟩ := q
    simp only at q1 q2 q3 q
    subst q1 q2
    obtain ⟨p, vs, rfl, e2, e3⟩ := SeqOk.list dv
    obtain ⟨p', ws, rfl, e2', e3'⟩ := SeqOk.list dw
    refine ⟨p, p', vs, ws, rfl, rfl, e2, e2', by rw [DpAll.len e3, DpAll.len e3']; exact q3, fun n hn => ?_⟩
    obtain ⟨g, k⟩ := nOk_new rp hn (DpAll.app e3 e3')
    exact q _ _ _ g k
def rdCatT : RX D D D := fun x y Q => match x, y with | .tuple xs, .tuple ys => xs.length + ys.length ≤ sizeLine ∧ Q (.tuple (xs ++ ys)) | _, _ => False
theorem pd_cat (ha : PD X e a ta) (hb : PD X e b tb) : PD X e (.BinOp a .Add b pos) (xBin rdCatT ta tb) :=
  px_op op_catA (fun x y Q Q' h q => by
    unfold rdCatT at q ⊢
    split at q
    · exact ⟨q.1, h _ q.2⟩
    · exact q.elim) ha hb fun ρ F σ H0 H1 H v w x y Q rp dv dw q => by
    unfold rdCatT at q
    split at q
    · rename_i xs ys
      cases dv with
      | tup h1 h2 =>
        cases dw with
        | tup h3 h4 =>
          refine ⟨_, _, _, _, rfl, rfl, SqTmono rp.sub h1, SqTmono rp.sub h3, by rw [DpAll.len h2, DpAll.len h4]; exact q.1, fun z => ?_, fun _ z => ?_, fun _ _ p hp => ?_⟩
          · subst z
            have := DpAll.len h2
            have z : xs = [] := List.length_eq_zero_iff.mp this.symm
            subst z
            exact q.2 _ F H (.refl rp.ok) (.tup h3 h4)
          · subst z
            have := DpAll.len h4
            have z : ys = [] := List.length_eq_zero_iff.mp this.symm
            subst z
            refine q.2 _ F H (.refl rp.ok) ?_
            rw [List.append_nil]
            exact .tup h1 h2
          · obtain ⟨g, k⟩ := dOk_new rp hp (DpAll.app h2 h4)
            exact q.2 _ _ _ g k
    · exact q.elim
def rdAddS : RX D D D := fun x y Q => match x, y with | .str u, .str w => u.length + w.length ≤ sizeLine ∧ Q (.str (u ++ w)) | _, _ => False
theorem pd_addS (ha : PD X e a ta) (hb : PD X e b tb) : PD X e (.BinOp a .Add b pos) (xBin rdAddS ta tb) :=
  px_op op_add_str (fun x y Q Q' h q => by
    unfold rdAddS at q ⊢
    split at q
    · exact ⟨q.1, h _ q.2⟩
    · exact q.elim) ha hb fun ρ F σ H0 H1 H v w x y Q rp dv dw q => by
    unfold rdAddS at q
    split at q
    · cases dv
      cases dw
      exact ⟨_, _, rfl, rfl, q.1, q.2 _ F H (.refl rp.ok) (.str _)⟩
    · exact q.elim
def rdRep : RX OC D OC := fun x y Q => match x, y with | .lst xs, .int k => -(2 ^ 63) ≤ k ∧ k < 2 ^ 63 ∧ xs.length * k.toNat ≤ sizeLine ∧ Q (.lst (List.replicate k.toNat xs).flatten) | _, _ => False
theorem pn_rep {tn : TX OC} (ha : PN X e a tn) (hb : PD X e b tb) : PN X e (.BinOp a .Mult b pos) (xBin rdRep tn tb) :=
  px_op op_rep (fun x y Q Q' h q => by
    unfold rdRep at q ⊢
    split at q
    · exact ⟨q.1, q.2.1, q.2.2.1, h _ q.2.2.2⟩
    · exact q.elim) ha hb fun ρ F σ H0 H1 H v w x y Q rp dv dw q => by
    unfold rdRep at q
    split at q
    · cases dw
      obtain ⟨p, rfl, ⟨vs, e2, e3⟩, e4, e5, e6⟩ := dv
      obtain ⟨q1, q2, q3, q⟩ := q
      refine ⟨p, _, vs, rfl, rfl, e2, q1, q2, by rw [DpAll.len e3]; exact q3, fun n hn => ?_⟩
      obtain ⟨g, k⟩ := nOk_new rp hn (DpAll.rep e3 _)
      exact q _ _ _ g k
    · exact q.elim
/-! ### slices -/
structure POd (X : Cx) (e : Ent) (o : Option Expr) (t : TX (Option Int)) : Prop where
  mono : MonoX t
  po : PO X o (fun σ H Q => ∃ F ρ, Rp X.K e ρ F σ H ∧ t ρ fun d => ∀ F' H', Gr e.toDl F H F' H' → Q d H')
theorem pod_none : POd X e none (xC none) := ⟨xC_mono, ⟨fun pins s σ H Q I ⟨F, ρ, rp, q⟩ => po_none.run pins s σ H Q I (q F H (.refl rp.ok))⟩⟩
def xPart (t : TX D) : TX (Option Int) := fun ρ Q => t ρ fun d => match d with | .int i => Q (some i) | _ => False
theorem pod_some (h : PD X e a ta) : POd X e (some a) (xPart ta) := ⟨fun ρ Q Q' k q => h.mono ρ _ _ (fun d hd => by
    cases d with
    | int i => exact k _ hd
    | _ => exact (show False from hd).elim) q, ⟨fun pins s σ H Q I ⟨F, ρ, rp, q⟩ => (po_some h.pe).run pins s σ H Q I ⟨F, ρ, rp, h.mono ρ _ _ (fun d hd v F' H' g dv => by
    cases d with
    | int i =>
      cases dv
      exact ⟨i, rfl, (show ∀ F' H', Gr e.toDl F H F' H' → Q (some i) H' from hd) F' H' g⟩
    | _ => exact (show False from hd).elim) q⟩⟩⟩
def xSl {α γ : Type} (r : α → Option Int → Option Int → (γ → Prop) → Prop) (t : TX α) (l u : TX (Option Int)) : TX γ := fun ρ Q => t ρ fun x => l ρ fun lo => u ρ fun hi => r x lo hi Q
theorem px_sl {r : V → Option Int → Option Int → Hp → VK → Prop} {rd : α → Option Int → Option Int → (γ → Prop) → Prop} {t : TX α} {tl tu : TX (Option Int)} {lo hi : Option Expr} (hr : SlR X r) (mr : ∀ x l u (Q Q' : γ → Prop), (∀ d, Q d → Q' d) → rd x l u Q → rd x l u Q')
    (h : PX X e k1 a t) (hl : POd X e lo tl) (hu : POd X e hi tu) (k : ∀ ρ F σ H0 H v x l u Q, Rp X.K e ρ F σ H → k1.Ok H0 F H v x → rd x l u (Fin k3 F H Q) → r v l u H Q) : PX X e k3 (.Subscript a (.Slice lo hi none p2) pos) (xSl rd t tl tu) :=
  ⟨fun ρ Q Q' k q => h.mono ρ _ _ (fun x hx => hl.mono ρ _ _ (fun l hl' => hu.mono ρ _ _ (fun u hu' => mr x l u Q Q' k hu') hl') hx) q, imp (pe_slice hr h.pe hl.po hu.po) fun σ H Q ⟨F, ρ, rp, q⟩ =>
    ⟨F, ρ, rp, h.mono ρ _ _ (fun x hx v F1 H1 g1 dv => ⟨F1, ρ, rp.step g1, hl.mono ρ _ _ (fun l hl' F2 H2 g2 => ⟨F2, ρ, (rp.step g1).step g2, hu.mono ρ _ _ (fun u hu' F3 H3 g3 =>
      k ρ F3 σ H H3 v x l u Q (((rp.step g1).step g2).step g3) (k1.step g3 (k1.step g2 dv)) (mr x l u _ _ (fun d hd => Fin.step rp.ok ((g1.trans rp.ok g2).trans rp.ok g3) hd) hu')) hl'⟩) hx⟩) q⟩⟩
def cutD (xs : List D) (lo hi : Option Int) : List D := (xs.drop (HT.sIx xs.length 0 lo)).take (HT.sIx xs.length xs.length hi - HT.sIx xs.length 0 lo)
theorem cut_dp {K : PySem.W.Frag} {F : Hp} {vs : List V} {xs : List D} {lo hi : Option Int} (h : DpAll K F vs xs) : DpAll K F (cutV vs lo hi) (cutD xs lo hi) := by
  unfold cutV cutD
  rw [DpAll.len h]
  exact DpAll.take _ (DpAll.drop _ h)
def rdSlT (x : D) (lo hi : Option Int) (Q : D → Prop) : Prop := match x with | .tuple xs => Q (.tuple (cutD xs lo hi)) | _ => False
variable {tl tu : TX (Option Int)} {lo hi : Option Expr}
theorem cut_whole {xs : List D} {lo hi : Option Int} (h : HT.sIx xs.length 0 lo = 0 ∧ HT.sIx xs.length xs.length hi = xs.length) : cutD xs lo hi = xs := by
  unfold cutD
  rw [h.1, h.2]
  simp
theorem pd_slT (h : PD X e a ta) (hl : POd X e lo tl) (hu : POd X e hi tu) : PD X e (.Subscript a (.Slice lo hi none p2) pos) (xSl rdSlT ta tl tu) :=
  px_sl sl_tupA (fun x l u Q Q' k q => by
    unfold rdSlT at q ⊢
    split at q
    · exact k _ q
    · exact q.elim) h hl hu fun ρ F σ H0 H v x l u Q rp dv q => by
    unfold rdSlT at q
    split at q
    · cases dv with
      | tup h1 h2 =>
        refine ⟨_, _, rfl, SqTmono rp.sub h1, fun z => ?_, fun _ p hp => ?_⟩
        · refine q _ F H (.refl rp.ok) ?_
          rw [DpAll.len h2] at z
          rw [cut_whole z]
          exact .tup h1 h2
        · obtain ⟨g, k⟩ := dOk_new rp hp (cut_dp (lo := l) (hi := u) h2)
          exact q _ _ _ g k
    · exact q.elim
def rdSlL (x : Bool × List D) (lo hi : Option Int) (Q : OC → Prop) : Prop := x.1 = false ∧ Q (.lst (cutD x.2 lo hi))
theorem pn_slL (h : PQ X e a tq) (hl : POd X e lo tl) (hu : POd X e hi tu) : PN X e (.Subscript a (.Slice lo hi none p2) pos) (xSl rdSlL tq tl tu) :=
  px_sl sl_list (fun x l u Q Q' k q => ⟨q.1, k _ q.2⟩) h hl hu fun ρ F σ H0 H v x l u Q rp dv q => by
    obtain ⟨b, xs⟩ := x
    obtain ⟨q1, q⟩ := q
    simp only at q1 q
    subst q1
    obtain ⟨p, vs, rfl, e2, e3⟩ := SeqOk.list dv
    refine ⟨p, vs, rfl, e2, fun n hn => ?_⟩
    obtain ⟨g, k⟩ := nOk_new rp hn (cut_dp (lo := l) (hi := u) e3)
    exact q _ _ _ g k
def rdSlS (x : D) (lo hi : Option Int) (Q : D → Prop) : Prop := match x with | .str z => z.length ≤ sizeLine ∧ Q (.str (cutS z lo hi)) | _ => False
theorem pd_slS (h : PD X e a ta) (hl : POd X e lo tl) (hu : POd X e hi tu) : PD X e (.Subscript a (.Slice lo hi none p2) pos) (xSl rdSlS ta tl tu) :=
  px_sl sl_str (fun x l u Q Q' k q => by
    unfold rdSlS at q ⊢
    split at q
    · exact ⟨q.1, k _ q.2⟩
    · exact q.elim) h hl hu fun ρ F σ H0 H v x l u Q rp dv q => by
    unfold rdSlS at q
    split at q
    · cases dv
      exact ⟨_, rfl, q.1, q.2 _ F H (.refl rp.ok) (.str _)⟩
    · exact q.elim
/-! ### in -/
def flatD : D → Bool
  | .none => true
  | .bool _ => true
  | .int _ => true
  | .str _ => true
  | _ => false
def eqF : D → D → Bool
  | .none, .none => true
  | .bool a, .bool b => a == b
  | .bool a, .int b => (if a then 1 else 0) == b
  | .int a, .bool b => a == (if b then 1 else 0)
  | .int a, .int b => a == b
  | .str a, .str b => decide (a = b)
  | _, _ => false
def inF (x : D) (xs : List D) : Bool := xs.any fun y => eqF y x
theorem flat_of {K : PySem.W.Frag} {F : Hp} {v : V} {d : D} (h : flatD d = true) (dp : Dp K F v d) : flatV v = true := by
  cases dp <;> first | rfl | cases h
theorem flat_all {K : PySem.W.Frag} {F : Hp} : ∀ {vs : List V} {ds : List D}, ds.all flatD = true → DpAll K F vs ds → vs.all flatV = true
  | _, _, _, .nil => rfl
  | v :: vs, d :: ds, h, .cons a t => by
    rw [List.all_cons, Bool.and_eq_true] at h ⊢
    exact ⟨flat_of h.1 a, flat_all h.2 t⟩
theorem eqF_of {K : PySem.W.Frag} {F : Hp} {v w : V} {d d' : D} (h : flatD d = true) (h' : flatD d' = true) (dp : Dp K F v d) (dp' : Dp K F w d') : eqV v w = eqF d d' := by
  cases dp <;> cases dp' <;> first | rfl | cases h | cases h' | skip
theorem inF_of {K : PySem.W.Frag} {F : Hp} {v : V} {d : D} (h : flatD d = true) (dp : Dp K F v d) : ∀ {vs : List V} {ds : List D}, ds.all flatD = true → DpAll K F vs ds → inV v vs = inF d ds
  | _, _, _, .nil => rfl
  | w :: vs, d' :: ds, h2, .cons a t => by
    rw [List.all_cons, Bool.and_eq_true] at h2
    have ih := inF_of h dp h2.2 t
    unfold inV inF at ih ⊢
    rw [List.any_cons, List.any_cons, ih, eqF_of h2.1 h a dp]
def rdIn (neg : Bool) : RX D (Bool × List D) D := fun x y Q => flatD x = true ∧ y.2.all flatD = true ∧ Q (.bool (ng neg (inF x y.2)))
theorem pc_in (ha : PD X e a ta) (hb : PQ X e b tq) : PCx X e .In a b (xBin (rdIn false) ta tq) :=
  px_cmp op_in_seq (fun x y Q Q' h q => ⟨q.1, q.2.1, h _ q.2.2⟩) ha hb fun ρ F σ H0 H1 H v w x y Q rp dv dw q => by
    obtain ⟨q1, q2, q⟩ := q
    obtain ⟨p, vs, e1, e2, e3⟩ := SeqOk.both dw
    refine ⟨p, vs, e1, e2, flat_of q1 dv, flat_all q2 e3, ?_⟩
    rw [if_neg Bool.false_ne_true, inF_of q1 dv q2 e3]
    have := q _ F H (.refl rp.ok) (.bl _)
    simpa [ng] using this
theorem pc_nin (ha : PD X e a ta) (hb : PQ X e b tq) : PCx X e .NotIn a b (xBin (rdIn true) ta tq) :=
  px_cmp op_notIn_seq (fun x y Q Q' h q => ⟨q.1, q.2.1, h _ q.2.2⟩) ha hb fun ρ F σ H0 H1 H v w x y Q rp dv dw q => by
    obtain ⟨q1, q2, q⟩ := q
    obtain ⟨p, vs, e1, e2, e3⟩ := SeqOk.both dw
    refine ⟨p, vs, e1, e2, flat_of q1 dv, flat_all q2 e3, ?_⟩
    rw [if_pos rfl, inF_of q1 dv q2 e3]
    have := q _ F H (.refl rp.ok) (.bl _)
    simpa [ng] using this
/-! ### built-ins -/
def rdLen : R1 (Bool × List D) D := fun x Q => Q (.int x.2.length)
theorem pd_len (hg : Gl X "len") (hm : X.mg "len" = none) (ha : PQ X e a tq) (he : starEach [a] X.env = (false, eval a X.env) :: starEach [] X.env := by rfl) (hpl : (backTo pos (starEach [] X.env)).any (·.1) = false := by rfl) : PD X e (.Call (.Name "len" pf) [a] [] pos) (xUn rdLen tq) :=
  px_b1 call_len_seq hg hm PySem.boot_len (fun x Q Q' h q => h _ q) ha (fun ρ F σ H0 H v x Q rp dv q => by
    obtain ⟨p, vs, e1, e2, e3⟩ := SeqOk.both dv
    subst e1
    exact ⟨p, vs, rfl, e2, by rw [DpAll.len e3]; exact q _ F H (.refl rp.ok) (.int _)⟩) (by decide) (by decide) he hpl
def rdLenS : R1 D D := fun x Q => match x with | .str z => z.length ≤ sizeLine ∧ Q (.int z.length) | _ => False
theorem pd_lenS (hg : Gl X "len") (hm : X.mg "len" = none) (ha : PD X e a ta) (he : starEach [a] X.env = (false, eval a X.env) :: starEach [] X.env := by rfl) (hpl : (backTo pos (starEach [] X.env)).any (·.1) = false := by rfl) : PD X e (.Call (.Name "len" pf) [a] [] pos) (xUn rdLenS ta) :=
  px_b1 call_len_str hg hm PySem.boot_len (fun x Q Q' h q => by
    unfold rdLenS at q ⊢
    split at q
    · exact ⟨q.1, h _ q.2⟩
    · exact q.elim) ha (fun ρ F σ H0 H v x Q rp dv q => by
    unfold rdLenS at q
    split at q
    · cases dv
      exact ⟨_, rfl, q.1, q.2 _ F H (.refl rp.ok) (.int _)⟩
    · exact q.elim) (by decide) (by decide) he hpl
def rdList : R1 (Bool × List D) OC := fun x Q => Q (.lst x.2)
theorem pn_list (hg : Gl X "list") (hm : X.mg "list" = none) (ha : PQ X e a tq) (he : starEach [a] X.env = (false, eval a X.env) :: starEach [] X.env := by rfl) (hpl : (backTo pos (starEach [] X.env)).any (·.1) = false := by rfl) : PN X e (.Call (.Name "list" pf) [a] [] pos) (xUn rdList tq) :=
  px_ty1 call_list_of hg hm boot_list (fun x Q Q' h q => h _ q) ha (fun ρ F σ H0 H v x Q rp dv q => by
    obtain ⟨p, vs, e1, e2, e3⟩ := SeqOk.both dv
    subst e1
    refine ⟨p, vs, rfl, e2, fun n hn => ?_⟩
    obtain ⟨g, k⟩ := nOk_new rp hn e3
    exact q _ _ _ g k) (by decide) (by decide) he hpl
def rdTuple : R1 (Bool × List D) D := fun x Q => x.1 = false ∧ Q (.tuple x.2)
theorem pd_tuple (hg : Gl X "tuple") (hm : X.mg "tuple" = none) (ha : PQ X e a tq) (he : starEach [a] X.env = (false, eval a X.env) :: starEach [] X.env := by rfl) (hpl : (backTo pos (starEach [] X.env)).any (·.1) = false := by rfl) : PD X e (.Call (.Name "tuple" pf) [a] [] pos) (xUn rdTuple tq) :=
  px_ty1 call_tuple_of hg hm boot_tuple (fun x Q Q' h q => ⟨q.1, h _ q.2⟩) ha (fun ρ F σ H0 H v x Q rp dv q => by
    obtain ⟨b, xs⟩ := x
    obtain ⟨q1, q⟩ := q
    simp only at q1 q
    subst q1
    obtain ⟨p, vs, e1, e2, e3⟩ := SeqOk.list dv
    subst e1
    refine ⟨p, vs, rfl, .inl ⟨e2, fun n hn => ?_⟩⟩
    obtain ⟨g, k⟩ := dOk_new rp hn e3
    exact q _ _ _ g k) (by decide) (by decide) he hpl
def rdTupleD : R1 D D := fun x Q => match x with | .tuple xs => Q (.tuple xs) | _ => False
theorem pd_tupleD (hg : Gl X "tuple") (hm : X.mg "tuple" = none) (ha : PD X e a ta) (he : starEach [a] X.env = (false, eval a X.env) :: starEach [] X.env := by rfl) (hpl : (backTo pos (starEach [] X.env)).any (·.1) = false := by rfl) : PD X e (.Call (.Name "tuple" pf) [a] [] pos) (xUn rdTupleD ta) :=
  px_ty1 call_tuple_of hg hm boot_tuple (fun x Q Q' h q => by
    unfold rdTupleD at q ⊢
    split at q
    · exact h _ q
    · exact q.elim) ha (fun ρ F σ H0 H v x Q rp dv q => by
    unfold rdTupleD at q
    split at q
    · cases dv with
      | tup h1 h2 => exact ⟨_, _, rfl, .inr ⟨SqTmono rp.sub h1, q _ F H (.refl rp.ok) (.tup h1 h2)⟩⟩
    · exact q.elim) (by decide) (by decide) he hpl
def rdInt : R1 D D := fun x Q => match x with | .int i => Q (.int i) | .bool k => Q (.int (if k then 1 else 0)) | _ => False
theorem pd_toInt (hg : Gl X "int") (hm : X.mg "int" = none) (ha : PD X e a ta) (he : starEach [a] X.env = (false, eval a X.env) :: starEach [] X.env := by rfl) (hpl : (backTo pos (starEach [] X.env)).any (·.1) = false := by rfl) : PD X e (.Call (.Name "int" pf) [a] [] pos) (xUn rdInt ta) :=
  px_ty1 call_int1 hg hm boot_int (fun x Q Q' h q => by
    unfold rdInt at q ⊢
    split at q
    · exact h _ q
    · exact h _ q
    · exact q.elim) ha (fun ρ F σ H0 H v x Q rp dv q => by
    unfold rdInt at q
    split at q
    · cases dv
      exact .inl ⟨_, rfl, q _ F H (.refl rp.ok) (.int _)⟩
    · cases dv
      exact .inr ⟨_, rfl, q _ F H (.refl rp.ok) (.int _)⟩
    · exact q.elim) (by decide) (by decide) he hpl
def rdStr : R1 D D := fun x Q => match x with | .int i => i.natAbs.log2 < 1920 ∧ Q (.str (toString i)) | _ => False
theorem pd_strI (hg : Gl X "str") (hm : X.mg "str" = none) (ha : PD X e a ta) (he : starEach [a] X.env = (false, eval a X.env) :: starEach [] X.env := by rfl) (hpl : (backTo pos (starEach [] X.env)).any (·.1) = false := by rfl) : PD X e (.Call (.Name "str" pf) [a] [] pos) (xUn rdStr ta) :=
  px_ty1 call_str_int hg hm boot_str (fun x Q Q' h q => by
    unfold rdStr at q ⊢
    split at q
    · exact ⟨q.1, h _ q.2⟩
    · exact q.elim) ha (fun ρ F σ H0 H v x Q rp dv q => by
    unfold rdStr at q
    split at q
    · cases dv
      exact ⟨_, rfl, q.1, q.2 _ F H (.refl rp.ok) (.str _)⟩
    · exact q.elim) (by decide) (by decide) he hpl
def rdAbs : R1 D D := fun x Q => match x with | .int i => Q (.int (if i < 0 then -i else i)) | _ => False
theorem pd_abs (hg : Gl X "abs") (hm : X.mg "abs" = none) (ha : PD X e a ta) (he : starEach [a] X.env = (false, eval a X.env) :: starEach [] X.env := by rfl) (hpl : (backTo pos (starEach [] X.env)).any (·.1) = false := by rfl) : PD X e (.Call (.Name "abs" pf) [a] [] pos) (xUn rdAbs ta) :=
  px_b1 call_abs hg hm boot_abs (fun x Q Q' h q => by
    unfold rdAbs at q ⊢
    split at q
    · exact h _ q
    · exact q.elim) ha (fun ρ F σ H0 H v x Q rp dv q => by
    unfold rdAbs at q
    split at q
    · cases dv
      exact ⟨_, rfl, q _ F H (.refl rp.ok) (.int _)⟩
    · exact q.elim) (by decide) (by decide) he hpl
/-- the ints of a list -/
def intsOf : List D → Option (List Int)
  | [] => some []
  | .int i :: r => (intsOf r).map (i :: ·)
  | _ => none
theorem intsOf_dp {K : PySem.W.Frag} {F : Hp} : ∀ {vs : List V} {ds : List D} {ns : List Int}, intsOf ds = some ns → DpAll K F vs ds → vs = ns.map V.int
  | _, _, _, h, .nil => by
    cases h
    rfl
  | v :: vs, d :: ds, ns, h, .cons a t => by
    cases a with
    | int i =>
      have h : (intsOf ds).map (i :: ·) = some ns := h
      cases q : intsOf ds with
      | none => rw [q] at h; cases h
      | some ms =>
        rw [q] at h
        cases h
        rw [intsOf_dp q t]
        rfl
    | _ => cases h
def rdSum : R1 (Bool × List D) D := fun x Q => x.1 = false ∧ someOf (intsOf x.2) fun ns => Q (.int ns.sum)
theorem pd_sum (hc : X.calm = true) (hg : Gl X "sum") (hm : X.mg "sum" = none) (hv : bootBuiltins "sum" = some (.builtin "sum")) (ha : PQ X e a tq) (he : starEach [a] X.env = (false, eval a X.env) :: starEach [] X.env := by rfl) (hpl : (backTo pos (starEach [] X.env)).any (·.1) = false := by rfl) : PD X e (.Call (.Name "sum" pf) [a] [] pos) (xUn rdSum tq) :=
  px_b1 (cr_sum hc) hg hm hv (fun x Q Q' h q => ⟨q.1, someOf_mono (fun _ => h _) q.2⟩) ha (fun ρ F σ H0 H v x Q rp dv q => by
    obtain ⟨b, xs⟩ := x
    obtain ⟨q1, q⟩ := q
    simp only at q1 q
    subst q1
    obtain ⟨ns, hns, q⟩ := someOf_of q
    obtain ⟨p, vs, e1, e2, e3⟩ := SeqOk.list dv
    subst e1
    rw [intsOf_dp hns e3] at e2
    exact ⟨p, ns, rfl, e2, q _ F H (.refl rp.ok) (.int _)⟩) (by decide) (by decide) he hpl
/-! ### isinstance -/
def tyN : D → String
  | .none => "NoneType"
  | .bool _ => "bool"
  | .int _ => "int"
  | .str _ => "str"
  | .list _ => "list"
  | .tuple _ => "tuple"
  | .dict _ => "dict"
theorem tyN_of {K : PySem.W.Frag} {F H : Hp} {v : V} {d : D} (s : Same F H) (dp : Dp K F v d) : TyX K H v (.type (tyN d)) := by
  cases dp with
  | non => exact .base .non
  | bl b => exact .base (.bl b)
  | int i => exact .base (.int i)
  | str x => exact .base (.str x)
  | lst h1 h2 =>
    rcases SqLmono s h1 with (h | ⟨o, h⟩) | ⟨o, its, n, h, hc, _⟩
    · exact .base (.lst h)
    · exact .base (.frz h)
    · exact .kList h hc
  | tup h1 h2 =>
    rcases SqTmono s h1 with (h | ⟨o, h⟩) | ⟨o, its, n, h, hc, _⟩
    · exact .base (.tup h)
    · exact .fTuple h
    · exact .kTuple h hc
/-- the answer, told by the type's name -/
def rdIsi (T : String) : R1 D D := fun x Q => match kitB (tyN x) T with | some b => Q (.bool b) | none => False
theorem pd_isi {T : String} (hg : Gl X "isinstance") (hm : X.mg "isinstance" = none) (hv : bootBuiltins "isinstance" = some (.builtin "isinstance")) (ha : PD X e a ta) (hb : PE X b (tC (.ty T)))
    (he : starEach [a, b] X.env = (false, eval a X.env) :: starEach [b] X.env := by rfl) (he2 : starEach [b] X.env = (false, eval b X.env) :: starEach [] X.env := by rfl) (hpl : (backTo pos (starEach [b] X.env)).any (·.1) = false := by rfl) :
    PD X e (.Call (.Name "isinstance" pf) [a, b] [] pos) (xUn (rdIsi T) ta) :=
  ⟨xUn_mono (fun x Q Q' h q => by
    unfold rdIsi at q ⊢
    split at q
    · exact h _ q
    · exact q.elim) ha.mono, imp (pe_callB call_isi hg hm hv (pa_cons ha.pe (pa_cons hb pa_nil he2) he) (by decide) (by decide) he hpl) fun σ H Q ⟨F, ρ, rp, q⟩ => ⟨F, ρ, rp, ha.mono ρ _ _ (fun d hd v F' H' g dv => by
      unfold rdIsi at hd
      split at hd
      · rename_i r hr
        exact ⟨v, _, _, _, r, rfl, .ty T, tyN_of g.ok.sub dv, kit_ty hr, hd _ F' H' g (.bl _)⟩
      · exact hd.elim) q⟩⟩
/-- isinstance(x, (T, U)) -/
def rdIsi2 (T U : String) : R1 D D := fun x Q => match kitB (tyN x) T, kitB (tyN x) U with | some b, some b' => Q (.bool (b || b')) | _, _ => False
theorem pd_isi2 {T U : String} {p3 : Pos} {x1} (hg : Gl X "isinstance") (hm : X.mg "isinstance" = none) (hv : bootBuiltins "isinstance" = some (.builtin "isinstance")) (ha : PD X e a ta) (hb : PE X b (tC (.ty T))) (hc : PE X c (tC (.ty U)))
    (he : starEach [a, .Tuple [b, c] x1 p3] X.env = (false, eval a X.env) :: starEach [.Tuple [b, c] x1 p3] X.env := by rfl) (he2 : starEach [.Tuple [b, c] x1 p3] X.env = (false, eval (.Tuple [b, c] x1 p3) X.env) :: starEach [] X.env := by rfl) (hpl : (backTo pos (starEach [.Tuple [b, c] x1 p3] X.env)).any (·.1) = false := by rfl)
    (hs : starEach [b, c] X.env = (false, eval b X.env) :: starEach [c] X.env := by rfl) (hs2 : starEach [c] X.env = (false, eval c X.env) :: starEach [] X.env := by rfl) :
    PD X e (.Call (.Name "isinstance" pf) [a, .Tuple [b, c] x1 p3] [] pos) (xUn (rdIsi2 T U) ta) :=
  ⟨xUn_mono (fun x Q Q' h q => by
    unfold rdIsi2 at q ⊢
    split at q
    · exact h _ q
    · exact q.elim) ha.mono, imp (pe_callB call_isiT hg hm hv (pa_cons ha.pe (pa_cons (pe_tup (pa_cons hb (pa_cons hc pa_nil hs2) hs)) pa_nil he2) he) (by decide) (by decide) he hpl) fun σ H Q ⟨F, ρ, rp, q⟩ => ⟨F, ρ, rp, ha.mono ρ _ _ (fun d hd v F' H' g dv => by
      unfold rdIsi2 at hd
      split at hd
      · rename_i r r' hr hr'
        refine ⟨by show 2 ≤ sizeLine; decide, fun p hp => ⟨v, p, _, _, [.type T, .type U], r || r', rfl, upd_same, .cons (.ty T) (.cons (.ty U) .nil), tyN_of (g.ok.sub.trans (sameNew hp)) dv, ?_, ?_⟩⟩
        · refine kitAny_cons (kit_ty hr) (fun z => ?_) (fun z => by rw [z]; rfl)
          rw [z, Bool.false_or]
          exact kitAny_cons (kit_ty hr') (fun z => by rw [z]; exact kitAny_nil) (fun z => z)
        · exact hd _ F' _ (g.trans rp.ok (Gr.newO g.ok rp.stay hp)) (.bl _)
      · exact hd.elim) q⟩⟩
end
end PL
set_option Elab.async false
set_option linter.all false
set_option maxRecDepth 100000
set_option maxHeartbeats 4000000
namespace PL
open PySem PySem.Spec PyProof.Rows L2
/-! ### slots that are set -/
section
variable {K : PySem.W.Frag} {e : Ent} {ρ : Ev} {σ : L2.St} {F H F' H' : Hp} {i : Nat} {v : V} {pv : PV}
theorem getSet {α : Type} {l : List (Option α)} {i j : Nat} {v x : α} (h : (l.set i (some v))[j]? = some (some x)) : (i = j ∧ v = x) ∨ (i ≠ j ∧ l[j]? = some (some x)) := by
  by_cases hij : i = j
  · subst hij
    rw [List.getElem?_set] at h
    simp at h
    exact .inl ⟨rfl, by have := h.2; simpa using this⟩
  · rw [List.getElem?_set_ne hij] at h
    exact .inr ⟨hij, h⟩
theorem setSelf {α : Type} {l : List (Option α)} {i : Nat} {v : α} (h : i < l.length) : (l.set i (some v))[i]? = some (some v) := by
  rw [List.getElem?_set_self h]
/-- the slot i gets v; no other slot holds it as its own -/
theorem Rp.set (r : Rp K e ρ F σ H) (h : SlotOk K e F H v pv) (hs : ∀ oc, pv = .own oc → ∀ (j : Nat) (o : OC) (a : Addr), j ≠ i → ρ[j]? = some (some (.own o)) → v = .ref a → σ[j]? ≠ some (some (.ref a))) : Rp K e (ρ.set i (some pv)) F (σ.set i (some v)) H where
  len := by rw [List.length_set, List.length_set]; exact r.len
  ok0 := r.ok0
  gr := r.gr
  stay := r.stay
  slots := fun j q hq => by
    rcases getSet hq with ⟨rfl, rfl⟩ | ⟨hij, hq⟩
    · refine ⟨v, ?_, h⟩
      have : i < ρ.length := by
        by_cases z : i < ρ.length
        · exact z
        · rw [List.getElem?_eq_none (by rw [List.length_set]; omega)] at hq
          cases hq
      exact setSelf (by rw [r.len]; exact this)
    · obtain ⟨u, h1, h2⟩ := r.slots j q hq
      exact ⟨u, by rw [List.getElem?_set_ne hij]; exact h1, h2⟩
  apart := fun j k x y a hjk hx hy hj hk => by
    rcases getSet hx with ⟨rfl, ex⟩ | ⟨h1, hx⟩
    · rcases getSet hy with ⟨rfl, _⟩ | ⟨h2, hy⟩
      · exact hjk rfl
      · rw [List.getElem?_set_ne h2] at hk
        rcases getSet hj with ⟨_, ev⟩ | ⟨h3, _⟩
        · exact hs x ex k y a (Ne.symm h2) hy ev hk
        · exact h3 rfl
    · rw [List.getElem?_set_ne h1] at hj
      rcases getSet hy with ⟨rfl, ey⟩ | ⟨h2, hy⟩
      · rcases getSet hk with ⟨_, ev⟩ | ⟨h3, _⟩
        · exact hs y ey j x a (Ne.symm h1) hx ev hj
        · exact h3 rfl
      · rw [List.getElem?_set_ne h2] at hk
        exact r.apart j k x y a hjk hx hy hj hk
theorem Rp.setD {d : D} (r : Rp K e ρ F σ H) (h : Dp K F v d) : Rp K e (ρ.set i (some (.imm d))) F (σ.set i (some v)) H := r.set h fun _ z => nomatch z
theorem Rp.noOwn {p : Addr} (r : Rp K e ρ F σ H) (h : H p = none) : ∀ (j : Nat) (o : OC), ρ[j]? = some (some (.own o)) → σ[j]? ≠ some (some (.ref p)) := fun j o q z => by
  obtain ⟨v, q1, a, e1, e2, _⟩ := r.slots j _ q
  rw [q1, e1] at z
  have : a = p := V.ref.inj (Option.some.inj (Option.some.inj z))
  obtain ⟨x, hx⟩ := e2.some
  rw [this, h] at hx
  cases hx
/-- kinds that may lie in a slot -/
structure Kv {e : Ent} {α : Type} (K : PySem.W.Frag) (k : Kd e α) (pv : α → PV) : Prop where
  set : ∀ {ρ : Ev} {F H : Hp} {σ : L2.St} {F' H' : Hp} {v : V} {x : α} (i : Nat), Rp K e ρ F σ H → Gr e.toDl F H F' H' → k.Ok H F' H' v x → Rp K e (ρ.set i (some (pv x))) F' (σ.set i (some v)) H'
  slot : ∀ {F0 H0 F H : Hp} {v : V} {x : α}, (∀ p, H0 p = none → e.H0 p = none) → k.Ok H0 F H v x → SlotOk K e F H v (pv x)
theorem kvD : Kv K (kD K e) PV.imm := ⟨fun i r g h => (r.step g).setD h, fun _ h => h⟩
theorem NOk.slot {H0 : Hp} {oc : OC} (hn : ∀ p, H0 p = none → e.H0 p = none) (h : NOk K e H0 F H v oc) : SlotOk K e F H v (.own oc) := by
  obtain ⟨a, e1, e2, e3, e4, e5⟩ := h
  exact ⟨a, e1, e2, e3, hn a e4, e5⟩
theorem setN {σ : L2.St} {ρ : Ev} {F H F' H' : Hp} {v : V} {oc : OC} (i : Nat) (r : Rp K e ρ F σ H) (g : Gr e.toDl F H F' H') (h : NOk K e H F' H' v oc) : Rp K e (ρ.set i (some (.own oc))) F' (σ.set i (some v)) H' :=
  (r.step g).set (NOk.slot (fun p hp => r.f0 hp) h) fun _ _ j o a hj hq ev => by
    obtain ⟨a', e1, e2, e3, e4, e5⟩ := h
    subst e1
    cases ev
    exact r.noOwn e4 j o hq
theorem kvN : Kv K (kN K e) PV.own := ⟨fun i r g h => setN i r g h, fun hn h => NOk.slot hn h⟩
theorem kvR : Kv K (kR e) PV.raw := ⟨fun i r g h => (r.step g).set h (fun _ z => nomatch z), fun _ h => h⟩
end
/-! ### statements -/
structure Es where
  nx : Ev → Prop
  rt : PV → Prop
  bk : Ev → Prop := fun _ => False
  ct : Ev → Prop := fun _ => False
/-- what a def hands back -/
def RSl (K : PySem.W.Frag) (e : Ent) (F H : Hp) (v : V) : PV → Prop
  | .two d o => ∃ t u p, v = .ref t ∧ SqT K H t [u, .ref p] ∧ Dp K F u d ∧ OCat K F H p o ∧ F p = none ∧ e.H0 p = none ∧ ¬ e.M p
  | .imm d => SlotOk K e F H v (.imm d)
  | .own d => SlotOk K e F H v (.own d)
  | .raw d => SlotOk K e F H v (.raw d)
  | .std a d => SlotOk K e F H v (.std a d)
theorem RSl.of {K : PySem.W.Frag} {e : Ent} {F H : Hp} {v : V} {pv : PV} (h : SlotOk K e F H v pv) : RSl K e F H v pv := by
  cases pv with
  | two d o => exact (show False from h).elim
  | imm d => exact h
  | own d => exact h
  | raw d => exact h
  | std a d => exact h
def RetOk (K : PySem.W.Frag) (e : Ent) (F H : Hp) (v : V) (pv : PV) : Prop := Gr e.toDl e.F0 e.H0 F H ∧ RSl K e F H v pv
structure Lk (K : PySem.W.Frag) (e : Ent) (Fl : Hp) (P : Es) (Dd : Ends) : Prop where
  nx : ∀ ρ σ F H, Same Fl F → Rp K e ρ F σ H → P.nx ρ → Dd.nx σ H
  rt : ∀ pv v F H, RetOk K e F H v pv → P.rt pv → Dd.rt v H
  bk : ∀ ρ σ F H, Same Fl F → Rp K e ρ F σ H → P.bk ρ → Dd.bk σ H
  ct : ∀ ρ σ F H, Same Fl F → Rp K e ρ F σ H → P.ct ρ → Dd.ct σ H
theorem Lk.up {K : PySem.W.Frag} {e : Ent} {F F' : Hp} {P : Es} {Dd : Ends} (l : Lk K e F P Dd) (s : Same F F') : Lk K e F' P Dd := ⟨fun ρ σ G H z => l.nx ρ σ G H (s.trans z), l.rt, fun ρ σ G H z => l.bk ρ σ G H (s.trans z), fun ρ σ G H z => l.ct ρ σ G H (s.trans z)⟩
abbrev TSt := Es → Ev → Prop
def liftS (K : PySem.W.Frag) (e : Ent) (t : TSt) : TS := fun Dd σ H => ∃ F ρ P, Rp K e ρ F σ H ∧ t P ρ ∧ Lk K e F P Dd
structure PSx (X : Cx) (e : Ent) (s : Stmt) (t : TSt) : Prop where
  ps : PS X s (liftS X.K e t)
structure PSxs (X : Cx) (e : Ent) (s : List Stmt) (t : TSt) : Prop where
  pss : PSs X s (liftS X.K e t)
section
variable {X : Cx} {e : Ent} {α β γ : Type} {k1 : Kd e α} {k2 : Kd e β} {a b c : Expr} {st : Stmt} {sts sts2 : List Stmt} {pos p2 pf : Pos} {ta tb : TX D} {sc : TX Bool} {tq tq2 : TX (Bool × List D)} {t u : TSt}
def zNil : TSt := fun P ρ => P.nx ρ
def zSeq (t u : TSt) : TSt := fun P ρ => t { P with nx := u P } ρ
theorem zs_nil : PSxs X e [] zNil := ⟨impSs pss_nil fun Dd σ H ⟨F, ρ, P, rp, q, lk⟩ => lk.nx ρ σ F H (Same.refl _) rp q⟩
theorem zs_cons (h : PSx X e st t) (h2 : PSxs X e sts u) : PSxs X e (st :: sts) (zSeq t u) := ⟨impSs (pss_cons h.ps h2.pss) fun Dd σ H ⟨F, ρ, P, rp, q, lk⟩ =>
  ⟨F, ρ, { P with nx := u P }, rp, q, ⟨fun ρ' σ' F' H' z rp' q' => ⟨F', ρ', P, rp', q', lk.up z⟩, lk.rt, lk.bk, lk.ct⟩⟩⟩
theorem zs_one (h : PSx X e st t) : PSxs X e [st] t := ⟨pss_one h.ps⟩
def zIf (s : TX Bool) (t u : TSt) : TSt := fun P ρ => s ρ fun k => if k = true then t P ρ else u P ρ
theorem z_if (hc : PB X e c sc) (h : PSxs X e sts t) (h2 : PSxs X e sts2 u) : PSx X e (.If c sts sts2 pos) (zIf sc t u) := ⟨impS (ps_if hc.pt h.pss h2.pss) fun Dd σ H ⟨F, ρ, P, rp, q, lk⟩ =>
  ⟨F, ρ, rp, hc.mono ρ _ _ (fun k hk F' H' g => by
    cases k with
    | true =>
      rw [if_pos rfl] at hk ⊢
      exact ⟨F', ρ, P, rp.step g, hk, lk.up g.fz⟩
    | false =>
      rw [if_neg Bool.false_ne_true] at hk ⊢
      exact ⟨F', ρ, P, rp.step g, hk, lk.up g.fz⟩) q⟩⟩
theorem z_pass : PSx X e (.Pass pos) zNil := ⟨impS ps_pass fun Dd σ H ⟨F, ρ, P, rp, q, lk⟩ => lk.nx ρ σ F H (Same.refl _) rp q⟩
def zBreak : TSt := fun P ρ => P.bk ρ
theorem z_break : PSx X e (.Break pos) zBreak := ⟨impS ps_break fun Dd σ H ⟨F, ρ, P, rp, q, lk⟩ => lk.bk ρ σ F H (Same.refl _) rp q⟩
def zCont : TSt := fun P ρ => P.ct ρ
theorem z_continue : PSx X e (.Continue pos) zCont := ⟨impS ps_continue fun Dd σ H ⟨F, ρ, P, rp, q, lk⟩ => lk.ct ρ σ F H (Same.refl _) rp q⟩
/-- name = e -/
def zSet {α : Type} (pv : α → PV) (i : Nat) (ta : TX α) : TSt := fun P ρ => ta ρ fun d => P.nx (ρ.set i (some (pv d)))
theorem z_set {i : Nat} {x : Str} {p' : Pos} {tx : TX α} {pv : α → PV} (kv : Kv X.K k1 pv) (hN : X.N.Nodup) (hi : X.N[i]? = some x) (hx : Loc X.env.scope x) (h : PX X e k1 a tx) (hs : swapsWith a (some (.Name x p')) pos.line X.env = pure false := by rfl) (hf : X.fn x = true ∨ X.env.scope.names.lookup x = some .local := by first | exact .inl rfl | exact .inr rfl | assumption) :
    PSx X e (.Assign [.Name x p'] a pos) (zSet pv i tx) := ⟨impS (ps_set hN hi hx h.pe hs hf) fun Dd σ H ⟨F, ρ, P, rp, q, lk⟩ =>
  ⟨F, ρ, rp, h.mono ρ _ _ (fun d hd v F' H' g dv => lk.nx _ _ F' H' g.fz (kv.set i rp g dv) hd) q⟩⟩
/-- return e -/
def zRet {α : Type} (pv : α → PV) (ta : TX α) : TSt := fun P ρ => ta ρ fun d => P.rt (pv d)
theorem z_ret {tx : TX α} {pv : α → PV} (kv : Kv X.K k1 pv) (h : PX X e k1 a tx) : PSx X e (.Return (some a) pos) (zRet pv tx) := ⟨impS (ps_ret h.pe) fun Dd σ H ⟨F, ρ, P, rp, q, lk⟩ =>
  ⟨F, ρ, rp, h.mono ρ _ _ (fun d hd v F' H' g dv => lk.rt _ v F' H' ⟨(rp.step g).gr, RSl.of (kv.slot (F0 := F) (fun p hp => rp.f0 hp) dv)⟩ hd) q⟩⟩
def zRetO (i : Nat) : TSt := fun P ρ => match ρ[i]? with | some (some (.own o)) => P.rt (.own o) | _ => False
theorem z_retO {i : Nat} (h : PE X a (tVar i)) : PSx X e (.Return (some a) pos) (zRetO i) := ⟨impS (ps_ret h) fun Dd σ H ⟨F, ρ, P, rp, q, lk⟩ => by
  unfold zRetO at q
  split at q
  · rename_i o h1
    obtain ⟨v, h2, h3⟩ := rp.slots i _ h1
    exact ⟨v, h2, lk.rt _ v F H ⟨rp.gr, RSl.of h3⟩ q⟩
  · exact q.elim⟩
def zRetN : TSt := fun P ρ => P.rt (.imm .none)
theorem z_retN : PSx X e (.Return none pos) zRetN := ⟨impS ps_retN fun Dd σ H ⟨F, ρ, P, rp, q, lk⟩ => lk.rt (.imm .none) .non F H ⟨rp.gr, (Dp.non : Dp X.K F .non .none)⟩ q⟩
/-- an expression whose worth is dropped -/
def zDrop {α : Type} (ta : TX α) : TSt := fun P ρ => ta ρ fun _ => P.nx ρ
theorem z_expr {tx : TX α} (h : PX X e k1 a tx) (hs : swapsWith a none pos.line X.env = pure false := by rfl) : PSx X e (.Expr a pos) (zDrop tx) := ⟨impS (ps_expr h.pe hs) fun Dd σ H ⟨F, ρ, P, rp, q, lk⟩ =>
  ⟨F, ρ, rp, h.mono ρ _ _ (fun d hd v F' H' g dv => lk.nx _ _ F' H' g.fz (rp.step g) hd) q⟩⟩
/-! one's own lists are changed -/
section
variable {K : PySem.W.Frag} {ρ : Ev} {σ : L2.St} {F H : Hp} {i : Nat} {p : Addr} {o o' : OC} {x : HO}
/-- the thing of the slot i is written anew -/
theorem Rp.write (r : Rp K e ρ F σ H) (hi : ρ[i]? = some (some (.own o))) (hp : σ[i]? = some (some (.ref p))) (h : OCat K F (upd H p x) p o') : Rp K e (ρ.set i (some (.own o'))) F σ (upd H p x) := by
  obtain ⟨v, h1, a, e1, e2, e3, e4, e5⟩ := r.slots i _ hi
  rw [hp] at h1
  have e0 : V.ref p = v := Option.some.inj (Option.some.inj h1)
  rw [← e0] at e1
  have e1 : p = a := V.ref.inj e1
  subst e1
  have ne : ∀ b u, F b = some u → b ≠ p := fun b u q z => by rw [z, e3] at q; cases q
  refine ⟨by rw [List.length_set]; exact r.len, r.ok0, ⟨r.gr.fz, r.gr.new, fun b u q m => ?_, ⟨fun b u q => ?_, fun b m => ⟨(r.ok.mu b m).1, ?_⟩, r.stay _ _ r.ok.inv fun b m => ?_⟩⟩, r.stay, fun j q hq => ?_, fun j k y z b hjk hy hz hj => ?_⟩
  · rw [upd_ne (fun z => by rw [z, e4] at q; cases q)]
    exact r.gr.st b u q m
  · rw [upd_ne (ne b u q)]
    exact r.sub b u q
  · obtain ⟨_, u, q⟩ := r.ok.mu b m
    exact ⟨u, by rw [upd_ne (fun z => e5 (by rw [← z]; exact m))]; exact q⟩
  · rw [upd_ne (fun z => e5 (by rw [← z]; exact m))]
  · rcases getSet hq with ⟨rfl, rfl⟩ | ⟨hij, hq⟩
    · exact ⟨_, hp, p, rfl, h, e3, e4, e5⟩
    · obtain ⟨w, q1, q2⟩ := r.slots j q hq
      refine ⟨w, q1, ?_⟩
      cases q with
      | imm d => exact q2
      | raw d => exact q2
      | std _ d => exact q2
      | two _ _ => exact q2.elim
      | own oc =>
        obtain ⟨b, f1, f2, f3, f4, f5⟩ := q2
        refine ⟨b, f1, f2.mono (Same.refl _) fun y hy => ?_, f3, f4, f5⟩
        rw [upd_ne (fun z => ?_)]
        · exact hy
        · subst z
          subst f1
          exact r.apart i j _ _ _ hij hi hq hp q1
  · rcases getSet hy with ⟨rfl, _⟩ | ⟨h1, hy⟩
    · rcases getSet hz with ⟨rfl, _⟩ | ⟨h2, hz⟩
      · exact absurd rfl hjk
      · exact r.apart i k _ _ b hjk hi hz hj
    · rcases getSet hz with ⟨rfl, _⟩ | ⟨h2, hz⟩
      · exact r.apart j i _ _ b hjk hy hi hj
      · exact r.apart j k _ _ b hjk hy hz hj
theorem Rp.ownL {xs : List D} (r : Rp K e ρ F σ H) (hi : ρ[i]? = some (some (.own (.lst xs)))) : ∃ p vs, σ[i]? = some (some (.ref p)) ∧ H p = some (.lst vs) ∧ DpAll K F vs xs ∧ ¬ e.M p := by
  obtain ⟨v, h1, a, e1, ⟨vs, e2, e2'⟩, e3, e4, e5⟩ := r.slots i _ hi
  subst e1
  exact ⟨a, vs, h1, e2, e2', e5⟩
end
def ownL (i : Nat) (ρ : Ev) (Q : List D → Prop) : Prop := match ρ[i]? with | some (some (.own (.lst xs))) => Q xs | _ => False
theorem ownL_of {i : Nat} {ρ : Ev} {Q : List D → Prop} (q : ownL i ρ Q) : ∃ xs, ρ[i]? = some (some (.own (.lst xs))) ∧ Q xs := by
  unfold ownL at q
  split at q
  · rename_i xs h
    exact ⟨xs, h, q⟩
  · exact q.elim
theorem ownL_mono {i : Nat} {ρ : Ev} {Q Q' : List D → Prop} (h : ∀ x, Q x → Q' x) (q : ownL i ρ Q) : ownL i ρ Q' := by
  unfold ownL at q ⊢
  split at q
  · exact h _ q
  · exact q.elim
theorem ownL_there {K : PySem.W.Frag} {i : Nat} {ρ : Ev} {F H : Hp} {σ : L2.St} {xs : List D} (rp : Rp K e ρ F σ H) (hi : ρ[i]? = some (some (.own (.lst xs)))) : ∃ p, σ[i]? = some (some (.ref p)) ∧ tyV K "list" (.ref p) H := by
  obtain ⟨p, vs, h1, h2, h3, h4⟩ := rp.ownL hi
  exact ⟨p, h1, .inl ⟨rfl, vs, SqL.of h2⟩⟩
variable {apos : Pos}
/-- the receiver comes first: the list must stand then -/
def zAppG (i : Nat) (ta : TX D) : TSt := fun P ρ => ownL i ρ fun xs => ta ρ fun d => xs.length < sizeLine ∧ P.nx (ρ.set i (some (.own (.lst (xs ++ [d])))))
theorem z_app {i : Nat} (ho : PE X a (tVar i)) (h : PD X e b ta) (hb0 : attributeBase a "append" X.env (eval a X.env) = eval a X.env := by rfl)
    (hfew : ((backTo p2 (starEach [b] X.env)).all (fun x => !x.1) && (backToKw p2 (keywordEach [] X.env)).all (fun x => x.1.isSome) && decide ([b].length + ([] : List Keyword).length + (if ([] : List Keyword).isEmpty then 0 else 1) < 30)) = true := by rfl)
    (hline : (apos.endLine == p2.line) = true := by rfl) (hst : starEach [b] X.env = (false, eval b X.env) :: starEach [] X.env := by rfl) (hpl : (backTo p2 (starEach [] X.env)).any (·.1) = false := by rfl)
    (hs : swapsWith (.Call (.Attribute a "append" apos) [b] [] p2) none pos.line X.env = pure false := by rfl) : PSx X e (.Expr (.Call (.Attribute a "append" apos) [b] [] p2) pos) (zAppG i ta) :=
  ⟨impS (ps_expr (pe_bm PySem.F.plainAttrs_list PySem.F.slot_list_append PySem.F.type_list_append mt_append ho (pa_cons h.pe pa_nil hst) hb0 hfew hline hst hpl) hs) fun Dd σ H ⟨F, ρ, P, rp, q, lk⟩ => by
    obtain ⟨xs, h1, q⟩ := ownL_of q
    obtain ⟨p, vs, g1, g2, g3, g4⟩ := rp.ownL h1
    refine ⟨.ref p, g1, .inl ⟨rfl, vs, SqL.of g2⟩, F, ρ, rp, h.mono ρ _ _ (fun d hd v F' H' g dv => ?_) q⟩
    have g2' := g.st p _ g2 g4
    refine ⟨p, vs, v, rfl, rfl, g2', by rw [DpAll.len g3]; exact hd.1, ?_⟩
    exact lk.nx _ _ F' _ g.fz ((rp.step g).write (o' := .lst (xs ++ [d])) h1 g1 ⟨_, upd_same, DpAll.app (dpAllMono g.fz xs g3) (.cons dv .nil)⟩) hd.2⟩
/-- the worth of l.pop() as a reading that changes the slot -/
theorem pop_ok {K : PySem.W.Frag} {i : Nat} {ρ : Ev} {F H : Hp} {σ : L2.St} {xs : List D} {d : D} (rp : Rp K e ρ F σ H) (h1 : ρ[i]? = some (some (.own (.lst xs)))) (hd : xs[xs.length - 1]? = some d) :
    ∃ p vs v, σ[i]? = some (some (.ref p)) ∧ H p = some (.lst vs) ∧ vs[vs.length - 1]? = some v ∧ Dp K F v d ∧ Rp K e (ρ.set i (some (.own (.lst xs.dropLast)))) F σ (upd H p (.lst vs.dropLast)) := by
  obtain ⟨p, vs, g1, g2, g3, g4⟩ := rp.ownL h1
  obtain ⟨v, g5, g6⟩ := DpAll.get g3 hd
  exact ⟨p, vs, v, g1, g2, by rw [DpAll.len g3]; exact g5, g6, rp.write (o' := .lst xs.dropLast) h1 g1 ⟨_, upd_same, DpAll.dropLast g3⟩⟩
/-! targets -/
theorem wipe_put {σ : L2.St} {i : Nat} {x : Option V} : ∀ {vs : List Nat}, i ∈ vs → wipe (σ.set i x) vs = wipe σ vs
  | [], h => by cases h
  | v :: vs, h => by
    unfold wipe
    by_cases hv : i = v
    · subst hv
      by_cases hm : i ∈ vs
      · rw [wipe_put hm]
      · clear h
        have : ∀ ws : List Nat, i ∉ ws → wipe (σ.set i x) ws = (wipe σ ws).set i x := fun ws => by
          induction ws with
          | nil => intro _; rfl
          | cons w ws ih =>
            intro hn
            unfold wipe
            rw [ih (fun z => hn (List.mem_cons_of_mem _ z))]
            exact List.set_comm _ _ (fun z => hn (by rw [z]; exact List.mem_cons_self ..))
        rw [this vs hm, List.set_set]
    · have hm : i ∈ vs := by
        rcases List.mem_cons.mp h with z | z
        · exact absurd z hv
        · exact z
      rw [wipe_put hm]
/-- only the slots of is have turned; nothing is owned that was not -/
structure Only (is : List Nat) (ρ : Ev) (σ : L2.St) (ρ' : Ev) (σ' : L2.St) : Prop where
  w : ∀ vs : List Nat, (∀ i ∈ is, i ∈ vs) → wipe σ' vs = wipe σ vs
  o : ∀ (j : Nat) (oc : OC), ρ'[j]? = some (some (.own oc)) → ρ[j]? = some (some (.own oc)) ∧ σ'[j]? = σ[j]?
def liftG (K : PySem.W.Frag) (e : Ent) (is : List Nat) (t : D → Ev → (Ev → Prop) → Prop) : TG := fun v σ H Q => ∃ F ρ d, Rp K e ρ F σ H ∧ Dp K F v d ∧ t d ρ fun ρ' => ∀ σ', Rp K e ρ' F σ' H → Only is ρ σ ρ' σ' → Q σ' H
structure PGx (X : Cx) (e : Ent) (is : List Nat) (a : Expr) (t : D → Ev → (Ev → Prop) → Prop) : Prop where
  mono : ∀ d ρ (Q Q' : Ev → Prop), (∀ x, Q x → Q' x) → t d ρ Q → t d ρ Q'
  pg : PG X a (liftG X.K e is t)
def liftGs (K : PySem.W.Frag) (e : Ent) (is : List Nat) (t : List D → Ev → (Ev → Prop) → Prop) : TGs := fun vs σ H Q => ∃ F ρ ds, Rp K e ρ F σ H ∧ DpAll K F vs ds ∧ t ds ρ fun ρ' => ∀ σ', Rp K e ρ' F σ' H → Only is ρ σ ρ' σ' → Q σ' H
structure PGxs (X : Cx) (e : Ent) (is : List Nat) (a : List Expr) (t : List D → Ev → (Ev → Prop) → Prop) : Prop where
  mono : ∀ d ρ (Q Q' : Ev → Prop), (∀ x, Q x → Q' x) → t d ρ Q → t d ρ Q'
  pgs : PGs X a (liftGs X.K e is t)
def yName (i : Nat) : D → Ev → (Ev → Prop) → Prop := fun d ρ Q => Q (ρ.set i (some (.imm d)))
theorem y_name {i : Nat} (h : PG X a (gName i)) : PGx X e [i] a (yName i) := ⟨fun d ρ Q Q' k q => k _ q, ⟨fun pins s σ H v u Q I r ⟨F, ρ, d, rp, dv, q⟩ => h.run pins s σ H v u Q I r (q _ (rp.setD dv) ⟨fun vs hv => wipe_put (hv i (List.mem_singleton.mpr rfl)), fun j oc hj => by
    rcases getSet hj with ⟨_, z⟩ | ⟨hij, hj⟩
    · cases z
    · exact ⟨hj, by rw [List.getElem?_set_ne hij]⟩⟩)⟩⟩
def yNil : List D → Ev → (Ev → Prop) → Prop := fun ds ρ Q => match ds with | [] => Q ρ | _ => False
def yCons (t : D → Ev → (Ev → Prop) → Prop) (u : List D → Ev → (Ev → Prop) → Prop) : List D → Ev → (Ev → Prop) → Prop := fun ds ρ Q => match ds with | d :: r => t d ρ fun ρ' => u r ρ' Q | [] => False
theorem ys_nil : PGxs X e [] [] yNil := ⟨fun d ρ Q Q' k q => by
  cases d with
  | nil => exact k _ q
  | cons d r => exact q, ⟨fun pins s σ H vs us Q I r ⟨F, ρ, ds, rp, dv, q⟩ => pgs_nil.run pins s σ H vs us Q I r (by
    cases ds with
    | cons d r => exact (show False from q).elim
    | nil =>
      cases dv
      exact ⟨rfl, (show ∀ σ', Rp X.K e ρ F σ' H → Only [] ρ σ ρ σ' → Q σ' H from q) σ rp ⟨fun _ _ => rfl, fun j oc hj => ⟨hj, rfl⟩⟩⟩)⟩⟩
theorem ys_cons {es : List Expr} {is js : List Nat} {t : D → Ev → (Ev → Prop) → Prop} {u : List D → Ev → (Ev → Prop) → Prop} (h1 : PGx X e is a t) (h2 : PGxs X e js es u) (hs : (assignEach (a :: es) X.env).map (·.2) = assign a X.env :: (assignEach es X.env).map (·.2) := by rfl) : PGxs X e (is ++ js) (a :: es) (yCons t u) :=
  ⟨fun d ρ Q Q' k q => by
    cases d with
    | nil => exact q
    | cons d r => exact h1.mono d ρ _ _ (fun x hx => h2.mono r x Q Q' k hx) q, ⟨fun pins s σ H vs us Q I rr ⟨F, ρ, ds, rp, dv, q⟩ => (pgs_cons h1.pg h2.pgs hs).run pins s σ H vs us Q I rr (by
    cases ds with
    | nil => exact (show False from q).elim
    | cons d r =>
      cases dv with
      | cons d1 d2 => exact ⟨_, _, rfl, F, ρ, d, rp, d1, h1.mono d ρ _ _ (fun x hx σ' rp' o1 => ⟨F, x, r, rp', d2, h2.mono r x _ _ (fun y hy σ2 rp2 o2 => hy σ2 rp2 ⟨fun vs hv => (o2.w vs fun i hi => hv i (List.mem_append_right _ hi)).trans (o1.w vs fun i hi => hv i (List.mem_append_left _ hi)), fun j oc hj => by
        obtain ⟨h1, h2⟩ := o2.o j oc hj
        obtain ⟨h3, h4⟩ := o1.o j oc h1
        exact ⟨h3, h2.trans h4⟩⟩) hx⟩) q⟩)⟩⟩
def yTup (n : Nat) (u : List D → Ev → (Ev → Prop) → Prop) : D → Ev → (Ev → Prop) → Prop := fun d ρ Q => match d with | .tuple ds => ds.length = n ∧ u ds ρ Q | _ => False
theorem y_tup {es : List Expr} {is : List Nat} {k n : Nat} {u : List D → Ev → (Ev → Prop) → Prop} (hc : X.calm = true) (h : PGxs X e is es u) (hn : (assignEach es X.env).length = n := by rfl) (hst : (assignEach es X.env).findIdx? (·.1) = none := by rfl) : PGx X e is (.Tuple es k pos) (yTup n u) :=
  ⟨fun d ρ Q Q' k q => by
    unfold yTup at q ⊢
    split at q
    · exact ⟨q.1, h.mono _ ρ Q Q' k q.2⟩
    · exact q.elim, ⟨fun pins s σ H v w Q I r ⟨F, ρ, d, rp, dv, q⟩ => (pg_tup hc h.pgs hn hst).run pins s σ H v w Q I r (by
    unfold yTup at q
    split at q
    · cases dv with
      | tup h1 h2 => exact ⟨_, _, rfl, SqTmono rp.sub h1, by rw [DpAll.len h2]; exact q.1, F, ρ, _, rp, h2, q.2⟩
    · exact q.elim)⟩⟩
/-- target = e -/
def zAsg (ta : TX D) (g : D → Ev → (Ev → Prop) → Prop) : TSt := fun P ρ => ta ρ fun d => g d ρ P.nx
theorem z_asg {tg : Expr} {is : List Nat} {g : D → Ev → (Ev → Prop) → Prop} (h : PD X e a ta) (hg : PGx X e is tg g) (hs : swapsWithSole [tg] a pos.line X.env = pure false := by rfl) (hw : swappedStores [tg] a X.env = pure none := by rfl)
    (h1 : (assignEach [tg] X.env).map (·.2) = [assign tg X.env] := by rfl) : PSx X e (.Assign [tg] a pos) (zAsg ta g) := ⟨impS (ps_asg h.pe hg.pg hs hw h1) fun Dd σ H ⟨F, ρ, P, rp, q, lk⟩ =>
  ⟨F, ρ, rp, h.mono ρ _ _ (fun d hd v F' H' g' dv => ⟨F', ρ, d, rp.step g', dv, hg.mono d ρ _ _ (fun x hx σ' rp' _ => lk.nx x σ' F' H' g'.fz rp' hx) hd⟩) q⟩⟩
/-- target = l.pop() -/
def zPop (i : Nat) (g : D → Ev → (Ev → Prop) → Prop) : TSt := fun P ρ => ownL i ρ fun xs => match xs[xs.length - 1]? with | some d => g d (ρ.set i (some (.own (.lst xs.dropLast)))) P.nx | none => False
theorem z_pop {i : Nat} {tg : Expr} {is : List Nat} {g : D → Ev → (Ev → Prop) → Prop} (ho : PE X a (tVar i)) (hg : PGx X e is tg g) (hb0 : attributeBase a "pop" X.env (eval a X.env) = eval a X.env := by rfl) (hline : (apos.endLine == p2.line) = true := by rfl)
    (hs : swapsWithSole [tg] (.Call (.Attribute a "pop" apos) [] [] p2) pos.line X.env = pure false := by rfl) (hw : swappedStores [tg] (.Call (.Attribute a "pop" apos) [] [] p2) X.env = pure none := by rfl)
    (h1 : (assignEach [tg] X.env).map (·.2) = [assign tg X.env] := by rfl) : PSx X e (.Assign [tg] (.Call (.Attribute a "pop" apos) [] [] p2) pos) (zPop i g) :=
  ⟨impS (ps_asg (pe_bm0 PySem.F.plainAttrs_list PySem.F.slot_list_pop PySem.F.type_list_pop mt_pop ho hb0 hline) hg.pg hs hw h1) fun Dd σ H ⟨F, ρ, P, rp, q, lk⟩ => by
    obtain ⟨xs, h1, q⟩ := ownL_of q
    split at q
    · rename_i d hd
      obtain ⟨p, vs, v, g1, g2, g3, g4, g5⟩ := pop_ok rp h1 hd
      exact ⟨.ref p, g1, .inl ⟨rfl, vs, SqL.of g2⟩, p, vs, v, rfl, rfl, g2, g3, F, _, d, g5, g4, hg.mono d _ _ _ (fun x hx σ' rp' _ => lk.nx x σ' F _ (Same.refl _) rp' hx) q⟩
    · exact q.elim⟩
theorem z_popN {i : Nat} {x : Str} {px : Pos} {g : D → Ev → (Ev → Prop) → Prop} {j : Nat} (hN : X.N.Nodup) (hi : X.N[j]? = some x) (hx : Loc X.env.scope x) (ho : PE X a (tVar i)) (hb0 : attributeBase a "pop" X.env (eval a X.env) = eval a X.env := by rfl) (hline : (apos.endLine == p2.line) = true := by rfl)
    (hs : swapsWith (.Call (.Attribute a "pop" apos) [] [] p2) (some (.Name x px)) pos.line X.env = pure false := by rfl) (hf : X.fn x = true ∨ X.env.scope.names.lookup x = some .local := by first | exact .inl rfl | exact .inr rfl | assumption) : PSx X e (.Assign [.Name x px] (.Call (.Attribute a "pop" apos) [] [] p2) pos) (zPop i (yName j)) :=
  ⟨impS (ps_set hN hi hx (pe_bm0 PySem.F.plainAttrs_list PySem.F.slot_list_pop PySem.F.type_list_pop mt_pop ho hb0 hline) hs hf) fun Dd σ H ⟨F, ρ, P, rp, q, lk⟩ => by
    obtain ⟨xs, h1, q⟩ := ownL_of q
    split at q
    · rename_i d hd
      obtain ⟨p, vs, v, g1, g2, g3, g4, g5⟩ := pop_ok rp h1 hd
      exact ⟨.ref p, g1, .inl ⟨rfl, vs, SqL.of g2⟩, p, vs, v, rfl, rfl, g2, g3, lk.nx _ _ F _ (Same.refl _) (g5.setD g4) q⟩
    · exact q.elim⟩
/-- l[i] = e, l one's own -/
def zStore (i : Nat) (tb ta : TX D) : TSt := fun P ρ => ta ρ fun d => ownL i ρ fun xs => tb ρ fun k => match k with | .int n => someOf (ixN xs.length n) fun j => P.nx (ρ.set i (some (.own (.lst (xs.set j d))))) | _ => False
theorem z_store {i : Nat} (h : PD X e a ta) (ho : PE X c (tVar i)) (hi : PD X e b tb)
    (ha : ∀ v, assign (.Subscript c b p2) X.env v = (do
      let ov ← holding [v] (eval c X.env)
      let iv ← holding [v, ov] (eval b X.env)
      standAt p2
      holding [v, ov, iv] (setItem ov iv v)
      release [v, ov, iv] []) := by intro _; rfl)
    (hs : swapsWithSole [.Subscript c b p2] a pos.line X.env = pure false := by rfl) (hw : swappedStores [.Subscript c b p2] a X.env = pure none := by rfl)
    (h1 : (assignEach [.Subscript c b p2] X.env).map (·.2) = [assign (.Subscript c b p2) X.env] := by rfl) : PSx X e (.Assign [.Subscript c b p2] a pos) (zStore i tb ta) :=
  ⟨impS (ps_asg h.pe (pg_sub ho hi.pe set_list ha) hs hw h1) fun Dd σ H ⟨F, ρ, P, rp, q, lk⟩ => ⟨F, ρ, rp, h.mono ρ _ _ (fun d hd v F1 H1 g1 dv => by
    have rp1 := rp.step g1
    obtain ⟨xs, hx, hd⟩ := ownL_of hd
    obtain ⟨p, vs, q1, q2, q3, q4⟩ := rp1.ownL hx
    refine ⟨.ref p, q1, F1, ρ, rp1, hi.mono ρ _ _ (fun k hk w F2 H2 g2 dw => ?_) hd⟩
    cases k with
    | int n =>
      obtain ⟨j, hj, hk⟩ := someOf_of (show someOf (ixN xs.length n) fun j => P.nx (ρ.set i (some (.own (.lst (xs.set j d))))) from hk)
      · cases dw
        have q3' := dpAllMono g2.fz xs q3
        refine ⟨p, vs, n, j, rfl, rfl, g2.st p _ q2 q4, by rw [DpAll.len q3]; exact hj, lk.nx _ _ F2 _ (g1.fz.trans g2.fz) ((rp1.step g2).write (o' := .lst (xs.set j d)) hx q1 ⟨_, upd_same, DpAll.set (dpMono g2.fz d dv) j q3'⟩) hk⟩
    | _ => exact (show False from hk).elim) q⟩⟩
end
end PL
set_option Elab.async false
set_option linter.all false
set_option maxRecDepth 100000
set_option maxHeartbeats 4000000
namespace PL
open PySem PySem.Spec PyProof.Rows L2
/-! ### what is walked -/
structure WalkOk (K : PySem.W.Frag) (e : Ent) (fz : Bool) (F H : Hp) (J : It) (xs : List D) : Prop where
  ex : ∃ G Y, Walk J xs.length G Y ∧ (∀ H' : Hp, (if fz = true then Same F H' else Same (Msk e.M H) (Msk e.M H')) → G H') ∧
    ∀ i H1 x H2 d F1, xs[i]? = some d → Same F F1 → e.toDl.Ok F1 H1 → e.toDl.Stay → Y i H1 x H2 → ∃ F2, Gr e.toDl F1 H1 F2 H2 ∧ Dp K F2 x d
def liftI (K : PySem.W.Frag) (e : Ent) (fz : Bool) (t : TX (List D)) : TI := fun σ H R => ∃ F ρ, Rp K e ρ F σ H ∧ t ρ fun xs => ∀ J F' H', Gr e.toDl F H F' H' → WalkOk K e fz F' H' J xs → R J H'
structure PIx (X : Cx) (e : Ent) (fz : Bool) (tg it : Expr) (t : TX (List D)) : Prop where
  mono : MonoX t
  pi : PI X tg it (liftI X.K e fz t)
theorem impI {X : Cx} {tg x : Expr} {t t' : TI} (h : PI X tg x t) (k : ∀ σ H Q, t' σ H Q → t σ H Q) : PI X tg x t' := ⟨fun pins s σ H R I q => h.run pins s σ H R I (k σ H R q)⟩
section
variable {X : Cx} {e : Ent} {α β γ : Type} {k1 : Kd e α} {k2 : Kd e β} {a b c tg : Expr} {fz : Bool} {pos p2 pf : Pos} {ta tb : TX D} {sc : TX Bool} {tq tq2 : TX (Bool × List D)}
theorem walkL {K : PySem.W.Frag} {F H : Hp} {p : Addr} {vs : List V} {xs : List D} (h : DpAll K F vs xs) (hG : ∀ H' : Hp, (if fz = true then Same F H' else Same (Msk e.M H) (Msk e.M H')) → SqL K H' p vs) : WalkOk K e fz F H (Itl K p) xs :=
  ⟨_, _, by rw [← DpAll.len h]; exact walk_list, hG, fun i H1 x H2 d F1 hd s ok st y => by
    obtain ⟨rfl, y⟩ := y
    obtain ⟨v, h1, h2⟩ := DpAll.get h hd
    rw [y] at h1
    cases h1
    exact ⟨F1, Gr.refl ok, dpMono s d h2⟩⟩
theorem walkT {K : PySem.W.Frag} {F H : Hp} {p : Addr} {vs : List V} {xs : List D} (h : DpAll K F vs xs) (hG : ∀ H' : Hp, (if fz = true then Same F H' else Same (Msk e.M H) (Msk e.M H')) → SqT K H' p vs) : WalkOk K e fz F H (Itt K p) xs :=
  ⟨_, _, by rw [← DpAll.len h]; exact walk_tup, hG, fun i H1 x H2 d F1 hd s ok st y => by
    obtain ⟨rfl, y⟩ := y
    obtain ⟨v, h1, h2⟩ := DpAll.get h hd
    rw [y] at h1
    cases h1
    exact ⟨F1, Gr.refl ok, dpMono s d h2⟩⟩
def listOf (d : D) (Q : List D → Prop) : Prop := match d with | .list xs => Q xs | _ => False
def tupOf (d : D) (Q : List D → Prop) : Prop := match d with | .tuple xs => Q xs | _ => False
theorem listOf_mono {d : D} {Q Q' : List D → Prop} (h : ∀ x, Q x → Q' x) (q : listOf d Q) : listOf d Q' := by
  unfold listOf at q ⊢
  split at q
  · exact h _ q
  · exact q.elim
theorem tupOf_mono {d : D} {Q Q' : List D → Prop} (h : ∀ x, Q x → Q' x) (q : tupOf d Q) : tupOf d Q' := by
  unfold tupOf at q ⊢
  split at q
  · exact h _ q
  · exact q.elim
def iL (ta : TX D) : TX (List D) := fun ρ Q => ta ρ fun d => listOf d Q
def iT (ta : TX D) : TX (List D) := fun ρ Q => ta ρ fun d => tupOf d Q
def iO (tq : TX (Bool × List D)) : TX (List D) := fun ρ Q => tq ρ fun x => x.1 = false ∧ Q x.2
theorem stabD {K : PySem.W.Frag} {F H H' : Hp} (ok : e.toDl.Ok F H) (h : if fz = true then Same F H' else Same (Msk e.M H) (Msk e.M H')) : Same F H' := by
  cases fz with
  | true =>
    rw [if_pos rfl] at h
    exact h
  | false =>
    rw [if_neg Bool.false_ne_true] at h
    exact (ok.msk.trans h).trans msk_sub
/-- over data that is a list -/
theorem pi_l (h : PD X e a ta) : PIx X e fz tg a (iL ta) := ⟨fun ρ Q Q' k q => h.mono ρ _ _ (fun d hd => listOf_mono k hd) q, impI (pi_list h.pe) fun σ H R ⟨F, ρ, rp, q⟩ => ⟨F, ρ, rp, h.mono ρ _ _ (fun d hd v F' H' g dv => by
    unfold listOf at hd
    split at hd
    · cases dv with
      | lst h1 h2 => exact ⟨_, rfl, ⟨_, SqLmono g.ok.sub h1⟩, hd _ F' H' g (walkL h2 fun H' z => SqLmono (stabD (K := X.K) g.ok z) h1)⟩
    · exact hd.elim) q⟩⟩
theorem pi_t (h : PD X e a ta) : PIx X e fz tg a (iT ta) := ⟨fun ρ Q Q' k q => h.mono ρ _ _ (fun d hd => tupOf_mono k hd) q, impI (pi_tup h.pe) fun σ H R ⟨F, ρ, rp, q⟩ => ⟨F, ρ, rp, h.mono ρ _ _ (fun d hd v F' H' g dv => by
    unfold tupOf at hd
    split at hd
    · cases dv with
      | tup h1 h2 => exact ⟨_, rfl, ⟨_, SqTmono g.ok.sub h1⟩, hd _ F' H' g (walkT h2 fun H' z => SqTmono (stabD (K := X.K) g.ok z) h1)⟩
    · exact hd.elim) q⟩⟩
/-- .. a list that is one's own, or fresh (in a comprehension) -/
theorem pi_o (h : PQ X e a tq) : PIx X e false tg a (iO tq) := ⟨fun ρ Q Q' k q => h.mono ρ _ _ (fun d hd => ⟨hd.1, k _ hd.2⟩) q, impI (pi_list h.pe) fun σ H R ⟨F, ρ, rp, q⟩ => ⟨F, ρ, rp, h.mono ρ _ _ (fun d hd v F' H' g dv => by
    obtain ⟨b, xs⟩ := d
    obtain ⟨e1, hd⟩ := hd
    simp only at e1
    subst e1
    obtain ⟨p, vs, e1, e2, e3⟩ := dv
    rw [if_neg Bool.false_ne_true] at e2
    exact ⟨p, e1, ⟨vs, SqLmono msk_sub e2⟩, hd _ F' H' g (walkL e3 fun H' z => by
      rw [if_neg Bool.false_ne_true] at z
      exact SqLmono (z.trans msk_sub) e2)⟩) q⟩⟩
def intsD (lo : Int) (n : Nat) : List D := (List.range n).map fun i => .int (lo + (i : Nat))
theorem walkR {K : PySem.W.Frag} {F H : Hp} {lo : Int} {n : Nat} : WalkOk K e fz F H (Itr lo n) (intsD lo n) :=
  ⟨_, _, by unfold intsD; rw [List.length_map, List.length_range]; exact walk_range, fun _ _ => trivial, fun i H1 x H2 d F1 hd s ok st y => by
    obtain ⟨rfl, y⟩ := y
    subst y
    unfold intsD at hd
    rw [List.getElem?_map] at hd
    obtain ⟨j, h1, h2⟩ := Option.map_eq_some_iff.mp hd
    rw [List.getElem?_range (by
      by_cases z : i < n
      · exact z
      · rw [List.getElem?_eq_none (by rw [List.length_range]; omega)] at h1
        cases h1)] at h1
    cases h1
    subst h2
    exact ⟨F1, Gr.refl ok, .int _⟩⟩
def iR1 (ta : TX D) : TX (List D) := fun ρ Q => ta ρ fun d => match d with | .int j => (-(2 ^ 62) ≤ j ∧ j < 2 ^ 62) ∧ Q (intsD 0 j.toNat) | _ => False
theorem pi_r1 (hg : Gl X "range") (hm : X.mg "range" = none) (h : PD X e a ta) (hs : starEach [a] X.env = [(false, eval a X.env)] := by rfl) : PIx X e fz tg (.Call (.Name "range" pf) [a] [] pos) (iR1 ta) :=
  ⟨fun ρ Q Q' k q => h.mono ρ _ _ (fun d hd => by
    cases d with
    | int j => exact ⟨hd.1, k _ hd.2⟩
    | _ => exact hd) q, impI (pi_range1 hg hm (pa_cons h.pe pa_nil hs) hs) fun σ H R ⟨F, ρ, rp, q⟩ => ⟨F, ρ, rp, h.mono ρ _ _ (fun d hd v F' H' g dv => by
    cases d with
    | int j =>
      cases dv
      exact ⟨j, rfl, hd.1.1, hd.1.2, (show ∀ J F' H', Gr e.toDl F H F' H' → WalkOk X.K e fz F' H' J (intsD 0 j.toNat) → R J H' from hd.2) _ F' H' g walkR⟩
    | _ => exact (show False from hd).elim) q⟩⟩
def iR2 (ta tb : TX D) : TX (List D) := fun ρ Q => ta ρ fun d => tb ρ fun d' => match d, d' with | .int i, .int j => (-(2 ^ 62) ≤ i ∧ i < 2 ^ 62 ∧ -(2 ^ 62) ≤ j ∧ j < 2 ^ 62) ∧ Q (intsD i (j - i).toNat) | _, _ => False
theorem pi_r2 (hg : Gl X "range") (hm : X.mg "range" = none) (h : PD X e a ta) (h2 : PD X e b tb) (hs : starEach [a, b] X.env = [(false, eval a X.env), (false, eval b X.env)] := by rfl) (hs2 : starEach [b] X.env = [(false, eval b X.env)] := by rfl) : PIx X e fz tg (.Call (.Name "range" pf) [a, b] [] pos) (iR2 ta tb) :=
  ⟨fun ρ Q Q' k q => h.mono ρ _ _ (fun d hd => h2.mono ρ _ _ (fun d' hd' => by
    split at hd' <;> first | exact ⟨hd'.1, k _ hd'.2⟩ | exact hd'.elim) hd) q, impI (pi_range2 hg hm (pa_cons h.pe (pa_cons h2.pe pa_nil hs2) (by rw [hs, hs2])) hs hs2) fun σ H R ⟨F, ρ, rp, q⟩ => ⟨F, ρ, rp, h.mono ρ _ _ (fun d hd v F1 H1 g1 dv => ⟨F1, ρ, rp.step g1, h2.mono ρ _ _ (fun d' hd' w F2 H2 g2 dw => by
    split at hd'
    · cases dv
      cases dw
      exact ⟨_, _, rfl, hd'.1, hd'.2 _ F2 H2 (g1.trans rp.ok g2) walkR⟩
    · exact hd'.elim) hd⟩) q⟩⟩
/-! ### for -/
variable {it : Expr} {is : List Nat} {sts : List Stmt} {tl : TX (List D)} {t u : TSt} {g : D → Ev → (Ev → Prop) → Prop}
def forT (g : D → Ev → (Ev → Prop) → Prop) (tb : TSt) (P : Es) : List D → Ev → Prop
  | [], ρ => P.nx ρ
  | d :: r, ρ => g d ρ fun ρ' => tb { P with nx := forT g tb P r, ct := forT g tb P r, bk := P.nx } ρ'
def zFor (tl : TX (List D)) (g : D → Ev → (Ev → Prop) → Prop) (tb : TSt) : TSt := fun P ρ => tl ρ fun xs => forT g tb P xs ρ
theorem z_for (hp : PassesOwn (model X.prog X.w) X.A X.env X.xe) (hc : X.calm = true) (hi : PIx X e true tg it tl) (hg : PGx X e is tg g) (hb : PSxs X e sts t) (hs : ∀ x, foldedSetIterable it X.env x = pure x := by intro _; rfl) : PSx X e (.For tg it sts [] pos) (zFor tl g t) :=
  ⟨impS (ps_for hp hc hi.pi hg.pg hb.pss hs) fun Dd σ H ⟨F, ρ, P, rp, q, lk⟩ => ⟨F, ρ, rp, hi.mono ρ _ _ (fun xs hxs J F1 H1 g1 ⟨G, Y, w, hG, hY⟩ => by
    refine for_it w (fun i σ H => ∃ F2 ρ2, Rp X.K e ρ2 F2 σ H ∧ Same F1 F2 ∧ forT g t P (xs.drop i) ρ2) ⟨F1, ρ, rp.step g1, Same.refl _, by rw [List.drop_zero]; exact hxs⟩ (fun i σ2 H2 _ ⟨F2, ρ2, rp2, s2, _⟩ => hG H2 (by rw [if_pos rfl]; exact s2.trans rp2.sub)) (fun i x σ2 H2 H3 hi' ⟨F2, ρ2, rp2, s2, q2⟩ y => ?_) (fun σ2 H2 ⟨F2, ρ2, rp2, s2, q2⟩ => ?_)
    · obtain ⟨d, hd⟩ : ∃ d, xs[i]? = some d := ⟨xs[i], by simp [hi']⟩
      obtain ⟨F3, g3, dv⟩ := hY i H2 x H3 d F2 hd s2 rp2.ok rp2.stay y
      have e1 : xs.drop i = d :: xs.drop (i + 1) := by
        rw [List.drop_eq_getElem_cons hi']
        congr 1
        have := List.getElem?_eq_some_iff.mp hd
        exact this.2
      rw [e1] at q2
      refine ⟨F3, ρ2, d, rp2.step g3, dv, hg.mono d ρ2 _ _ (fun ρ3 q3 σ3 rp3 _ => ⟨F3, ρ3, _, rp3, q3, ?_⟩) q2⟩
      have s3 := s2.trans g3.fz
      exact ⟨fun ρ4 σ4 F4 H4 z rp4 q4 => ⟨F4, ρ4, rp4, s3.trans z, q4⟩, lk.rt, fun ρ4 σ4 F4 H4 z rp4 q4 => lk.nx ρ4 σ4 F4 H4 (g1.fz.trans (s3.trans z)) rp4 q4, fun ρ4 σ4 F4 H4 z rp4 q4 => ⟨F4, ρ4, rp4, s3.trans z, q4⟩⟩
    · rw [List.drop_length] at q2
      exact lk.nx ρ2 σ2 F2 H2 (g1.fz.trans s2) rp2 q2) q⟩⟩
/-! ### while -/
def zWhile (s : TX Bool) (tb : TSt) : TSt := fun P ρ => ∃ W : Nat → Ev → Prop, (∃ m, W m ρ) ∧ ∀ m ρ, W m ρ → s ρ fun k => if k = true then tb { P with nx := fun ρ' => ∃ m', m' < m ∧ W m' ρ', ct := fun ρ' => ∃ m', m' < m ∧ W m' ρ', bk := P.nx } ρ else P.nx ρ
theorem z_while (hp : PassesOwn (model X.prog X.w) X.A X.env X.xe) (hc : PB X e c sc) (hb : PSxs X e sts t) : PSx X e (.While c sts [] pos) (zWhile sc t) :=
  ⟨impS (ps_while hp hc.pt hb.pss) fun Dd σ H ⟨F, ρ, P, rp, ⟨W, ⟨m0, w0⟩, turn⟩, lk⟩ => by
    refine ⟨fun m σ H => ∃ F2 ρ2, Rp X.K e ρ2 F2 σ H ∧ Same F F2 ∧ W m ρ2, ⟨m0, F, ρ, rp, Same.refl _, w0⟩, fun m σ2 H2 ⟨F2, ρ2, rp2, s2, w2⟩ => ⟨F2, ρ2, rp2, hc.mono ρ2 _ _ (fun k hk F3 H3 g3 => ?_) (turn m ρ2 w2)⟩⟩
    have s3 := s2.trans g3.fz
    cases k with
    | true =>
      rw [if_pos rfl] at hk
      refine iteT ⟨fun σ' H' => ∃ m', m' < m ∧ ∃ F2 ρ2, Rp X.K e ρ2 F2 σ' H' ∧ Same F F2 ∧ W m' ρ2, fun _ _ z => z, F3, ρ2, _, rp2.step g3, hk, ?_⟩
      exact ⟨fun ρ4 σ4 F4 H4 z rp4 ⟨m', hm, w4⟩ => ⟨m', hm, F4, ρ4, rp4, s3.trans z, w4⟩, lk.rt, fun ρ4 σ4 F4 H4 z rp4 q4 => lk.nx ρ4 σ4 F4 H4 (s3.trans z) rp4 q4, fun ρ4 σ4 F4 H4 z rp4 ⟨m', hm, w4⟩ => ⟨m', hm, F4, ρ4, rp4, s3.trans z, w4⟩⟩
    | false =>
      rw [if_neg Bool.false_ne_true] at hk
      exact iteF (lk.nx ρ2 σ2 F3 H3 s3 (rp2.step g3) hk)⟩
/-! ### comprehensions -/
def wipeE (ρ : Ev) : List Nat → Ev
  | [] => ρ
  | v :: vs => (wipeE ρ vs).set v none
theorem getNone {α : Type} {l : List (Option α)} {i j : Nat} {x : α} (h : (l.set i none)[j]? = some (some x)) : i ≠ j ∧ l[j]? = some (some x) := by
  by_cases hij : i = j
  · subst hij
    rw [List.getElem?_set] at h
    simp at h
  · rw [List.getElem?_set_ne hij] at h
    exact ⟨hij, h⟩
theorem Rp.wipe1 {K : PySem.W.Frag} {ρ : Ev} {σ : L2.St} {F H : Hp} {i : Nat} (r : Rp K e ρ F σ H) : Rp K e (ρ.set i none) F (σ.set i none) H where
  len := by rw [List.length_set, List.length_set]; exact r.len
  ok0 := r.ok0
  gr := r.gr
  stay := r.stay
  slots := fun j q hq => by
    obtain ⟨hij, hq⟩ := getNone hq
    obtain ⟨v, h1, h2⟩ := r.slots j q hq
    exact ⟨v, by rw [List.getElem?_set_ne hij]; exact h1, h2⟩
  apart := fun j k x y a hjk hx hy hj hk => by
    obtain ⟨h1, hx⟩ := getNone hx
    obtain ⟨h2, hy⟩ := getNone hy
    rw [List.getElem?_set_ne h1] at hj
    rw [List.getElem?_set_ne h2] at hk
    exact r.apart j k x y a hjk hx hy hj hk
theorem Rp.wipe {K : PySem.W.Frag} {ρ : Ev} {σ : L2.St} {F H : Hp} (r : Rp K e ρ F σ H) : ∀ vs : List Nat, Rp K e (wipeE ρ vs) F (wipe σ vs) H
  | [] => r
  | v :: vs => (Rp.wipe r vs).wipe1
def compT (g : D → Ev → (Ev → Prop) → Prop) (tt : TX Bool) (te : TX D) (ρ : Ev) : List D → List D → (List D → Prop) → Prop
  | [], acc, Q => Q acc
  | d :: r, acc, Q => g d ρ fun ρ' => tt ρ' fun k => if k = true then te ρ' fun y => acc.length < sizeLine ∧ compT g tt te ρ r (acc ++ [y]) Q else compT g tt te ρ r acc Q
structure PTx (X : Cx) (e : Ent) (ifs : List Expr) (t : TX Bool) : Prop where
  mono : MonoX t
  pts : PTs X ifs (liftT X.K e t)
theorem px_yes : PTx X e [] (xC true) := ⟨xC_mono, ⟨fun pins s σ H Q I ⟨F, ρ, rp, q⟩ => pts_nil.run pins s σ H Q I (q F H (.refl rp.ok))⟩⟩
theorem px_one (h : PB X e c sc) : PTx X e [c] sc := ⟨h.mono, pts_one h.pt⟩
theorem compT_mono {tt : TX Bool} {te : TX D} (mg : ∀ d ρ (Q Q' : Ev → Prop), (∀ x, Q x → Q' x) → g d ρ Q → g d ρ Q') (mt : MonoX tt) (me : MonoX te) {ρ : Ev} {Q Q' : List D → Prop} (k : ∀ x, Q x → Q' x) : ∀ (xs acc : List D), compT g tt te ρ xs acc Q → compT g tt te ρ xs acc Q'
  | [], acc, q => k _ q
  | d :: r, acc, q => mg d ρ _ _ (fun ρ' q => mt ρ' _ _ (fun b q => by
    cases b with
    | true =>
      rw [if_pos rfl] at q ⊢
      exact me ρ' _ _ (fun y q => ⟨q.1, compT_mono mg mt me k r _ q.2⟩) q
    | false =>
      rw [if_neg Bool.false_ne_true] at q ⊢
      exact compT_mono mg mt me k r _ q) q) q
def xLc (tl : TX (List D)) (g : D → Ev → (Ev → Prop) → Prop) (tt : TX Bool) (te : TX D) (vs : List Nat) : TX OC := fun ρ Q => tl ρ fun xs => compT g tt te (wipeE ρ vs) xs [] fun ys => Q (.lst ys)
theorem lc_read {K : PySem.W.Frag} {fzz : Bool} {own : List (Str × Nat)} {tt : TX Bool} {te : TX D} (mi : MonoX tl) (mg : ∀ d ρ (Q Q' : Ev → Prop), (∀ x, Q x → Q' x) → g d ρ Q → g d ρ Q') (mt : MonoX tt) (me : MonoX te) (hv : ∀ i ∈ is, i ∈ own.map (·.2)) {σ : L2.St} {H : Hp} {Q : VK}
    (h : lift K e (kN K e) (xLc tl g tt te (own.map (·.2))) σ H Q) : tLc (liftI K e false tl) (liftG K e is g) (liftT K e tt) (lift K e (kD K e) te) (own.map (·.2)) σ H Q := by
  obtain ⟨F, ρ, rp, q⟩ := h
  refine ⟨F, ρ, rp, mi ρ _ _ (fun xs hxs J F1 H1 g1 ⟨G, Y, w, hG, hY⟩ => ?_) q⟩
  intro Dn hD
  have rp1 := rp.step g1
  have hm : ¬ e.M Dn := g1.ok.fM hD
  -- what stands at each turn: the new list at Dn with acc, the rest of the comprehension
  refine lc_it w (fun i H2 => ∃ F2 acc vs, Gr e.toDl F1 H1 F2 H2 ∧ H2 Dn = some (.lst vs) ∧ DpAll K F2 vs acc ∧ F2 Dn = none ∧ compT g tt te (wipeE ρ (own.map (·.2))) (xs.drop i) acc (fun ys => Fin (kN K e) F H Q (.lst ys))) ?_ ?_ ?_ ?_
  · exact ⟨F1, [], [], Gr.newO g1.ok rp1.stay hD, upd_same, .nil, g1.ok.sub.free hD, by rw [List.drop_zero]; exact hxs⟩
  · intro i H2 _ ⟨F2, acc, vs, g2, _⟩
    refine hG H2 ?_
    rw [if_neg Bool.false_ne_true]
    exact g2.msk
  · intro i x H2 H3 hi' ⟨F2, acc, vs, g2, hDn, hacc, hF, q2⟩ y
    obtain ⟨d, hd⟩ : ∃ d, xs[i]? = some d := ⟨xs[i], by simp [hi']⟩
    obtain ⟨F3, g3, dv⟩ := hY i H2 x H3 d F2 hd g2.fz g2.ok rp1.stay y
    have e1 : xs.drop i = d :: xs.drop (i + 1) := by
      rw [List.drop_eq_getElem_cons hi']
      congr 1
      exact (List.getElem?_eq_some_iff.mp hd).2
    rw [e1, compT] at q2
    have g13 := g2.trans g1.ok g3
    have rp3 : Rp K e ρ F3 σ H3 := rp1.step g13
    refine ⟨F3, wipeE ρ (own.map (·.2)), d, rp3.wipe _, dv, mg d _ _ _ (fun ρ4 q4 σ4 rp4 o4 => ?_) q2⟩
    refine ⟨?_, F3, ρ4, rp4, mt ρ4 _ _ (fun k hk F5 H5 g5 => ?_) q4⟩
    · have := o4.w (own.map (·.2)) hv
      rw [this]
      have : ∀ vs : List Nat, wipe (wipe σ vs) vs = wipe σ vs := fun vs => by
        have key : ∀ (us ws : List Nat), (∀ u ∈ us, u ∈ ws) → wipe (wipe σ us) ws = wipe σ ws := fun us => by
          induction us with
          | nil => intro ws _; rfl
          | cons u us ih =>
            intro ws h
            show wipe ((wipe σ us).set u none) ws = wipe σ ws
            rw [wipe_put (h u (List.mem_cons_self ..)), ih ws fun z hz => h z (List.mem_cons_of_mem _ hz)]
        exact key vs vs fun _ z => z
      exact this _
    have g15 := g13.trans g1.ok g5
    have keepD : ∀ (F6 H6 : Hp), Gr e.toDl F3 H3 F6 H6 → H6 Dn = some (.lst vs) ∧ F6 Dn = none := fun F6 H6 g6 => by
      have a1 := g6.st Dn _ (g3.st Dn _ hDn hm) hm
      refine ⟨a1, ?_⟩
      cases z : F6 Dn with
      | none => rfl
      | some u =>
        have b3 : F3 Dn = none := by
          cases z3 : F3 Dn with
          | none => rfl
          | some u3 =>
            have := g3.new Dn u3 z3 hF
            rw [hDn] at this
            cases this
        have := g6.new Dn u z b3
        rw [g3.st Dn _ hDn hm] at this
        cases this
    cases k with
    | false =>
      rw [if_neg Bool.false_ne_true] at hk
      refine iteF ?_
      obtain ⟨a1, a2⟩ := keepD F5 H5 g5
      exact ⟨F5, acc, vs, g15, a1, dpAllMono (g3.fz.trans g5.fz) acc hacc, a2, hk⟩
    | true =>
      rw [if_pos rfl] at hk
      refine iteT ⟨F5, ρ4, rp4.step g5, me ρ4 _ _ (fun y' hy v F6 H6 g6 dv6 => ?_) hk⟩
      have g36 := g5.trans rp4.ok g6
      obtain ⟨a1, a2⟩ := keepD F6 H6 g36
      have acc6 := dpAllMono (g3.fz.trans g36.fz) acc hacc
      refine ⟨vs, a1, by rw [DpAll.len hacc]; exact hy.1, F6, acc ++ [y'], vs ++ [v], ?_, upd_same, DpAll.app acc6 (.cons dv6 .nil), a2, hy.2⟩
      have g16 := g15.trans g1.ok g6
      have ne : ∀ b u, F6 b = some u → b ≠ Dn := fun b u q z => by rw [z, a2] at q; cases q
      exact ⟨g16.fz, g16.new, fun b u q m => by rw [upd_ne (ne_of_none q hD)]; exact g16.st b u q m, ⟨fun b u q => by rw [upd_ne (ne b u q)]; exact g16.ok.sub b u q, fun b m => ⟨(g16.ok.mu b m).1, by
        obtain ⟨_, u, q⟩ := g16.ok.mu b m
        exact ⟨u, by rw [upd_ne (fun z => hm (by rw [← z]; exact m))]; exact q⟩⟩, rp1.stay _ _ g16.ok.inv fun b m => by rw [upd_ne (fun z => hm (by rw [← z]; exact m))]⟩⟩
  · intro H2 ⟨F2, acc, vs, g2, hDn, hacc, hF, q2⟩
    rw [List.drop_length] at q2
    have q2 : Fin (kN K e) F H Q (.lst acc) := q2
    refine q2 (.ref Dn) F2 H2 (g1.trans rp.ok g2) ⟨Dn, rfl, ⟨vs, hDn, hacc⟩, hF, ?_, hm⟩
    cases z : H Dn with
    | none => rfl
    | some u =>
      have := g1.st Dn u z hm
      rw [hD] at this
      cases this
theorem pn_lc {elt iter : Expr} {ifs : List Expr} {scope : Scope} {own : List (Str × Nat)} {tt : TX Bool} {te : TX D} (hc : X.calm = true) (hN : X.N.Nodup) (hi : PIx X e false tg iter tl) (ok : BlkOk X.N X.env.scope scope own)
    (hg : ∀ (s : Shared) (H : Hp) (C : Addr) (cl : List (Str × Addr)) (fp : List Addr), PGx (X.blk s H scope (compEnvC scope cl C X.env) fp) e is tg g) (ht : ∀ (s : Shared) (H : Hp) (C : Addr) (cl : List (Str × Addr)) (fp : List Addr), PTx (X.blk s H scope (compEnvC scope cl C X.env) fp) e ifs tt)
    (he : ∀ (s : Shared) (H : Hp) (C : Addr) (cl : List (Str × Addr)) (fp : List Addr), PD (X.blk s H scope (compEnvC scope cl C X.env) fp) e elt te) (hv : ∀ i ∈ is, i ∈ own.map (·.2)) (hs : ∀ x, foldedSetIterable iter X.env x = pure x := by intro _; rfl) :
    PN X e (.ListComp elt [⟨tg, iter, ifs, 0⟩] scope pos) (xLc tl g tt te (own.map (·.2))) := by
  have mg := (hg X.s_0 (fun _ => none) 0 [] []).mono
  have mt := (ht X.s_0 (fun _ => none) 0 [] []).mono
  have me := (he X.s_0 (fun _ => none) 0 [] []).mono
  exact ⟨fun ρ Q Q' k q => hi.mono ρ _ _ (fun xs hxs => compT_mono mg mt me (fun ys => k _) xs [] hxs) q, imp (pe_lc (g := liftG X.K e is g) (tt := liftT X.K e tt) (te := lift X.K e (kD X.K e) te) hc hN hi.pi ok (fun s H C cl fp => (hg s H C cl fp).pg) (fun s H C cl fp => (ht s H C cl fp).pts) (fun s H C cl fp => (he s H C cl fp).pe) hs) fun σ H Q h => lc_read (fzz := true) hi.mono mg mt me hv h⟩
/-- name = [..] on one line -/
theorem z_setLc {α : Type} {k1 : Kd e α} {pv : α → PV} {tx : TX α} {i : Nat} {y : Str} {py : Pos} {elt iter : Expr} {ifs : List Expr} {scope : Scope} {own : List (Str × Nat)} {spos : Pos} {tt : TX Bool} {te : TX D} (hc : X.calm = true) (hN : X.N.Nodup) (hy : X.N[i]? = some y) (hyl : X.env.scope.names.lookup y = some .local)
    (hsw : swapsWith (.ListComp elt [⟨tg, iter, ifs, 0⟩] scope pos) (some (.Name y py)) spos.line X.env = pure true) (hi : PIx X e false tg iter tl) (ok : BlkOk X.N X.env.scope scope own)
    (hg : ∀ (s : Shared) (H : Hp) (C : Addr) (cl : List (Str × Addr)) (fp : List Addr), PGx (X.blk s H scope (compEnvC scope cl C X.env) fp) e is tg g) (ht : ∀ (s : Shared) (H : Hp) (C : Addr) (cl : List (Str × Addr)) (fp : List Addr), PTx (X.blk s H scope (compEnvC scope cl C X.env) fp) e ifs tt)
    (he : ∀ (s : Shared) (H : Hp) (C : Addr) (cl : List (Str × Addr)) (fp : List Addr), PD (X.blk s H scope (compEnvC scope cl C X.env) fp) e elt te) (hv : ∀ i ∈ is, i ∈ own.map (·.2)) (hs : ∀ x, foldedSetIterable iter X.env x = pure x := by intro _; rfl) :
    PSx X e (.Assign [.Name y py] (.ListComp elt [⟨tg, iter, ifs, 0⟩] scope pos) spos) (zSet .own i (xLc tl g tt te (own.map (·.2)))) := by
  have mg := (hg X.s_0 (fun _ => none) 0 [] []).mono
  have mt := (ht X.s_0 (fun _ => none) 0 [] []).mono
  have me := (he X.s_0 (fun _ => none) 0 [] []).mono
  refine ⟨impS (ps_setLc (g := liftG X.K e is g) (tt := liftT X.K e tt) (te := lift X.K e (kD X.K e) te) hc hN hy hyl hsw hi.pi ok (fun s H C cl fp => (hg s H C cl fp).pg) (fun s H C cl fp => (ht s H C cl fp).pts) (fun s H C cl fp => (he s H C cl fp).pe) hs) fun Dd σ H ⟨F, ρ, P, rp, q, lk⟩ => ?_⟩
  refine lc_read (fzz := true) hi.mono mg mt me hv ⟨F, ρ, rp, hi.mono ρ _ _ (fun xs hxs => compT_mono mg mt me (fun ys hys => ?_) xs [] hxs) q⟩
  exact fun v F' H' g' dv => lk.nx _ _ F' H' g'.fz (kvN.set i rp g' dv) hys
/-- .. frozen at once -/
theorem z_setLcD {α : Type} {k1 : Kd e α} {pv : α → PV} {tx : TX α} {i : Nat} {y : Str} {py : Pos} {elt iter : Expr} {ifs : List Expr} {scope : Scope} {own : List (Str × Nat)} {spos : Pos} {tt : TX Bool} {te : TX D} (hc : X.calm = true) (hN : X.N.Nodup) (hy : X.N[i]? = some y) (hyl : X.env.scope.names.lookup y = some .local)
    (hsw : swapsWith (.ListComp elt [⟨tg, iter, ifs, 0⟩] scope pos) (some (.Name y py)) spos.line X.env = pure true) (hi : PIx X e false tg iter tl) (ok : BlkOk X.N X.env.scope scope own)
    (hg : ∀ (s : Shared) (H : Hp) (C : Addr) (cl : List (Str × Addr)) (fp : List Addr), PGx (X.blk s H scope (compEnvC scope cl C X.env) fp) e is tg g) (ht : ∀ (s : Shared) (H : Hp) (C : Addr) (cl : List (Str × Addr)) (fp : List Addr), PTx (X.blk s H scope (compEnvC scope cl C X.env) fp) e ifs tt)
    (he : ∀ (s : Shared) (H : Hp) (C : Addr) (cl : List (Str × Addr)) (fp : List Addr), PD (X.blk s H scope (compEnvC scope cl C X.env) fp) e elt te) (hv : ∀ i ∈ is, i ∈ own.map (·.2)) (hs : ∀ x, foldedSetIterable iter X.env x = pure x := by intro _; rfl) :
    PSx X e (.Assign [.Name y py] (.ListComp elt [⟨tg, iter, ifs, 0⟩] scope pos) spos) (zSet .imm i (xND (xLc tl g tt te (own.map (·.2))))) := by
  have mg := (hg X.s_0 (fun _ => none) 0 [] []).mono
  have mt := (ht X.s_0 (fun _ => none) 0 [] []).mono
  have me := (he X.s_0 (fun _ => none) 0 [] []).mono
  refine ⟨impS (ps_setLc (g := liftG X.K e is g) (tt := liftT X.K e tt) (te := lift X.K e (kD X.K e) te) hc hN hy hyl hsw hi.pi ok (fun s H C cl fp => (hg s H C cl fp).pg) (fun s H C cl fp => (ht s H C cl fp).pts) (fun s H C cl fp => (he s H C cl fp).pe) hs) fun Dd σ H ⟨F, ρ, P, rp, q, lk⟩ => ?_⟩
  refine lc_read (fzz := true) hi.mono mg mt me hv ⟨F, ρ, rp, hi.mono ρ _ _ (fun xs hxs => compT_mono mg mt me (fun ys hys => ?_) xs [] hxs) q⟩
  intro v F' H' g' dv
  obtain ⟨p, e1, ⟨vs, e2, e3⟩, e4, e5, e6⟩ := dv
  subst e1
  have gf := Gr.freeze rp.ok g' e2 e5 e4 e6
  exact lk.nx _ _ _ H' gf.fz (kvD.set i rp gf (.lst (SqL.of upd_same) (dpAllMono (sameNew e4) ys e3))) hys
end
end PL
set_option Elab.async false
set_option linter.all false
set_option maxRecDepth 100000
set_option maxHeartbeats 4000000
namespace PL
open PySem PySem.Spec PyProof.Rows L2
/-! ### what a def promises, over data -/
abbrev PF := Dl → List PV → (PV → Prop) → Prop
def MonoF (tf : PF) : Prop := ∀ dl pvs (Q Q' : PV → Prop), (∀ x, Q x → Q' x) → tf dl pvs Q → tf dl pvs Q'
def ArgOk (K : PySem.W.Frag) (F : Hp) (v : V) : PV → Prop
  | .imm d => Dp K F v d
  | .raw w => v = w
  | .std a kvs => StdOk K F v a kvs
  | .own _ => False
  | .two _ _ => False
inductive ArgsOk (K : PySem.W.Frag) (F : Hp) : List V → List PV → Prop
  | nil : ArgsOk K F [] []
  | cons {v : V} {vs : List V} {p : PV} {ps : List PV} : ArgOk K F v p → ArgsOk K F vs ps → ArgsOk K F (v :: vs) (p :: ps)
theorem ArgsOk.mono {K : PySem.W.Frag} {F F' : Hp} (s : Same F F') : ∀ {vs : List V} {ps : List PV}, ArgsOk K F vs ps → ArgsOk K F' vs ps
  | _, _, .nil => .nil
  | _, _, .cons (p := p) a t => .cons (by
      cases p with
      | imm d => exact dpMono s d a
      | raw w => exact a
      | std b w => exact a.mono s
      | two _ _ => exact a
      | own o => exact a) (ArgsOk.mono s t)
theorem ArgsOk.length {K : PySem.W.Frag} {F : Hp} : ∀ {vs : List V} {ps : List PV}, ArgsOk K F vs ps → vs.length = ps.length
  | _, _, .nil => rfl
  | _, _, .cons _ t => congrArg (· + 1) (ArgsOk.length t)
def RtOk (K : PySem.W.Frag) (dl : Dl) (H F' H' : Hp) (v : V) : PV → Prop
  | .imm d => Dp K F' v d
  | .raw w => v = w
  | .std a kvs => StdOk K F' v a kvs
  | .own oc => ∃ a, v = .ref a ∧ OCat K F' H' a oc ∧ F' a = none ∧ H a = none ∧ ¬ dl.M a
  | .two d oc => ∃ t u p, v = .ref t ∧ SqT K H' t [u, .ref p] ∧ Dp K F' u d ∧ OCat K F' H' p oc ∧ F' p = none ∧ H p = none ∧ ¬ dl.M p
def Prm (K : PySem.W.Frag) (tf : PF) : Sp := fun vs H Q _ => ∃ F dl pvs, dl.Ok F H ∧ dl.Stay ∧ ArgsOk K F vs pvs ∧ tf dl pvs fun pv => ∀ v F' H', Gr dl F H F' H' → RtOk K dl H F' H' v pv → Q v H'
def liftAv (K : PySem.W.Frag) (e : Ent) (t : TX (List PV)) : TA := fun σ H Q => ∃ F ρ, Rp K e ρ F σ H ∧ t ρ fun ds => ∀ vs F' H', Gr e.toDl F H F' H' → ArgsOk K F' vs ds → Q vs H'
structure PAv (X : Cx) (e : Ent) (x : List Expr) (t : TX (List PV)) : Prop where
  mono : MonoX t
  pa : PA X x (liftAv X.K e t)
section
variable {X : Cx} {e : Ent} {α β γ : Type} {k1 : Kd e α} {k2 : Kd e β} {a b c : Expr} {es : List Expr} {pos p2 pf : Pos} {ta tb : TX D} {tr : TX V} {tl : TX (List PV)}
theorem pav_nil : PAv X e [] (xC []) := ⟨xC_mono, impA pa_nil fun σ H Q ⟨F, ρ, rp, q⟩ => q [] F H (.refl rp.ok) .nil⟩
def vCons {α : Type} (f : α → PV) (t : TX α) (r : TX (List PV)) : TX (List PV) := fun ρ Q => t ρ fun d => r ρ fun ds => Q (f d :: ds)
theorem pav_d (h : PD X e a ta) (hr : PAv X e es tl) (hs : starEach (a :: es) X.env = (false, eval a X.env) :: starEach es X.env := by rfl) : PAv X e (a :: es) (vCons .imm ta tl) :=
  ⟨fun ρ Q Q' k q => h.mono ρ _ _ (fun d hd => hr.mono ρ _ _ (fun ds hds => k _ hds) hd) q, impA (pa_cons h.pe hr.pa hs) fun σ H Q ⟨F, ρ, rp, q⟩ => ⟨F, ρ, rp, h.mono ρ _ _ (fun d hd v F1 H1 g dv =>
    ⟨F1, ρ, rp.step g, hr.mono ρ _ _ (fun ds hds vs F2 H2 g2 dvs => hds (v :: vs) F2 H2 (g.trans rp.ok g2) (.cons (show Dp X.K F2 v d from dpMono g2.fz d dv) dvs)) hd⟩) q⟩⟩
theorem pav_r (h : PR X e a tr) (hr : PAv X e es tl) (hs : starEach (a :: es) X.env = (false, eval a X.env) :: starEach es X.env := by rfl) : PAv X e (a :: es) (vCons .raw tr tl) :=
  ⟨fun ρ Q Q' k q => h.mono ρ _ _ (fun d hd => hr.mono ρ _ _ (fun ds hds => k _ hds) hd) q, impA (pa_cons h.pe hr.pa hs) fun σ H Q ⟨F, ρ, rp, q⟩ => ⟨F, ρ, rp, h.mono ρ _ _ (fun d hd v F1 H1 g dv =>
    ⟨F1, ρ, rp.step g, hr.mono ρ _ _ (fun ds hds vs F2 H2 g2 dvs => hds (v :: vs) F2 H2 (g.trans rp.ok g2) (.cons (show v = d from dv) dvs)) hd⟩) q⟩⟩
/-- what a call gives, as data (a fresh list is frozen) -/
def retD (pv : PV) (Q : D → Prop) : Prop := match pv with | .imm d => Q d | .own (.lst xs) => Q (.list xs) | _ => False
def retN (pv : PV) (Q : OC → Prop) : Prop := match pv with | .own o => Q o | _ => False
def xCall (tf : PF) (dl : Dl) (tl : TX (List PV)) : TX D := fun ρ Q => tl ρ fun pvs => tf dl pvs fun pv => retD pv Q
def xCallN (tf : PF) (dl : Dl) (tl : TX (List PV)) : TX OC := fun ρ Q => tl ρ fun pvs => tf dl pvs fun pv => retN pv Q
theorem retD_mono {pv : PV} {Q Q' : D → Prop} (h : ∀ d, Q d → Q' d) (q : retD pv Q) : retD pv Q' := by
  unfold retD at q ⊢
  split at q
  · exact h _ q
  · exact h _ q
  · exact q.elim
theorem retN_mono {pv : PV} {Q Q' : OC → Prop} (h : ∀ d, Q d → Q' d) (q : retN pv Q) : retN pv Q' := by
  unfold retN at q ⊢
  split at q
  · exact h _ q
  · exact q.elim
variable {CX : CXT} {k : Nat} {f : Addr} {fd : FuncData} {ps : List Str} {tf : PF} {E : XK} {x : Str} {p : Pos}
theorem pd_call (mf : MonoF tf) (G : FnOk X.prog X.w X.K X.mg X.base CX k f fd ps (Prm X.K tf)) (hr : Room k X.A) (hg : Gl X x) (hm : X.mg x = some (.ref f)) (hk : PySem.W.keepIn X.K (.ref f) = true) (hb : Binds X.K fd ps []) (hx : Passes CX X E)
    (ha : PAv X e (a :: es) tl) (hdb : (x == ("__debug__" : Str)) = false := by decide) (he : starEach (a :: es) X.env = (false, eval a X.env) :: starEach es X.env := by rfl) (hpl : (backTo pos (starEach es X.env)).any (·.1) = false := by rfl) :
    PD X e (.Call (.Name x p) (a :: es) [] pos) (xCall tf e.toDl tl) :=
  ⟨fun ρ Q Q' k q => ha.mono ρ _ _ (fun pvs h => mf _ _ _ _ (fun pv hp => retD_mono k hp) h) q, imp (pe_call G hr hg hm hk hb .nil hx ha.pa hdb he hpl) fun σ H Q ⟨F, ρ, rp, q⟩ => ⟨F, ρ, rp, ha.mono ρ _ _ (fun pvs h vs F1 H1 g1 av => by
    show Prm X.K tf (vs ++ []) H1 Q E
    rw [List.append_nil]
    refine ⟨F1, e.toDl, pvs, g1.ok, rp.stay, av, mf _ _ _ _ (fun pv hp v F2 H2 g2 r => ?_) h⟩
    have g := g1.trans rp.ok g2
    unfold retD at hp
    split at hp
    · exact hp v F2 H2 g r
    · obtain ⟨p, e1, ⟨ws, e2, e3⟩, e4, e5, e6⟩ := r
      subst e1
      have hn : H p = none := by
        cases z : H p with
        | none => rfl
        | some u =>
          have := g1.st p u z e6
          rw [e5] at this
          cases this
      exact hp _ _ _ (Gr.freeze rp.ok g e2 hn e4 e6) (.lst (SqL.of upd_same) (dpAllMono (sameNew e4) _ e3))
    · exact hp.elim) q⟩⟩
theorem pn_call (mf : MonoF tf) (G : FnOk X.prog X.w X.K X.mg X.base CX k f fd ps (Prm X.K tf)) (hr : Room k X.A) (hg : Gl X x) (hm : X.mg x = some (.ref f)) (hk : PySem.W.keepIn X.K (.ref f) = true) (hb : Binds X.K fd ps []) (hx : Passes CX X E)
    (ha : PAv X e (a :: es) tl) (hdb : (x == ("__debug__" : Str)) = false := by decide) (he : starEach (a :: es) X.env = (false, eval a X.env) :: starEach es X.env := by rfl) (hpl : (backTo pos (starEach es X.env)).any (·.1) = false := by rfl) :
    PN X e (.Call (.Name x p) (a :: es) [] pos) (xCallN tf e.toDl tl) :=
  ⟨fun ρ Q Q' k q => ha.mono ρ _ _ (fun pvs h => mf _ _ _ _ (fun pv hp => retN_mono k hp) h) q, imp (pe_call G hr hg hm hk hb .nil hx ha.pa hdb he hpl) fun σ H Q ⟨F, ρ, rp, q⟩ => ⟨F, ρ, rp, ha.mono ρ _ _ (fun pvs h vs F1 H1 g1 av => by
    show Prm X.K tf (vs ++ []) H1 Q E
    rw [List.append_nil]
    refine ⟨F1, e.toDl, pvs, g1.ok, rp.stay, av, mf _ _ _ _ (fun pv hp v F2 H2 g2 r => ?_) h⟩
    have g := g1.trans rp.ok g2
    unfold retN at hp
    split at hp
    · obtain ⟨p, e1, e2, e4, e5, e6⟩ := r
      subst e1
      have hn : H p = none := by
        cases z : H p with
        | none => rfl
        | some u =>
          have := g1.st p u z e6
          rw [e5] at this
          cases this
      exact hp _ F2 H2 g ⟨p, rfl, e2, e4, hn, e6⟩
    · exact hp.elim) q⟩⟩
/-! ### a, b = x, y -/
def zPar {α β : Type} (f : α → PV) (g : β → PV) (i j : Nat) (ta : TX α) (tb : TX β) : TSt := fun P ρ => ta ρ fun d => tb ρ fun d' => P.nx ((ρ.set i (some (f d))).set j (some (g d')))
theorem z_par {i j : Nat} {x y : Str} {px py pt : Pos} {kt k2' pt2} {f : α → PV} {g : β → PV} {ta : TX α} {tb : TX β} (kf : Kv X.K k1 f) (kg : Kv X.K k2 g) (hc : X.calm = true) (hN : X.N.Nodup) (hi : X.N[i]? = some x) (hj : X.N[j]? = some y) (hij : i ≠ j)
    (hx : X.env.scope.names.lookup x = some .local) (hy : X.env.scope.names.lookup y = some .local) (ha : PX X e k1 a ta) (hb : PX X e k2 b tb)
    (hw : swappedStores [.Tuple [.Name x px, .Name y py] kt pt] (.Tuple [a, b] k2' pt2) X.env = pure (some [x, y]))
    (hs : swapsWithSole [.Tuple [.Name x px, .Name y py] kt pt] (.Tuple [a, b] k2' pt2) pos.line X.env = pure false := by rfl)
    (hs1 : starEach [a, b] X.env = (false, eval a X.env) :: starEach [b] X.env := by rfl) (hs2 : starEach [b] X.env = (false, eval b X.env) :: starEach [] X.env := by rfl) :
    PSx X e (.Assign [.Tuple [.Name x px, .Name y py] kt pt] (.Tuple [a, b] k2' pt2) pos) (zPar f g i j ta tb) :=
  ⟨impS (ps_par hc hN hi hj hij hx hy (pa_cons ha.pe (pa_cons hb.pe pa_nil hs2) hs1) hw hs) fun Dd σ H ⟨F, ρ, P, rp, q, lk⟩ => ⟨F, ρ, rp, ha.mono ρ _ _ (fun d hd v F1 H1 g1 dv => ⟨F1, ρ, rp.step g1, hb.mono ρ _ _ (fun d' hd' w F2 H2 g2 dw => by
    refine ⟨v, w, rfl, lk.nx _ _ F2 H2 (g1.fz.trans g2.fz) ?_ hd'⟩
    exact kg.set j (kf.set i rp g1 dv) g2 dw) hd⟩) q⟩⟩
/-! ### the entry of a def -/
def startE (n : Nat) (pvs : List PV) : Ev := pvs.map some ++ List.replicate (n - pvs.length) none
theorem noOwnArg {K : PySem.W.Frag} {F : Hp} {o : OC} : ∀ {vs : List V} {pvs : List PV}, ArgsOk K F vs pvs → PV.own o ∈ pvs → False
  | _, _, .nil, h => by cases h
  | _, _, .cons a t, h => by
    rcases List.mem_cons.mp h with z | z
    · subst z
      exact a
    · exact noOwnArg t z
theorem start_rp {K : PySem.W.Frag} {F H : Hp} {dl : Dl} {N : List Str} {vs : List V} {pvs : List PV} (ok : dl.Ok F H) (st : dl.Stay) (ha : ArgsOk K F vs pvs) : Rp K ⟨dl, F, H⟩ (startE N.length pvs) F (L2.start N vs) H where
  len := by
    unfold startE L2.start
    rw [List.length_append, List.length_append, List.length_map, List.length_map, List.length_replicate, List.length_replicate, ha.length]
  ok0 := ok
  gr := .refl ok
  stay := st
  slots := fun i p h => by
    unfold startE at h
    by_cases hi : i < pvs.length
    · rw [List.getElem?_append_left (by rw [List.length_map]; exact hi), List.getElem?_map] at h
      have h : pvs[i]? = some p := by
        cases z : pvs[i]? with
        | none => rw [z] at h; cases h
        | some q => rw [z] at h; cases h; rfl
      have : ∀ {vs : List V} {pvs : List PV} {i : Nat} {p : PV}, ArgsOk K F vs pvs → pvs[i]? = some p → ∃ v, vs[i]? = some v ∧ ArgOk K F v p := by
        intro vs pvs i p ha
        induction ha generalizing i with
        | nil => intro h; simp at h
        | cons a t ih =>
          intro h
          cases i with
          | zero => exact ⟨_, rfl, by cases h; exact a⟩
          | succ i => exact ih (by simpa using h)
      obtain ⟨v, h1, h2⟩ := this ha h
      refine ⟨v, ?_, ?_⟩
      · unfold L2.start
        rw [List.getElem?_append_left (by rw [List.length_map, ha.length]; exact hi), List.getElem?_map, h1]
        rfl
      · cases p with
        | imm d => exact h2
        | raw w => exact h2
        | std b w => exact h2
        | two _ _ => exact h2.elim
        | own o => exact h2.elim
    · rw [List.getElem?_append_right (by rw [List.length_map]; omega)] at h
      rw [List.getElem?_replicate] at h
      split at h <;> cases h
  apart := fun i j x y a hij hx hy hi => by
    have : ∀ {i : Nat} {o : OC}, (startE N.length pvs)[i]? = some (some (.own o)) → False := fun {i o} h => by
      unfold startE at h
      by_cases hi : i < pvs.length
      · rw [List.getElem?_append_left (by rw [List.length_map]; exact hi), List.getElem?_map] at h
        have hm : PV.own o ∈ pvs := by
          cases z : pvs[i]? with
          | none => rw [z] at h; cases h
          | some q =>
            rw [z] at h
            cases h
            exact List.mem_of_getElem? z
        exact noOwnArg ha hm
      · rw [List.getElem?_append_right (by rw [List.length_map]; omega)] at h
        rw [List.getElem?_replicate] at h
        split at h <;> cases h
    exact (this hx).elim
end
section
variable {P : Program} {w : World} {K : PySem.W.Frag} {mg : Str → Option Value} {base : Heap}
/-- a def, by its body read over data -/
theorem okP {x qual : Str} {st : Stmt} {f : Addr} {fd : FuncData} {N ps : List Str} {k : Nat} {tf : PF} (F : Fun K x qual st f fd) (S : FnScope N ps (defScope st)) (len : ∀ dl pvs Q, tf dl pvs Q → pvs.length = ps.length)
    (body : ∀ (cdv : Value) (A : Around) (outer : List Env) (s : Shared) (H : Hp) (E : XK) (e : Ent), Room k (A.deeper (envOfC qual (defScope st) s.heap.objs.size f cdv)) →
      ∃ t, PSxs (cxOf CX0 P w K mg base N qual (defScope st) f cdv A outer s H E).nox e (defBody st) t ∧ ∀ pvs Q, tf e.toDl pvs Q → t { nx := fun _ => Q (.imm .none), rt := Q } (startE N.length pvs)) : FnOk P w K mg base CX0 (k + 1) f fd ps (Prm K tf) := by
  refine F.ok S (fun vs H Q E ⟨F0, dl, pvs, _, _, ha, q⟩ => ha.length.trans (len _ _ _ q)) fun cdv A outer s H vs Q E hr ⟨F0, dl, pvs, ok, stay, ha, q⟩ => ?_
  obtain ⟨t, h, hq⟩ := body cdv A outer s H E ⟨dl, F0, H⟩ hr
  refine ⟨_, h.pss, F0, startE N.length pvs, _, start_rp ok stay ha, hq _ _ q, ⟨?_, ?_, ?_, ?_⟩⟩
  · intro ρ σ F1 H1 _ rp hp
    exact hp .non F1 H1 rp.gr (Dp.non : Dp K F1 .non .none)
  · intro pv v F1 H1 ⟨g, sl⟩ hp
    refine hp v F1 H1 g ?_
    cases pv with
    | imm d => exact sl
    | raw u => exact sl
    | std b u => exact sl
    | two _ _ => exact sl
    | own o => exact sl
  · intro _ _ _ _ _ _ z
    exact z.elim
  · intro _ _ _ _ _ _ z
    exact z.elim
end
end PL
set_option Elab.async false
set_option linter.all false
set_option maxRecDepth 100000
set_option maxHeartbeats 4000000
namespace PL
open PySem PySem.Spec PyProof.Rows L2
/-! ### tables of data -/
def valD (kvs : List (Key × D)) (k : Key) : Option D := (kvs.find? fun kv => decide (kv.1 = k)).map (·.2)
def putD (kvs : List (Key × D)) (k : Key) (d : D) : List (Key × D) := if (kvs.any fun kv => decide (kv.1 = k)) = true then kvs.map (fun kv => if kv.1 = k then (kv.1, d) else kv) else kvs ++ [(k, d)]
section
variable {K : PySem.W.Frag} {F : Hp}
theorem KvAll.length : ∀ {ks : List (Key × V)} {kvs : List (Key × D)}, KvAll K F ks kvs → ks.length = kvs.length
  | _, _, .nil => rfl
  | _, _, .cons _ t => congrArg (· + 1) (KvAll.length t)
theorem KvAll.any (k : Key) : ∀ {ks : List (Key × V)} {kvs : List (Key × D)}, KvAll K F ks kvs → (ks.any fun kv => decide (kv.1 = k)) = kvs.any fun kv => decide (kv.1 = k)
  | _, _, .nil => rfl
  | _, _, .cons _ t => by rw [List.any_cons, List.any_cons, KvAll.any k t]
theorem KvAll.val (k : Key) : ∀ {ks : List (Key × V)} {kvs : List (Key × D)}, KvAll K F ks kvs → (valD kvs k = none → valV ks k = none) ∧ ∀ d, valD kvs k = some d → ∃ v, valV ks k = some v ∧ Dp K F v d
  | _, _, .nil => ⟨fun _ => rfl, fun d h => by cases h⟩
  | (k', v) :: ks, (_, d') :: kvs, .cons a t => by
    have ih := KvAll.val k t
    by_cases e : k' = k
    · refine ⟨fun h => ?_, fun d h => ⟨v, ?_, ?_⟩⟩
      · simp [valD, List.find?_cons, e] at h
      · simp [valV, List.find?_cons, e]
      · simp [valD, List.find?_cons, e] at h
        rw [← h]
        exact a
    · have h1 : valD ((k', d') :: kvs) k = valD kvs k := by simp [valD, List.find?_cons, e]
      have h2 : valV ((k', v) :: ks) k = valV ks k := by simp [valV, List.find?_cons, e]
      rw [h1, h2]
      exact ih
theorem KvAll.map {v : V} {d : D} (k : Key) (h : Dp K F v d) : ∀ {ks : List (Key × V)} {kvs : List (Key × D)}, KvAll K F ks kvs → KvAll K F (ks.map fun kv => if kv.1 = k then (kv.1, v) else kv) (kvs.map fun kv => if kv.1 = k then (kv.1, d) else kv)
  | _, _, .nil => .nil
  | (k', _) :: _, _, .cons a t => by
    rw [List.map_cons, List.map_cons]
    by_cases e : k' = k
    · rw [if_pos e, if_pos e]
      exact .cons h (KvAll.map k h t)
    · rw [if_neg e, if_neg e]
      exact .cons a (KvAll.map k h t)
theorem KvAll.snoc {v : V} {d : D} (k : Key) (h : Dp K F v d) : ∀ {ks : List (Key × V)} {kvs : List (Key × D)}, KvAll K F ks kvs → KvAll K F (ks ++ [(k, v)]) (kvs ++ [(k, d)])
  | _, _, .nil => .cons h .nil
  | _, _, .cons a t => .cons a (KvAll.snoc k h t)
theorem KvAll.put {v : V} {d : D} {ks : List (Key × V)} {kvs : List (Key × D)} (k : Key) (h : Dp K F v d) (r : KvAll K F ks kvs) : KvAll K F (putK ks k v) (putD kvs k d) := by
  unfold putK putD
  rw [r.any k]
  split
  · exact r.map k h
  · exact r.snoc k h
theorem KvAll.keys : ∀ {ks : List (Key × V)} {kvs : List (Key × D)} {i : Nat} {k : Key} {v : V}, KvAll K F ks kvs → ks[i]? = some (k, v) → ∃ d, kvs[i]? = some (k, d)
  | _, _, _, _, _, .nil, h => by simp at h
  | _, _, 0, _, _, .cons a _, h => by
    cases h
    exact ⟨_, rfl⟩
  | _, _, i + 1, _, _, .cons _ t, h => by
    obtain ⟨d, q⟩ := KvAll.keys (i := i) t (by simpa using h)
    exact ⟨d, by simpa using q⟩
end
def keyOf (d : D) (Q : Key → Prop) : Prop := match d with | .int i => Q (.inl i) | .str s => Q (.inr s) | _ => False
def keyD : Key → D
  | .inl i => .int i
  | .inr s => .str s
theorem keyOf_mono {d : D} {Q Q' : Key → Prop} (h : ∀ k, Q k → Q' k) (q : keyOf d Q) : keyOf d Q' := by
  unfold keyOf at q ⊢
  split at q
  · exact h _ q
  · exact h _ q
  · exact q.elim
theorem keyOf_of {K : PySem.W.Frag} {F : Hp} {v : V} {d : D} {Q : Key → Prop} (dp : Dp K F v d) (q : keyOf d Q) : ∃ k, v = kV k ∧ Q k := by
  unfold keyOf at q
  split at q
  · cases dp
    exact ⟨_, rfl, q⟩
  · cases dp
    exact ⟨_, rfl, q⟩
  · exact q.elim
/-- a dict by its slot: one's own, or one that stands -/
def dicV (i : Nat) (ρ : Ev) (Q : List (Key × D) → Prop) : Prop := match ρ[i]? with | some (some (.own (.dic kvs))) => Q kvs | some (some (.std _ kvs)) => Q kvs | _ => False
theorem dicV_mono {i : Nat} {ρ : Ev} {Q Q' : List (Key × D) → Prop} (h : ∀ k, Q k → Q' k) (q : dicV i ρ Q) : dicV i ρ Q' := by
  unfold dicV at q ⊢
  split at q
  · exact h _ q
  · exact h _ q
  · exact q.elim
theorem dicV_of {K : PySem.W.Frag} {e : Ent} {i : Nat} {ρ : Ev} {F H : Hp} {σ : L2.St} {Q : List (Key × D) → Prop} (rp : Rp K e ρ F σ H) (q : dicV i ρ Q) :
    ∃ kvs a ks, Q kvs ∧ σ[i]? = some (some (.ref a)) ∧ KvAll K F ks kvs ∧ ∀ F' H', Gr e.toDl F H F' H' → Rd H' a (.dK ks) := by
  unfold dicV at q
  split at q
  · rename_i kvs h
    obtain ⟨v, h1, a, e1, ⟨ks, e2, e3⟩, e4, e5, e6⟩ := rp.slots i _ h
    subst e1
    exact ⟨kvs, a, ks, q, h1, e3, fun F' H' g => .inl (g.st a _ e2 e6)⟩
  · rename_i kvs h
    obtain ⟨v, h1, e1, o, ks, e2, e3⟩ := rp.slots i _ h
    subst e1
    exact ⟨kvs, _, ks, q, h1, e3, fun F' H' g => .inr ⟨o, g.ok.sub _ _ (g.fz _ _ e2)⟩⟩
  · exact q.elim
section
variable {X : Cx} {e : Ent} {a b c : Expr} {pos p2 apos : Pos} {ta tb : TX D} {i : Nat}
theorem pn_dnew : PN X e (.Dict [] [] pos) (xC (.dic [])) := ⟨xC_mono, imp pe_dnewK fun σ H Q ⟨F, ρ, rp, q⟩ p hp =>
  q _ F _ (Gr.newO rp.ok rp.stay hp) ⟨p, rfl, ⟨[], upd_same, .nil⟩, rp.sub.free hp, hp, rp.ok.fM hp⟩⟩
def xDin (neg : Bool) (i : Nat) (tk : TX D) : TX D := fun ρ Q => tk ρ fun d => keyOf d fun k => dicV i ρ fun kvs => Q (.bool (ng neg (valD kvs k).isSome))
theorem xDin_mono {neg : Bool} (h : MonoX ta) : MonoX (xDin neg i ta) := fun ρ Q Q' k q => h ρ _ _ (fun d hd => keyOf_mono (fun _ => dicV_mono fun _ => k _) hd) q
theorem isSome_val {K : PySem.W.Frag} {F : Hp} {ks : List (Key × V)} {kvs : List (Key × D)} (k : Key) (r : KvAll K F ks kvs) : (valV ks k).isSome = (valD kvs k).isSome := by
  obtain ⟨h1, h2⟩ := r.val k
  cases z : valD kvs k with
  | none => rw [h1 z] <;> rfl
  | some d =>
    obtain ⟨v, hv, _⟩ := h2 d z
    rw [hv] <;> rfl
theorem pc_din_v (hu : X.A.units + 64 < cLine) (hk : PD X e a ta) (hd : PE X b (tVar i)) : PCx X e .In a b (xDin false i ta) :=
  ⟨xDin_mono hk.mono, ⟨fun pins s σ H Q I ⟨F, ρ, rp, q⟩ => (pc_din (by omega) hk.pe hd).run pins s σ H Q I ⟨F, ρ, rp, hk.mono ρ _ _ (fun d hd v F' H' g dv => by
    obtain ⟨k, rfl, hq⟩ := keyOf_of dv hd
    obtain ⟨kvs, a', ks, hq, h1, h2, h3⟩ := dicV_of rp hq
    refine ⟨.ref a', h1, a', valV ks k, rfl, .inl ⟨ks, k, h3 F' H' g, rfl, rfl⟩, ?_⟩
    rw [isSome_val k h2]
    have hq : Fin (kD X.K e) F H Q (.bool (ng false (valD kvs k).isSome)) := hq
    have := hq (.bl (ng false (valD kvs k).isSome)) F' H' g (.bl _)
    simpa [ng] using this) q⟩⟩⟩
theorem pc_dnin_v (hu : X.A.units + 64 < cLine) (hk : PD X e a ta) (hd : PE X b (tVar i)) : PCx X e .NotIn a b (xDin true i ta) :=
  ⟨xDin_mono hk.mono, ⟨fun pins s σ H Q I ⟨F, ρ, rp, q⟩ => (pc_dnotin (by omega) hk.pe hd).run pins s σ H Q I ⟨F, ρ, rp, hk.mono ρ _ _ (fun d hd v F' H' g dv => by
    obtain ⟨k, rfl, hq⟩ := keyOf_of dv hd
    obtain ⟨kvs, a', ks, hq, h1, h2, h3⟩ := dicV_of rp hq
    refine ⟨.ref a', h1, a', valV ks k, rfl, .inl ⟨ks, k, h3 F' H' g, rfl, rfl⟩, ?_⟩
    rw [isSome_val k h2]
    have hq : Fin (kD X.K e) F H Q (.bool (ng true (valD kvs k).isSome)) := hq
    have := hq (.bl (ng true (valD kvs k).isSome)) F' H' g (.bl _)
    simpa [ng] using this) q⟩⟩⟩
/-- d[k] -/
def xDget (i : Nat) (tk : TX D) : TX D := fun ρ Q => dicV i ρ fun kvs => tk ρ fun d => keyOf d fun k => someOf (valD kvs k) Q
theorem pd_dget_v (hu : X.A.units + 64 < cLine) (hd : PE X b (tVar i)) (hk : PD X e a ta) (hs : NoSl a) : PD X e (.Subscript b a pos) (xDget i ta) :=
  ⟨fun ρ Q Q' k q => dicV_mono (fun kvs h => hk.mono ρ _ _ (fun d hd => keyOf_mono (fun _ => someOf_mono k) hd) h) q, imp (pe_dget (by omega) hd hk.pe hs) fun σ H Q ⟨F, ρ, rp, q⟩ => by
    obtain ⟨kvs, a', ks, hq, h1, h2, h3⟩ := dicV_of rp q
    refine ⟨.ref a', h1, F, ρ, rp, hk.mono ρ _ _ (fun d hd v F' H' g dv => ?_) hq⟩
    obtain ⟨k, rfl, hq⟩ := keyOf_of dv hd
    cases z : valD kvs k with
    | none => rw [z] at hq; exact hq.elim
    | some r =>
      rw [z] at hq
      obtain ⟨w, hw, dw⟩ := (h2.val k).2 r z
      refine ⟨a', w, rfl, .inl ⟨ks, k, h3 F' H' g, rfl, hw.symm⟩, ?_⟩
      exact (show Fin (kD X.K e) F H Q r from hq) w F' H' g (dpMono g.fz r dw)⟩
/-- d.get(k, x) -/
def xDget2 (i : Nat) (tk tx : TX D) : TX D := fun ρ Q => dicV i ρ fun kvs => tk ρ fun d => keyOf d fun k => tx ρ fun z => Q ((valD kvs k).getD z)
theorem pd_dget2_v (hu : X.A.units + 64 < cLine) (hd : PE X b (tVar i)) (hk : PD X e a ta) (hx : PD X e c tb) (m : M2 X b "get" apos a c p2) : PD X e (.Call (.Attribute b "get" apos) [a, c] [] p2) (xDget2 i ta tb) :=
  ⟨fun ρ Q Q' k q => dicV_mono (fun kvs h => hk.mono ρ _ _ (fun d hd => keyOf_mono (fun _ h2 => hx.mono ρ _ _ (fun _ => k _) h2) hd) h) q, imp (pe_dget2 (by omega) hd hk.pe hx.pe m) fun σ H Q ⟨F, ρ, rp, q⟩ => by
    obtain ⟨kvs, a', ks, hq, h1, h2, h3⟩ := dicV_of rp q
    refine ⟨.ref a', h1, a', rfl, .inl ⟨ks, h3 F H (.refl rp.ok)⟩, F, ρ, rp, hk.mono ρ _ _ (fun d hd v F' H' g dv => ?_) hq⟩
    obtain ⟨k, rfl, hq⟩ := keyOf_of dv hd
    refine ⟨F', ρ, rp.step g, hx.mono ρ _ _ (fun z hz w F2 H2 g2 dw => ⟨valV ks k, .inl ⟨ks, k, h3 F2 H2 (g.trans rp.ok g2), rfl, rfl⟩, ?_⟩) hq⟩
    have hz : Fin (kD X.K e) F H Q ((valD kvs k).getD z) := hz
    have gg := g.trans rp.ok g2
    cases y : valD kvs k with
    | none =>
      rw [(h2.val k).1 y]
      rw [y] at hz
      exact hz w F2 H2 gg dw
    | some r =>
      obtain ⟨u, hu', du⟩ := (h2.val k).2 r y
      rw [hu']
      rw [y] at hz
      exact hz u F2 H2 gg (dpMono gg.fz r du)⟩
/-- d[k] = e, d one's own -/
def ownDic (i : Nat) (ρ : Ev) (Q : List (Key × D) → Prop) : Prop := match ρ[i]? with | some (some (.own (.dic kvs))) => Q kvs | _ => False
theorem ownDic_of {i : Nat} {ρ : Ev} {Q : List (Key × D) → Prop} (q : ownDic i ρ Q) : ∃ kvs, ρ[i]? = some (some (.own (.dic kvs))) ∧ Q kvs := by
  unfold ownDic at q
  split at q
  · rename_i xs h
    exact ⟨xs, h, q⟩
  · exact q.elim
def zDput (i : Nat) (tk ta : TX D) : TSt := fun P ρ => ta ρ fun d => ownDic i ρ fun kvs => tk ρ fun y => keyOf y fun k => kvs.length < sizeLine ∧ P.nx (ρ.set i (some (.own (.dic (putD kvs k d)))))
theorem z_dput (hu : X.A.units + 64 < cLine) (hd : PE X b (tVar i)) (hk : PD X e a tb) (hv : PD X e c ta) (hs : swapsWith c (some (.Subscript b a p2)) pos.line X.env = pure false := by rfl) : PSx X e (.Assign [.Subscript b a p2] c pos) (zDput i tb ta) :=
  ⟨impS (ps_dput (by omega) hd hk.pe hv.pe hs) fun Dd σ H ⟨F, ρ, P, rp, q, lk⟩ => ⟨F, ρ, rp, hv.mono ρ _ _ (fun d hd v F1 H1 g1 dv => by
    obtain ⟨kvs, hx, hd⟩ := ownDic_of hd
    have rp1 := rp.step g1
    obtain ⟨w, q1, p, e1, ⟨ks, e2, e3⟩, e4, e5, e6⟩ := rp1.slots i _ hx
    subst e1
    refine ⟨.ref p, q1, F1, ρ, rp1, hk.mono ρ _ _ (fun y hy u F2 H2 g2 dy => ?_) hd⟩
    obtain ⟨k, rfl, hq⟩ := keyOf_of dy hy
    have e2' := g2.st p _ e2 e6
    refine ⟨p, _, rfl, .inl ⟨ks, k, e2', rfl, by rw [e3.length]; exact hq.1, rfl⟩, ?_⟩
    exact lk.nx _ _ F2 _ (g1.fz.trans g2.fz) ((rp1.step g2).write (o' := .dic (putD kvs k d)) hx q1 ⟨_, upd_same, KvAll.put k (dpMono g2.fz d dv) (e3.mono g2.fz)⟩) hq.2) q⟩⟩
/-! ### a dict is walked -/
def keysD (kvs : List (Key × D)) : List D := kvs.map fun kv => keyD kv.1
def iStd (i : Nat) : TX (List D) := fun ρ Q => match ρ[i]? with | some (some (.std _ kvs)) => Q (keysD kvs) | _ => False
theorem dp_key {K : PySem.W.Frag} {F : Hp} (k : Key) : Dp K F (kV k) (keyD k) := by
  cases k with
  | inl i => exact .int i
  | inr s => exact .str s
theorem pi_std {fz : Bool} {tg : Expr} (hd : PE X a (tVar i)) : PIx X e fz tg a (iStd i) := ⟨fun ρ Q Q' k q => by
  unfold iStd at q ⊢
  split at q
  · exact k _ q
  · exact q.elim, impI (pi_keys hd) fun σ H R ⟨F, ρ, rp, q⟩ => by
  unfold iStd at q
  split at q
  · rename_i p kvs h
    obtain ⟨v, h1, e1, o, ks, e2, e3⟩ := rp.slots i _ h
    subst e1
    refine ⟨.ref p, h1, p, o, rfl, .inl ⟨ks, rp.sub _ _ e2, q _ F H (.refl rp.ok) ⟨fun H => H p = some (.frz o (.dK ks)), fun i H x H' => H' = H ∧ ∃ k v, ks[i]? = some (k, v) ∧ x = kV k, ?_, fun H' z => stabD (K := X.K) rp.ok z _ _ e2, ?_⟩⟩⟩
    · unfold keysD
      rw [List.length_map, ← e3.length]
      exact walk_keys
    · rintro j H1 x H2 d F1 hd s ok st ⟨rfl, k, v, hk, rfl⟩
      obtain ⟨d', hd'⟩ := e3.keys hk
      unfold keysD at hd
      rw [List.getElem?_map, hd'] at hd
      cases hd
      exact ⟨F1, Gr.refl ok, dp_key k⟩
  · exact q.elim⟩
/-- the frozen part without d -/
noncomputable def drop (F : Hp) (d : Addr) : Hp := fun b => open Classical in if b = d then none else F b
theorem drop_ne {F : Hp} {d b : Addr} (h : b ≠ d) : drop F d b = F b := by
  unfold drop
  rw [if_neg h]
theorem drop_at {F : Hp} {d : Addr} : drop F d d = none := by
  unfold drop
  rw [if_pos rfl]
theorem drop_some {F : Hp} {d b : Addr} {o : HO} (h : drop F d b = some o) : b ≠ d ∧ F b = some o := by
  by_cases z : b = d
  · rw [z, drop_at] at h
    cases h
  · rw [drop_ne z] at h
    exact ⟨z, h⟩
section
variable {K : PySem.W.Frag} {F : Hp} {d : Addr} {od : Obj} {ks : List (Key × V)}
mutual
theorem dpDrop (hd : F d = some (.frz od (.dK ks))) : ∀ (x : D) {v : V}, Dp K F v x → Dp K (drop F d) v x
  | .none, _, h => by cases h; exact .non
  | .bool b, _, h => by cases h; exact .bl b
  | .int i, _, h => by cases h; exact .int i
  | .str x, _, h => by cases h; exact .str x
  | .list ds, _, h => by
    cases h with
    | @lst p xs _ a b =>
      refine .lst ?_ (dpAllDrop hd ds b)
      rcases a with (a | ⟨o, a⟩) | a
      · exact .inl (.inl (by rw [drop_ne (fun z => by rw [z, hd] at a; cases a)]; exact a))
      · exact .inl (.inr ⟨o, by rw [drop_ne (fun z => by rw [z, hd] at a; cases a)]; exact a⟩)
      · exact .inr a
  | .tuple ds, _, h => by
    cases h with
    | @tup p xs _ a b =>
      refine .tup ?_ (dpAllDrop hd ds b)
      rcases a with (a | ⟨o, a⟩) | a
      · exact .inl (.inl (by rw [drop_ne (fun z => by rw [z, hd] at a; cases a)]; exact a))
      · exact .inl (.inr ⟨o, by rw [drop_ne (fun z => by rw [z, hd] at a; cases a)]; exact a⟩)
      · exact .inr a
  | .dict _, _, h => by cases h
theorem dpAllDrop (hd : F d = some (.frz od (.dK ks))) : ∀ (xs : List D) {vs : List V}, DpAll K F vs xs → DpAll K (drop F d) vs xs
  | [], _, h => by cases h; exact .nil
  | x :: xs, _, h => by cases h with | cons a b => exact .cons (dpDrop hd x a) (dpAllDrop hd xs b)
end
theorem kvDrop (hd : F d = some (.frz od (.dK ks))) : ∀ {js : List (Key × V)} {kvs : List (Key × D)}, KvAll K F js kvs → KvAll K (drop F d) js kvs
  | _, _, .nil => .nil
  | _, _, .cons a t => .cons (dpDrop hd _ a) (kvDrop hd t)
end
/-- the slot's dict is locked: it stands -/
theorem Rp.lock {K : PySem.W.Frag} {ρ : Ev} {σ : L2.St} {F H : Hp} {kvs : List (Key × D)} (rp : Rp K e ρ F σ H) (hi : ρ[i]? = some (some (.own (.dic kvs)))) :
    ∃ d ks, σ[i]? = some (some (.ref d)) ∧ H d = some (.dK ks) ∧ F d = none ∧ ¬ e.M d ∧ e.H0 d = none ∧ ∀ od, Rp K e (ρ.set i (some (.std d kvs))) (upd F d (.frz od (.dK ks))) σ (upd H d (.frz od (.dK ks))) := by
  obtain ⟨v, q1, d, e1, ⟨ks, e2, e3⟩, e4, e5, e6⟩ := rp.slots i _ hi
  subst e1
  refine ⟨d, ks, q1, e2, e4, e6, e5, fun od => ?_⟩
  have sF : Same F (upd F d (.frz od (.dK ks))) := sameNew e4
  refine ⟨by rw [List.length_set]; exact rp.len, rp.ok0, ⟨rp.gr.fz.trans sF, fun b o h z => ?_, fun b o h m => ?_, ⟨fun b o h => ?_, fun b m => ⟨?_, ?_⟩, rp.stay _ _ rp.ok.inv fun b m => ?_⟩⟩, rp.stay, fun j p h => ?_, fun j k x y a hjk hx hy hj => ?_⟩
  · by_cases hb : b = d
    · rw [hb]
      exact e5
    · rw [upd_ne hb] at h
      exact rp.gr.new b o h z
  · rw [upd_ne (fun z => by rw [z, e5] at h; cases h)]
    exact rp.gr.st b o h m
  · by_cases hb : b = d
    · rw [hb] at h ⊢
      rw [upd_same] at h ⊢
      exact h
    · rw [upd_ne hb] at h ⊢
      exact rp.sub b o h
  · rw [upd_ne (fun z => e6 (by rw [← z]; exact m))]
    exact (rp.ok.mu b m).1
  · rw [upd_ne (fun z => e6 (by rw [← z]; exact m))]
    exact (rp.ok.mu b m).2
  · rw [upd_ne (fun z => e6 (by rw [← z]; exact m))]
  · rcases getSet h with ⟨rfl, rfl⟩ | ⟨hij, hj⟩
    · exact ⟨_, q1, rfl, od, ks, upd_same, e3.mono sF⟩
    · obtain ⟨w, h1, h2⟩ := rp.slots j p hj
      refine ⟨w, h1, ?_⟩
      cases p with
      | imm x => exact dpMono sF x h2
      | raw x => exact h2
      | std x y => exact h2.mono sF
      | two _ _ => exact h2.elim
      | own oc =>
        obtain ⟨b, f1, f2, f3, f4, f5⟩ := h2
        have hb : b ≠ d := fun z => by
          subst z
          subst f1
          exact rp.apart i j _ _ _ hij hi hj q1 h1
        exact ⟨b, f1, f2.mono sF fun y hy => by rw [upd_ne hb]; exact hy, by rw [upd_ne hb]; exact f3, f4, f5⟩
  · rcases getSet hx with ⟨_, z⟩ | ⟨_, hx⟩
    · cases z
    · rcases getSet hy with ⟨_, z⟩ | ⟨_, hy⟩
      · cases z
      · exact rp.apart j k x y a hjk hx hy hj
open Classical in
/-- no slot holds d as a standing dict any more -/
noncomputable def unS (d : Addr) : Option PV → Option PV
  | some (.std a kvs) => if a = d then none else some (.std a kvs)
  | x => x
theorem unS_of {d : Addr} {x : Option PV} {p : PV} (h : unS d x = some p) : x = some p ∧ ∀ kvs, p ≠ .std d kvs := by
  cases x with
  | none => cases h
  | some q =>
    cases q with
    | std a kvs =>
      unfold unS at h
      simp only at h
      split at h
      · cases h
      · rename_i hn
        cases h
        exact ⟨rfl, fun kvs z => by cases z; exact hn rfl⟩
    | imm x => cases h; exact ⟨rfl, fun _ z => nomatch z⟩
    | two x y => cases h; exact ⟨rfl, fun _ z => nomatch z⟩
    | own x => cases h; exact ⟨rfl, fun _ z => nomatch z⟩
    | raw x => cases h; exact ⟨rfl, fun _ z => nomatch z⟩
/-- .. and is one's own again -/
theorem Rp.unlock {K : PySem.W.Frag} {ρ : Ev} {σ : L2.St} {F H : Hp} {d : Addr} {od : Obj} {ks : List (Key × V)} {kvs : List (Key × D)} (rp : Rp K e ρ F σ H) (hF : F d = some (.frz od (.dK ks))) (hi : ρ[i]? = some (some (.std d kvs))) (h0 : e.H0 d = none) (h00 : e.F0 d = none) (hm : ¬ e.M d) :
    Rp K e ((ρ.map (unS d)).set i (some (.own (.dic kvs)))) (drop F d) σ (upd H d (.dK ks)) := by
  obtain ⟨v, q1, e1, o, ks', e2, e3⟩ := rp.slots i _ hi
  subst e1
  rw [hF] at e2
  cases e2
  have back : ∀ {j : Nat} {p : PV}, j ≠ i → ((ρ.map (unS d)).set i (some (.own (.dic kvs))))[j]? = some (some p) → ρ[j]? = some (some p) ∧ ∀ kvs, p ≠ .std d kvs := fun {j p} hj h => by
    rw [List.getElem?_set_ne (Ne.symm hj), List.getElem?_map] at h
    cases z : ρ[j]? with
    | none => rw [z] at h; cases h
    | some x =>
      rw [z] at h
      obtain ⟨h1, h2⟩ := unS_of (Option.some.inj h)
      exact ⟨by rw [h1], h2⟩
  refine ⟨by rw [List.length_set, List.length_map]; exact rp.len, rp.ok0, ⟨fun b o h => ?_, fun b o h z => ?_, fun b o h m => ?_, ⟨fun b o h => ?_, fun b m => ⟨?_, ?_⟩, rp.stay _ _ rp.ok.inv fun b m => ?_⟩⟩, rp.stay, fun j p h => ?_, fun j k x y a hjk hx hy hj => ?_⟩
  · rw [drop_ne (fun z => by rw [z, h00] at h; cases h)]
    exact rp.gr.fz b o h
  · exact rp.gr.new b o (drop_some h).2 z
  · rw [upd_ne (fun z => by rw [z, h0] at h; cases h)]
    exact rp.gr.st b o h m
  · obtain ⟨h1, h2⟩ := drop_some h
    rw [upd_ne h1]
    exact rp.sub b o h2
  · rw [drop_ne (fun z => hm (by rw [← z]; exact m))]
    exact (rp.ok.mu b m).1
  · rw [upd_ne (fun z => hm (by rw [← z]; exact m))]
    exact (rp.ok.mu b m).2
  · rw [upd_ne (fun z => hm (by rw [← z]; exact m))]
  · by_cases hj : j = i
    · subst hj
      rcases getSet h with ⟨_, rfl⟩ | ⟨z, _⟩
      · exact ⟨_, q1, d, rfl, ⟨ks, upd_same, kvDrop hF e3⟩, drop_at, h0, hm⟩
      · exact absurd rfl z
    · obtain ⟨h1, h2⟩ := back hj h
      obtain ⟨w, g1, g2⟩ := rp.slots j p h1
      refine ⟨w, g1, ?_⟩
      cases p with
      | imm x => exact dpDrop hF x g2
      | raw x => exact g2
      | two _ _ => exact g2.elim
      | std x y =>
        obtain ⟨f1, o, js, f2, f3⟩ := g2
        exact ⟨f1, o, js, by rw [drop_ne (fun z => h2 y (by rw [z]))]; exact f2, kvDrop hF f3⟩
      | own oc =>
        obtain ⟨b, f1, f2, f3, f4, f5⟩ := g2
        have hb : b ≠ d := fun z => by rw [z, hF] at f3; cases f3
        refine ⟨b, f1, ?_, by rw [drop_ne hb]; exact f3, f4, f5⟩
        cases oc with
        | lst xs =>
          obtain ⟨vs, y1, y2⟩ := f2
          exact ⟨vs, by rw [upd_ne hb]; exact y1, dpAllDrop hF _ y2⟩
        | dic xs =>
          obtain ⟨vs, y1, y2⟩ := f2
          exact ⟨vs, by rw [upd_ne hb]; exact y1, kvDrop hF y2⟩
  · have nown : ∀ {j : Nat} {x : OC}, j ≠ i → ((ρ.map (unS d)).set i (some (.own (.dic kvs))))[j]? = some (some (.own x)) → σ[j]? ≠ some (some (.ref d)) := fun {j x} hj h z => by
      obtain ⟨h1, _⟩ := back hj h
      obtain ⟨w, g1, b, f1, f2, f3, _⟩ := rp.slots j _ h1
      rw [g1] at z
      have : w = .ref d := Option.some.inj (Option.some.inj z)
      rw [this] at f1
      cases f1
      rw [hF] at f3
      cases f3
    by_cases hji : j = i
    · subst hji
      rw [q1] at hj
      cases hj
      exact nown (Ne.symm hjk) hy
    · by_cases hki : k = i
      · subst hki
        intro z
        rw [q1] at z
        cases z
        exact nown hji hx hj
      · exact rp.apart j k x y a hjk (back hji hx).1 (back hki hy).1 hj
/-- for k in d -/
def zForD (i : Nat) (g : D → Ev → (Ev → Prop) → Prop) (tb : TSt) : TSt := fun P ρ => ownDic i ρ fun kvs => ∀ d, forT g tb { P with nx := fun ρ' => ρ'[i]? = some (some (.std d kvs)) ∧ P.nx ((ρ'.map (unS d)).set i (some (.own (.dic kvs)))), rt := fun _ => False, bk := fun _ => False, ct := fun _ => False } (keysD kvs) (ρ.set i (some (.std d kvs)))
theorem z_forD {sts : List Stmt} {tg : Expr} {is : List Nat} {t : TSt} {g : D → Ev → (Ev → Prop) → Prop} (hp : PassesOwn (model X.prog X.w) X.A X.env X.xe) (hc : X.calm = true) (hd : PE X a (tVar i)) (hg : PGx X e is tg g) (hb : PSxs X e sts t) (hs : ∀ x, foldedSetIterable a X.env x = pure x := by intro _; rfl) : PSx X e (.For tg a sts [] pos) (zForD i g t) :=
  ⟨impS (ps_lock (z_for (e := e) hp hc (pi_std hd) hg hb hs).ps) fun Dd σ H ⟨F, ρ, P, rp, q, lk⟩ => by
    obtain ⟨kvs, hx, hq⟩ := ownDic_of q
    obtain ⟨d, ks, q1, h1, h2, h3, h4, hr⟩ := rp.lock hx
    have h00 : e.F0 d = none := rp.ok0.sub.free h4
    have hil : i < ρ.length := (List.getElem?_eq_some_iff.mp hx).1
    refine ⟨d, .dK ks, h1, trivial, fun od => ⟨_, _, { P with nx := fun ρ' => ρ'[i]? = some (some (.std d kvs)) ∧ P.nx ((ρ'.map (unS d)).set i (some (.own (.dic kvs)))), rt := fun _ => False, bk := fun _ => False, ct := fun _ => False }, hr od, ?_, ?_⟩⟩
    · show iStd i (ρ.set i (some (.std d kvs))) fun xs => _
      unfold iStd
      rw [List.getElem?_set_self hil]
      exact hq d
    · refine ⟨fun ρ' σ' F' H' s rp' ⟨z1, z2⟩ => ?_, fun _ _ _ _ _ z => z.elim, fun _ _ _ _ _ _ z => z.elim, fun _ _ _ _ _ _ z => z.elim⟩
      · have hF : F' d = some (.frz od (.dK ks)) := s _ _ upd_same
        refine ⟨rp'.sub _ _ hF, lk.nx _ _ (drop F' d) _ (fun b o hb => ?_) (rp'.unlock hF z1 h4 h00 h3) z2⟩
        have hne : b ≠ d := fun z => by rw [z, h2] at hb; cases hb
        rw [drop_ne hne]
        exact s b o (by rw [upd_ne hne]; exact hb)⟩
end
end PL
set_option Elab.async false
set_option linter.all false
set_option maxRecDepth 100000
set_option maxHeartbeats 4000000
namespace PySem
open Sem (wp)
open AutoSeq1 (wpAny_loadPart')
/-- enumerate(t), t a tuple: the pair of iterators -/
theorem enumT_meets (t : Addr) (items : Array Value) (n : Nat) (dct : Option Addr) (sl : Array (Option Value)) :
    Meets (Builtin.«enumerate.__new__» ⟨[.type "enumerate", .ref t], []⟩) (fun _ R s => s.heap.get? t = some { cls := .type "tuple", dict := dct, data := .seq items n, slots := sl } ∧
      R (.ok (.ret (.ref (s.heap.push { cls := .type "tuple_iterator", data := .fields #[.ref t, .int 0 0] }).objs.size)))
        { s with heap := (s.heap.push { cls := .type "tuple_iterator", data := .fields #[.ref t, .int 0 0] }).push { cls := .type "enumerate", data := .fields #[.none, .bool false, .ref s.heap.objs.size, rawInt 0, .none, .none] } }) :=
  .of_wp fun prog w A R s h => by
    obtain ⟨hp, g, d, tk, os⟩ := s
    obtain ⟨ht, h⟩ := h
    have hsub := sub_enumerate
    have hT : Heap.IsTuple (Shared.heap ⟨hp, g, d, tk, os⟩) t items := ⟨_, ht, rfl, n, rfl⟩
    wp_walk using wpAny_loadPart' ht
    refine wpAny_stack_any fun st => wpAny_pure ?_
    split
    · rename_i c _ _ _ _ _
      cases (c == Value.type "enumerate")
      · wp_walk using wpAny_loadPart' ht, wpAny_pyIter_tuple hT
        exact ⟨_, rfl, h⟩
      · wp_walk using wpAny_loadPart' ht, wpAny_pyIter_tuple hT
        exact ⟨_, rfl, h⟩
    · wp_walk using wpAny_loadPart' ht, wpAny_pyIter_tuple hT
      exact ⟨_, rfl, h⟩
end PySem
namespace PL
open PySem PySem.Spec PyProof.Rows L2
section
variable {prog : Program} {w : World} {A : Around} {E : Value → Shared → Prop} {s : Shared}
theorem call_enumT {l : Addr} {items : Array Value} {Q : Value → Shared → Prop} (hL : s.heap.IsTuple l items)
    (h : ∀ h', IsEnum h' (s.heap.objs.size + 1) s.heap.objs.size 0 .none → h'.IsTupleIter s.heap.objs.size l 0 → h'.objs.size = s.heap.objs.size + 2 →
      (∀ b o, s.heap.get? b = some o → h'.get? b = some o) → Q (.ref (s.heap.objs.size + 1)) { s with heap := h' }) :
    wpAny (model prog w) A (call (.type "enumerate") [.ref l]) Q E s := by
  obtain ⟨⟨c, dct, dt, sl⟩, hl, hc, n, hd⟩ := hL
  replace hc : c = .type "tuple" := hc
  replace hd : dt = .seq items n := hd
  subst hc hd
  refine callType_new F.called_enumerate (by decide) (F.typeCall_enumerate_1 _) (F.newCall_enumerate_1 _) (fun obj => F.args_object_init_2 obj _) F.entry_enumerate_new (enumT_meets l items n dct sl) ⟨hl, ?_⟩
  have hz : (s.heap.push { cls := .type "tuple_iterator", data := .fields #[.ref l, .int 0 0] }).objs.size = s.heap.objs.size + 1 := Heap.size_push ..
  show _ ∧ _
  rw [hz]
  have he : IsEnum ((s.heap.push { cls := .type "tuple_iterator", data := .fields #[.ref l, .int 0 0] }).push { cls := .type "enumerate", data := .fields #[.none, .bool false, .ref s.heap.objs.size, rawInt 0, .none, .none] }) (s.heap.objs.size + 1) s.heap.objs.size 0 .none := by
    have q := Heap.get?_push_size (s.heap.push { cls := .type "tuple_iterator", data := .fields #[.ref l, .int 0 0] }) (o := { cls := .type "enumerate", data := .fields #[.none, .bool false, .ref s.heap.objs.size, rawInt 0, .none, .none] }) rfl
    rw [hz] at q
    exact q
  refine ⟨⟨_, he, rfl⟩, h _ he ⟨_, Heap.get?_push_of_some _ (Heap.get?_push_size _ rfl), rfl, rfl⟩ (by rw [Heap.size_push, hz]) fun b o x => Heap.get?_push_of_some _ (Heap.get?_push_of_some _ x)⟩
end
/-- the tuple at a, each item in a new pair -/
def IteT (K : PySem.W.Frag) (a : Addr) : It :=
  ⟨fun i H => ∃ (xs : List V) (x : V), SqT K H a xs ∧ xs[i]? = some x, fun i H v H' => ∃ T x, v = .ref T ∧ H T = none ∧ H' = upd H T (.tup [.int (i : Nat), x]) ∧ ∀ xs, SqT K H a xs → xs[i]? = some x, fun i H => ∃ xs : List V, SqT K H a xs ∧ xs.length ≤ i⟩
theorem turn_enumT {P : Program} {w : World} {K : PySem.W.Frag} {elts : List Expr} {kk : Nat} {tpos : Pos} (a e it : Addr) (hea : e ≠ a) (hia : a ≠ it) :
    Turn P w K (.Tuple elts kk tpos) (IteT K a) [e, it] e (fun i h => (∃ old, IsEnum h e it ((i : Nat) : Int) old) ∧ h.IsTupleIter it a i ∧ e ≠ it) where
  mem := by simp
  obj := fun i h st b hb => by
    obtain ⟨⟨old, he⟩, ⟨o, ho, hc, hd⟩, _⟩ := st
    rcases List.mem_cons.mp hb with z | z
    · rw [z]; exact ⟨_, he, fun v q => nomatch q⟩
    · have z := List.mem_singleton.mp z
      rw [z]; exact ⟨o, ho, fun v q => by rw [hd] at q; cases q⟩
  keep := fun i h h' st k => let ⟨⟨old, he⟩, hi, hne⟩ := st; ⟨⟨old, k e (by simp) _ he⟩, hi.at fun o q => k it (by simp) o q, hne⟩
  item := by
    intro X hP hw hK hc i pins s σ H E I hf st hg
    subst hP hw hK
    obtain ⟨⟨old, he⟩, hit, hne⟩ := st
    obtain ⟨xs, x, hq, hx⟩ := hg
    obtain ⟨its, rv, p, hz⟩ := I.tuple hq
    obtain ⟨u, hu, ru⟩ := rv.get hx
    have hel : e < s.heap.objs.size := Heap.lt_size he
    have hil : it < s.heap.objs.size := by obtain ⟨_, q, _⟩ := hit; exact Heap.lt_size q
    have hlt : i < its.toArray.size := by
      have := (List.getElem?_eq_some_iff.mp hu).1
      simpa using this
    have D := Draws.tuple (prog := X.prog) (w := X.w) (A := X.A.in1) (I.ok.hd hc) it a hia its.toArray
    refine wpAny_pyNext_enum_itemD D he ⟨hit, p⟩ hlt hne (fun z => ?_) fun y h' tk hy ho hst hT hsz hk => ?_
    · rcases List.mem_cons.mp z with z | z
      · exact hne z
      · exact hea (List.mem_singleton.mp z)
    have ey : y = u := by
      have hy : its.toArray[i]? = some y := hy
      rw [show its.toArray[i]? = its[i]? by simp, hu] at hy
      exact (Option.some.inj hy).symm
    subst ey
    have hit' := hst.1
    refine ⟨_, rfl, wpAny_letOwnedTupleGo_enum (s := { s with heap := h', toks := tk + 1 }) ho fun h'' he' sb => ?_⟩
    have hT2 : h''.get? s.heap.objs.size = some { cls := .type "tuple", data := .seq #[.int i tk, y] } := (sb.2 _ (Nat.ne_of_gt hel)).trans hT
    have new : ObjOk X.prog X.w (upd H s.heap.objs.size (.tup [.int (i : Nat), x])) h'' s.heap.objs.size (.tup [.int (i : Nat), x]) :=
      ⟨by show 2 ≤ sizeLine; decide, [.int i tk, y], .cons ⟨_, rfl⟩ (.cons ru .nil), ⟨_, hT2, rfl, _, rfl⟩⟩
    have I1 : Inv X pins σ (upd H s.heap.objs.size (.tup [.int (i : Nat), x])) { s with heap := h'', toks := tk + 1 } :=
      Inv.turnedNew (ch := [e, it]) I (fun b ob hb q => (sb.2 b (fun z => hb (by simp [z]))).trans (hk b ob (fun z => hb (by simp [z])) (fun z => hb (by simp [z])) q)) hf (Nat.le_refl _) new
    refine ⟨.ref s.heap.objs.size, _, I1, rfl, ⟨_, x, rfl, I.hok.fresh (Nat.le_refl _), rfl, fun ys hy => by rw [I.tuple_inj hy hq]; exact hx⟩, ⟨⟨y, ?_⟩, hit'.at fun o q => (sb.2 it (Ne.symm hne)).trans q, hne⟩, fun b hb => ?_⟩
    · have e1 : ((i + 1 : Nat) : Int) = (i : Int) + 1 := by omega
      rw [e1]
      exact he'
    · have hb' : b < s.heap.objs.size := by
        rcases List.mem_cons.mp hb with z | z
        · rw [z]; exact hel
        · rw [List.mem_singleton.mp z]; exact hil
      rw [upd_ne (Nat.ne_of_lt hb')]
      exact (hf b hb).1
  done := by
    intro X hP hw hK hc i pins s σ H E I hf st hg
    subst hP hw hK
    obtain ⟨⟨old, he⟩, hit, hne⟩ := st
    obtain ⟨xs, hq, hx⟩ := hg
    obtain ⟨its, rv, p, hz⟩ := I.tuple hq
    obtain ⟨f0, f1, f2, f3, f4, f5⟩ := hf it (by simp)
    have hl := rv.length
    unfold pyNext
    refine wpAny_bind (wpAny_attempt (wpAny_callSpecial?_slot (name := Str.ofString "__next__") (show s.TypeIs (.ref e) "enumerate" from ⟨_, he, rfl⟩) F.slot_enumerate_next
      (wpAny_call_entry F.slot_enumerate_next ⟨_, he, rfl⟩ F.entry_enumerate_next ?_ (F.args_enumerate_next_1 _))))
    show wpAny _ _ (field (.ref e) 2 >>= _) _ _ _
    refine wpAny_bind (wpAny_field he rfl (x := .ref it) rfl ?_)
    refine wpAny_bind (wpAny_nextOf_tuple_end (show X.A.in1.handled = none from I.ok.hd hc) hit p (by simp; omega) fun h' x he' hx' => ?_)
    obtain ⟨o, ho, hcl⟩ := hx'
    refine wpAny_bind (wpAny_isInstance (T := "StopIteration") (b := true) ⟨o, ho, hcl⟩ isSubtype_stop ?_)
    exact wpAny_pure ⟨rfl, I.turned (t' := s.toks) (fun b o hb q => he' b o hb q) f0 f1 f3 f4 f5⟩
  self := fun A i s Q E st h => let ⟨⟨_, he⟩, _⟩ := st; wpAny_pyIter_enum he h
def iEnumT (K : PySem.W.Frag) (ta : TA) : TI := fun σ H R => ta σ H fun vs H1 => ∃ a xs, vs = [.ref a] ∧ SqT K H1 a xs ∧ R (IteT K a) H1
theorem pi_enumT {X : Cx} {e : Expr} {ta : TA} {p pos tpos : Pos} {elts : List Expr} {kk : Nat} (hg : Gl X "enumerate") (hm : X.mg "enumerate" = none) (ha : PA X [e] ta) (hs : starEach [e] X.env = [(false, eval e X.env)] := by rfl) :
    PI X (.Tuple elts kk tpos) (.Call (.Name "enumerate" p) [e] [] pos) (iEnumT X.K ta) := by
  refine ⟨fun pins s σ H R I h => ?_⟩
  refine Call_ (ld_blt I hg hm boot_enumerate (PyProof.Rows.callWith_type1 (thn (ha.run pos pins s σ H _ I h) fun us s1 ⟨vs, H1, I1, r1, q1⟩ => ?_) hs rfl))
  obtain ⟨a, xs, ex, hq, q⟩ := q1
  subst ex
  cases r1 with
  | cons r rr =>
    cases rr
    cases r
    obtain ⟨its, rv, p', hz⟩ := I1.tuple hq
    have hal : a < s1.heap.objs.size := by
      obtain ⟨o, ho, _⟩ := id p'
      exact Heap.lt_size ho
    refine call_enumT (show s1.heap.IsTuple a its.toArray from p') fun h' he hit hsz hk => wpAny_pyIter_enum he ?_
    have I2 : Inv X pins σ H1 { s1 with heap := h' } := I1.kept (t' := s1.toks) hk
    refine ⟨s1.heap.objs.size + 1, [s1.heap.objs.size + 1, s1.heap.objs.size], _, _, H1, rfl, I2, turn_enumT a (s1.heap.objs.size + 1) s1.heap.objs.size (Ne.symm (Nat.ne_of_lt (Nat.lt_succ_of_lt hal))) (Nat.ne_of_lt hal), ⟨⟨.none, he⟩, hit, Nat.succ_ne_self _⟩, fun b hb => ?_, q⟩
    have hle : s1.heap.objs.size ≤ b := by
      rcases List.mem_cons.mp hb with z | z
      · rw [z]; exact Nat.le_add_right _ _
      · rw [List.mem_singleton.mp z]; exact Nat.le_refl _
    exact I1.fpOk hle (I1.hok.fresh hle)
theorem walk_enumT {K : PySem.W.Frag} {a : Addr} {xs : List V} : Walk (IteT K a) xs.length (fun H => SqT K H a xs) (YPair (fun i => some (.int (i : Nat))) (fun i => xs[i]?)) := by
  refine ⟨fun i _ hi q => ⟨xs, xs[i], q, by simp [hi]⟩, fun _ q => ⟨xs, q, Nat.le_refl _⟩, fun i H v H' _ q y => ?_⟩
  obtain ⟨T, x, h1, h2, h3, h4⟩ := y
  exact ⟨T, .int (i : Nat), x, h1, h2, h3, rfl, h4 xs q⟩
end PL
set_option Elab.async false
set_option linter.all false
set_option maxRecDepth 100000
set_option maxHeartbeats 4000000
namespace PL
open PySem PySem.Spec PyProof.Rows L2
open PySem.W (EachIs AllAlike Sortable dataLe)
/-- sorted(xs), xs a list that reads as data -/
def rSortD (K : PySem.W.Frag) : List V → Hp → VK → Prop := fun vs H Q => ∃ (a : Addr) (xs : List V) (ds : List D), vs = [V.ref a] ∧ SqL K H a xs ∧ DpAll K H xs ds ∧ AllAlike ds ∧ Sortable ds ∧ (∀ d ∈ ds, d.depth ≤ 60) ∧
  ∀ (ys : List V) (p : Addr), (∀ G : Hp, DpAll K G xs ds → DpAll K G ys (ds.mergeSort (dataLe false id))) → H p = none → Q (.ref p) (upd H p (.lst ys))
theorem each_of {K : PySem.W.Frag} {H : Hp} {R : Value → D → Prop} : ∀ {xs : List V} {us : List Value} {ds : List D}, Vals xs us → DpAll K H xs ds → (∀ x u d, x ∈ xs → RelV x u → Dp K H x d → R u d) → EachIs R us ds
  | _, _, _, .nil, .nil, _ => .nil
  | x :: xs, u :: us, d :: ds, .cons r t, .cons a b, h => .cons (h x u d (List.mem_cons_self ..) r a) (each_of t b fun y w e hy => h y w e (List.mem_cons_of_mem _ hy))
theorem each_back {R : Value → D → Prop} : ∀ {us : List Value} {ds : List D}, EachIs R us ds → (∀ u d, R u d → ∃ x, RelV x u) → ∃ ys, Vals ys us
  | _, _, .nil, _ => ⟨[], .nil⟩
  | _, _, .cons a t, h => by
    obtain ⟨x, r⟩ := h _ _ a
    obtain ⟨ys, r'⟩ := each_back t h
    exact ⟨x :: ys, .cons r r'⟩
/-- what is told of a value by the values that were given -/
def Told (K : PySem.W.Frag) (xs : List V) (ds : List D) (u : Value) (d : D) : Prop := ∃ x, RelV x u ∧ ∀ G : Hp, DpAll K G xs ds → Dp K G x d
theorem told_all {K : PySem.W.Frag} : ∀ {xs : List V} {us : List Value} {ds : List D}, Vals xs us → xs.length = ds.length → EachIs (Told K xs ds) us ds := by
  have key : ∀ {ys : List V} {us : List Value} {es : List D} (xs : List V) (ds : List D), Vals ys us → ys.length = es.length → (∀ G : Hp, DpAll K G xs ds → DpAll K G ys es) → EachIs (Told K xs ds) us es := by
    intro ys us es xs ds r
    induction r generalizing es with
    | nil =>
      intro hl _
      cases es with
      | nil => exact .nil
      | cons e es => cases hl
    | cons r t ih =>
      intro hl h
      cases es with
      | nil => cases hl
      | cons e es =>
        refine .cons ⟨_, r, fun G g => ?_⟩ (ih (by simpa using hl) fun G g => ?_)
        · have := h G g
          cases this with
          | cons a _ => exact a
        · have := h G g
          cases this with
          | cons _ b => exact b
  intro xs us ds r hl
  exact key xs ds r hl fun G g => g
theorem told_back {K : PySem.W.Frag} {xs : List V} {ds : List D} : ∀ {us : List Value} {es : List D}, EachIs (Told K xs ds) us es → ∃ ys, Vals ys us ∧ ∀ G : Hp, DpAll K G xs ds → DpAll K G ys es
  | _, _, .nil => ⟨[], .nil, fun _ _ => .nil⟩
  | _, _, .cons ⟨x, r, h⟩ t => by
    obtain ⟨ys, r', h'⟩ := told_back t
    exact ⟨x :: ys, .cons r r', fun G g => .cons (h G g) (h' G g)⟩
section
variable {X : Cx}
theorem cr_sortD (hu : X.A.units + 64 < cLine) : CallR X (.builtin "sorted") (rSortD X.K) := by
  intro pins s σ H vs us Q I r h
  obtain ⟨a, xs, ds, rfl, hs, hd, ha, hk, hdep, q⟩ := h
  obtain ⟨its, rv, hl, hz⟩ := I.list hs
  rw [Vals.ref1 r]
  have l1 := DpAll.len hd
  have l2 := rv.length
  refine PySem.W.sorted_data (R := Told X.K xs ds) (enc := id) (bs := ds) hl.isList (told_all rv l1) (each_of rv hd fun x u d _ ru dx => Dp.reads I d x u dx ru) (by rw [List.map_id]; exact ha) (by rw [List.map_id]; exact hk) (by omega) (fun d hd' => ?_) fun out ho eo => ?_
  · have := hdep d hd'
    show X.A.units + 2 + d.depth < cLine
    omega
  · obtain ⟨ys, r', h'⟩ := told_back eo
    obtain ⟨ep, he'⟩ := PyProof.Rows.sortedAll_at s.heap its out.toArray
    have hlen : ys.length ≤ sizeLine := by
      rw [r'.length, ho]
      omega
    exact ⟨.ref _, upd H (s.heap.objs.size + 1) (.lst ys), I.laid (t' := s.toks) (fun _ _ => PyProof.Rows.sortedAll_old) (Nat.le_succ _) ⟨hlen, out, ep, r', he'⟩, rfl, q ys _ h' (I.hok.fresh (Nat.le_succ _))⟩
variable {e : Ent} {a : Expr} {pos pf : Pos} {tq : TX (Bool × List D)}
def rdSort : R1 (Bool × List D) OC := fun x Q => x.1 = false ∧ AllAlike x.2 ∧ Sortable x.2 ∧ (∀ d ∈ x.2, d.depth ≤ 60) ∧ Q (.lst (x.2.mergeSort (dataLe false id)))
theorem pn_sorted (hu : X.A.units + 64 < cLine) (hg : Gl X "sorted") (hm : X.mg "sorted" = none) (hv : bootBuiltins "sorted" = some (.builtin "sorted")) (ha : PQ X e a tq) (he : starEach [a] X.env = (false, eval a X.env) :: starEach [] X.env := by rfl) (hpl : (backTo pos (starEach [] X.env)).any (·.1) = false := by rfl) : PN X e (.Call (.Name "sorted" pf) [a] [] pos) (xUn rdSort tq) :=
  px_b1 (cr_sortD hu) hg hm hv (fun x Q Q' h q => ⟨q.1, q.2.1, q.2.2.1, q.2.2.2.1, h _ q.2.2.2.2⟩) ha (fun ρ F σ H0 H v x Q rp dv q => by
    obtain ⟨b, xs⟩ := x
    obtain ⟨q1, q2, q3, q4, q⟩ := q
    simp only at q1 q2 q3 q4 q
    subst q1
    obtain ⟨p, vs, e1, e2, e3⟩ := SeqOk.list dv
    subst e1
    refine ⟨p, vs, xs, rfl, e2, dpAllMono rp.sub xs e3, q2, q3, q4, fun ys n hy hn => ?_⟩
    obtain ⟨g, k⟩ := nOk_new rp hn (hy F e3)
    exact q _ _ _ g k) (by decide) (by decide) he hpl
end
end PL
set_option Elab.async false
set_option linter.all false
set_option maxRecDepth 100000
set_option maxHeartbeats 4000000
namespace PL
open PySem PySem.Spec PyProof.Rows L2
section
variable {X : Cx} {e : Ent} {α β γ : Type} {k1 : Kd e α} {k2 : Kd e β} {a b c tg : Expr} {fz : Bool} {pos p2 pf apos : Pos} {ta tb : TX D} {sc : TX Bool} {tq tq2 : TX (Bool × List D)} {st : Stmt} {t : TSt} {i : Nat}
/-- one's own list is frozen, then the statement -/
def zFrz (i : Nat) (t : TSt) : TSt := fun P ρ => ownL i ρ fun xs => t P (ρ.set i (some (.imm (.list xs))))
theorem Rp.frz {K : PySem.W.Frag} {ρ : Ev} {σ : L2.St} {F H : Hp} {xs : List D} (rp : Rp K e ρ F σ H) (hi : ρ[i]? = some (some (.own (.lst xs)))) : ∃ F', Same F F' ∧ Rp K e (ρ.set i (some (.imm (.list xs)))) F' σ H := by
  obtain ⟨v, q1, p, e1, ⟨vs, e2, e3⟩, e4, e5, e6⟩ := rp.slots i _ hi
  subst e1
  have sF : Same F (upd F p (.lst vs)) := sameNew e4
  refine ⟨upd F p (.lst vs), sF, ⟨by rw [List.length_set]; exact rp.len, rp.ok0, ⟨rp.gr.fz.trans sF, fun b o h z => ?_, rp.gr.st, ⟨fun b o h => ?_, fun b m => ⟨?_, (rp.ok.mu b m).2⟩, rp.ok.inv⟩⟩, rp.stay, fun j q h => ?_, fun j k x y b hjk hx hy hj => ?_⟩⟩
  · by_cases hb : b = p
    · rw [hb]
      exact e5
    · rw [upd_ne hb] at h
      exact rp.gr.new b o h z
  · by_cases hb : b = p
    · rw [hb, upd_same] at h
      rw [hb, ← h]
      exact e2
    · rw [upd_ne hb] at h
      exact rp.sub b o h
  · rw [upd_ne (fun z => e6 (by rw [← z]; exact m))]
    exact (rp.ok.mu b m).1
  · rcases getSet h with ⟨rfl, rfl⟩ | ⟨hij, hj⟩
    · exact ⟨_, q1, .lst (SqL.of upd_same) (dpAllMono sF xs e3)⟩
    · obtain ⟨w, h1, h2⟩ := rp.slots j q hj
      refine ⟨w, h1, ?_⟩
      cases q with
      | imm x => exact dpMono sF x h2
      | raw x => exact h2
      | std x y => exact h2.mono sF
      | two _ _ => exact h2.elim
      | own oc =>
        obtain ⟨b, f1, f2, f3, f4, f5⟩ := h2
        have hb : b ≠ p := fun z => by
          subst z
          subst f1
          exact rp.apart i j _ _ _ hij hi hj q1 h1
        exact ⟨b, f1, f2.mono sF fun y hy => hy, by rw [upd_ne hb]; exact f3, f4, f5⟩
  · rcases getSet hx with ⟨_, z⟩ | ⟨_, hx⟩
    · cases z
    · rcases getSet hy with ⟨_, z⟩ | ⟨_, hy⟩
      · cases z
      · exact rp.apart j k x y b hjk hx hy hj
theorem z_frz (h : PSx X e st t) : PSx X e st (zFrz i t) := ⟨impS h.ps fun Dd σ H ⟨F, ρ, P, rp, q, lk⟩ => by
  obtain ⟨xs, hx, q⟩ := ownL_of q
  obtain ⟨F', s, rp'⟩ := rp.frz hx
  exact ⟨F', _, P, rp', q, lk.up s⟩⟩
/-- a, b = x, y with a captured name among them: the pair is made, then taken apart -/
theorem z_parC {i j : Nat} {x y : Str} {px py pt : Pos} {kt k2' pt2} {f : α → PV} {g : β → PV} {ta : TX α} {tb : TX β} (kf : Kv X.K k1 f) (kg : Kv X.K k2 g) (hc : X.calm = true) (hx : PG X (.Name x px) (gName i)) (hy : PG X (.Name y py) (gName j)) (ha : PX X e k1 a ta) (hb : PX X e k2 b tb)
    (hs : swapsWithSole [.Tuple [.Name x px, .Name y py] kt pt] (.Tuple [a, b] k2' pt2) pos.line X.env = pure false := by rfl) (hw : swappedStores [.Tuple [.Name x px, .Name y py] kt pt] (.Tuple [a, b] k2' pt2) X.env = pure none := by rfl)
    (h1 : (assignEach [.Tuple [.Name x px, .Name y py] kt pt] X.env).map (·.2) = [assign (.Tuple [.Name x px, .Name y py] kt pt) X.env] := by rfl)
    (hp1 : (assignEach [.Name x px, .Name y py] X.env).map (·.2) = assign (.Name x px) X.env :: (assignEach [.Name y py] X.env).map (·.2) := by rfl) (hp2 : (assignEach [.Name y py] X.env).map (·.2) = assign (.Name y py) X.env :: (assignEach [] X.env).map (·.2) := by rfl)
    (hn : (assignEach [.Name x px, .Name y py] X.env).length = 2 := by rfl) (hst : (assignEach [.Name x px, .Name y py] X.env).findIdx? (·.1) = none := by rfl)
    (hs1 : starEach [a, b] X.env = (false, eval a X.env) :: starEach [b] X.env := by rfl) (hs2 : starEach [b] X.env = (false, eval b X.env) :: starEach [] X.env := by rfl) :
    PSx X e (.Assign [.Tuple [.Name x px, .Name y py] kt pt] (.Tuple [a, b] k2' pt2) pos) (zPar f g i j ta tb) :=
  ⟨impS (ps_asg (pe_tup (pa_cons ha.pe (pa_cons hb.pe pa_nil hs2) hs1)) (pg_tup hc (pgs_cons hx (pgs_cons hy pgs_nil hp2) hp1) hn hst) hs hw h1) fun Dd σ H ⟨F, ρ, P, rp, q, lk⟩ => ⟨F, ρ, rp, ha.mono ρ _ _ (fun d hd v F1 H1 g1 dv => ⟨F1, ρ, rp.step g1, hb.mono ρ _ _ (fun d' hd' w F2 H2 g2 dw => by
    refine ⟨by show 2 ≤ sizeLine; decide, fun p hp => ⟨p, [v, w], rfl, SqT.of upd_same, rfl, v, [w], rfl, w, [], rfl, rfl, ?_⟩⟩
    have r1 := kf.set i rp g1 dv
    have r2 := kg.set j r1 g2 dw
    have g3 := Gr.newO (o := .tup [v, w]) r2.ok r2.stay hp
    exact lk.nx _ _ F2 _ (g1.fz.trans g2.fz) (r2.step g3) hd') hd⟩) q⟩⟩
/-! ### enumerate -/
def enumD (xs : List D) : List D := (List.range xs.length).map fun i => .tuple [.int (i : Nat), xs.getD i .none]
theorem walkE {K : PySem.W.Frag} {F H : Hp} {vs : List V} {xs : List D} {J : It} {G : Hp → Prop} (h : DpAll K F vs xs) (w : Walk J vs.length G (YPair (fun i => some (.int (i : Nat))) (fun i => vs[i]?))) (hG : ∀ H' : Hp, (if fz = true then Same F H' else Same (Msk e.M H) (Msk e.M H')) → G H') : WalkOk K e fz F H J (enumD xs) := by
  refine ⟨G, YPair (fun i => some (.int (i : Nat))) (fun i => vs[i]?), ?_, hG, ?_⟩
  · unfold enumD
    rw [List.length_map, List.length_range, ← DpAll.len h]
    exact w
  · rintro j H1 x H2 d F1 hd s ok st ⟨T, u, y, rfl, hT, rfl, hu, hy⟩
    cases hu
    unfold enumD at hd
    rw [List.getElem?_map] at hd
    obtain ⟨k, hk, hd⟩ := Option.map_eq_some_iff.mp hd
    have hjl : j < xs.length := by
      by_cases z : j < xs.length
      · exact z
      · rw [List.getElem?_eq_none (by rw [List.length_range]; omega)] at hk
        cases hk
    rw [List.getElem?_range hjl] at hk
    cases hk
    subst hd
    obtain ⟨d', hd1, hd2⟩ := DpAll.back h hy
    refine ⟨upd F1 T (.tup [.int (j : Nat), y]), Gr.newF ok st hT, .tup (SqT.of upd_same) (.cons (.int _) (.cons ?_ .nil))⟩
    have e2 : xs.getD j .none = d' := by
      rw [List.getD_eq_getElem?_getD, hd1] <;> rfl
    rw [e2]
    exact dpMono (s.trans (sameNew (ok.sub.free hT))) d' hd2
theorem pi_eL {elts : List Expr} {kk : Nat} {tpos : Pos} (hg : Gl X "enumerate") (hm : X.mg "enumerate" = none) (h : PD X e a ta) (hs : starEach [a] X.env = [(false, eval a X.env)] := by rfl) : PIx X e fz (.Tuple elts kk tpos) (.Call (.Name "enumerate" pf) [a] [] pos) (fun ρ Q => iL ta ρ fun xs => Q (enumD xs)) :=
  ⟨fun ρ Q Q' k q => h.mono ρ _ _ (fun d hd => listOf_mono (fun _ => k _) hd) q, impI (pi_enum hg hm (pa_cons h.pe pa_nil hs) hs) fun σ H R ⟨F, ρ, rp, q⟩ => ⟨F, ρ, rp, h.mono ρ _ _ (fun d hd v F' H' g dv => by
    unfold listOf at hd
    split at hd
    · cases dv with
      | lst h1 h2 => exact ⟨_, _, rfl, SqLmono g.ok.sub h1, hd _ F' H' g (walkE h2 walk_enum fun H' z => SqLmono (stabD (K := X.K) g.ok z) h1)⟩
    · exact hd.elim) q⟩⟩
theorem pi_eT {elts : List Expr} {kk : Nat} {tpos : Pos} (hg : Gl X "enumerate") (hm : X.mg "enumerate" = none) (h : PD X e a ta) (hs : starEach [a] X.env = [(false, eval a X.env)] := by rfl) : PIx X e fz (.Tuple elts kk tpos) (.Call (.Name "enumerate" pf) [a] [] pos) (fun ρ Q => iT ta ρ fun xs => Q (enumD xs)) :=
  ⟨fun ρ Q Q' k q => h.mono ρ _ _ (fun d hd => tupOf_mono (fun _ => k _) hd) q, impI (pi_enumT hg hm (pa_cons h.pe pa_nil hs) hs) fun σ H R ⟨F, ρ, rp, q⟩ => ⟨F, ρ, rp, h.mono ρ _ _ (fun d hd v F' H' g dv => by
    unfold tupOf at hd
    split at hd
    · cases dv with
      | tup h1 h2 => exact ⟨_, _, rfl, SqTmono g.ok.sub h1, hd _ F' H' g (walkE h2 walk_enumT fun H' z => SqTmono (stabD (K := X.K) g.ok z) h1)⟩
    · exact hd.elim) q⟩⟩
/-! ### list(range(..)) -/
theorem rg_dp {K : PySem.W.Frag} {F : Hp} (a b : Int) : DpAll K F (rgV a b) (intsD a (b - a).toNat) := by
  unfold rgV intsD
  have : ∀ l : List Nat, DpAll K F (l.map fun i => V.int (a + (i : Nat))) (l.map fun i => PyData.int (a + (i : Nat))) := fun l => by
    induction l with
    | nil => exact .nil
    | cons x l ih => exact .cons (.int _) ih
  exact this _
def nRg (ta tb : TX D) : TX OC := fun ρ Q => ta ρ fun d => tb ρ fun d' => match d, d' with | .int i, .int j => RgOk i j ∧ Q (.lst (intsD i (j - i).toNat)) | _, _ => False
theorem pn_listRg2 {p3 pr : Pos} (hc : X.calm = true) (hg : Gl X "list") (hm : X.mg "list" = none) (hg2 : Gl X "range") (hm2 : X.mg "range" = none) (h : PD X e a ta) (h2 : PD X e b tb)
    (na : starEach [a, b] X.env = (false, eval a X.env) :: starEach [b] X.env := by rfl) (nb : starEach [b] X.env = (false, eval b X.env) :: starEach [] X.env := by rfl) (hp : (backTo pr (starEach [b] X.env)).any (·.1) = false := by rfl)
    (ne : starEach [.Call (.Name "range" p3) [a, b] [] pr] X.env = (false, eval (.Call (.Name "range" p3) [a, b] [] pr) X.env) :: starEach [] X.env := by rfl) : PN X e (.Call (.Name "list" pf) [.Call (.Name "range" p3) [a, b] [] pr] [] pos) (nRg ta tb) :=
  ⟨fun ρ Q Q' k q => h.mono ρ _ _ (fun d hd => h2.mono ρ _ _ (fun d' hd' => by
    split at hd' <;> first | exact ⟨hd'.1, k _ hd'.2⟩ | exact hd'.elim) hd) q, imp (pe_listRg hc hg hm (prg_2 hg2 hm2 h.pe h2.pe na nb hp) ne) fun σ H Q ⟨F, ρ, rp, q⟩ => ⟨F, ρ, rp, h.mono ρ _ _ (fun d hd v F1 H1 g1 dv => ⟨F1, ρ, rp.step g1, h2.mono ρ _ _ (fun d' hd' w F2 H2 g2 dw => by
    split at hd'
    · rename_i i j
      cases dv
      cases dw
      refine ⟨i, j, rfl, rfl, hd'.1, fun n hn => ?_⟩
      have rp2 := (rp.step g1).step g2
      have hq : Fin (kN X.K e) F H Q (.lst (intsD i (j - i).toNat)) := hd'.2
      obtain ⟨g3, k3⟩ := nOk_new rp2 hn (rg_dp (K := X.K) (F := F2) i j)
      exact hq _ F2 _ ((g1.trans rp.ok g2).trans rp.ok g3) ((kN X.K e).weak (g1.trans rp.ok g2) k3)
    · exact hd'.elim) hd⟩) q⟩⟩
def nRg1 (ta : TX D) : TX OC := fun ρ Q => ta ρ fun d => match d with | .int j => RgOk 0 j ∧ Q (.lst (intsD 0 (j - 0).toNat)) | _ => False
theorem pn_listRg1 {p3 pr : Pos} (hc : X.calm = true) (hg : Gl X "list") (hm : X.mg "list" = none) (hg2 : Gl X "range") (hm2 : X.mg "range" = none) (h : PD X e a ta) (na : starEach [a] X.env = (false, eval a X.env) :: starEach [] X.env := by rfl)
    (ne : starEach [.Call (.Name "range" p3) [a] [] pr] X.env = (false, eval (.Call (.Name "range" p3) [a] [] pr) X.env) :: starEach [] X.env := by rfl) : PN X e (.Call (.Name "list" pf) [.Call (.Name "range" p3) [a] [] pr] [] pos) (nRg1 ta) :=
  ⟨fun ρ Q Q' k q => h.mono ρ _ _ (fun d hd => by
    split at hd <;> first | exact ⟨hd.1, k _ hd.2⟩ | exact hd.elim) q, imp (pe_listRg hc hg hm (prg_1 hg2 hm2 h.pe na) ne) fun σ H Q ⟨F, ρ, rp, q⟩ => ⟨F, ρ, rp, h.mono ρ _ _ (fun d hd v F1 H1 g1 dv => by
    split at hd
    · rename_i j
      cases dv
      refine ⟨j, rfl, hd.1, fun n hn => ?_⟩
      have rp2 := rp.step g1
      have hq : Fin (kN X.K e) F H Q (.lst (intsD 0 (j - 0).toNat)) := hd.2
      obtain ⟨g3, k3⟩ := nOk_new rp2 hn (rg_dp (K := X.K) (F := F1) 0 j)
      exact hq _ F1 _ (g1.trans rp.ok g3) ((kN X.K e).weak g1 k3)
    · exact hd.elim) q⟩⟩
/-! ### all, any of a list of bools; list.index -/
def boolsOf : List D → Option (List Bool)
  | [] => some []
  | .bool b :: r => (boolsOf r).map (b :: ·)
  | _ => none
theorem boolsOf_dp {K : PySem.W.Frag} {F : Hp} : ∀ {vs : List V} {ds : List D} {bs : List Bool}, boolsOf ds = some bs → DpAll K F vs ds → vs = bs.map V.bl
  | _, _, _, h, .nil => by
    cases h
    rfl
  | v :: vs, d :: ds, bs, h, .cons a t => by
    cases a with
    | bl b =>
      have h : (boolsOf ds).map (b :: ·) = some bs := h
      cases q : boolsOf ds with
      | none => rw [q] at h; cases h
      | some ms =>
        rw [q] at h
        cases h
        rw [boolsOf_dp q t]
        rfl
    | _ => cases h
def rdAll : R1 (Bool × List D) D := fun x Q => x.1 = false ∧ someOf (boolsOf x.2) fun bs => Q (.bool (bs.all id))
theorem pd_all (hc : X.calm = true) (hg : Gl X "all") (hm : X.mg "all" = none) (hv : bootBuiltins "all" = some (.builtin "all")) (ha : PQ X e a tq) (he : starEach [a] X.env = (false, eval a X.env) :: starEach [] X.env := by rfl) (hpl : (backTo pos (starEach [] X.env)).any (·.1) = false := by rfl) : PD X e (.Call (.Name "all" pf) [a] [] pos) (xUn rdAll tq) :=
  px_b1 (cr_all hc) hg hm hv (fun x Q Q' h q => ⟨q.1, someOf_mono (fun _ => h _) q.2⟩) ha (fun ρ F σ H0 H v x Q rp dv q => by
    obtain ⟨b, xs⟩ := x
    obtain ⟨q1, q⟩ := q
    simp only at q1 q
    subst q1
    cases z : boolsOf xs with
    | none => rw [z] at q; exact q.elim
    | some bs =>
      rw [z] at q
      obtain ⟨p, vs, e1, e2, e3⟩ := SeqOk.list dv
      subst e1
      rw [boolsOf_dp z e3] at e2
      exact ⟨p, bs, rfl, e2, (show Fin (kD X.K e) F H Q (.bool (bs.all id)) from q) _ F H (.refl rp.ok) (.bl _)⟩) (by decide) (by decide) he hpl
/-- l.index(x), plain items -/
def xIndex (tq : TX (Bool × List D)) (ta : TX D) : TX D := fun ρ Q => tq ρ fun x => x.1 = false ∧ ta ρ fun d => flatD d = true ∧ x.2.all flatD = true ∧ ∃ j : Nat, ∃ z, x.2[j]? = some z ∧ eqF z d = true ∧ (∀ m z', m < j → x.2[m]? = some z' → eqF z' d = false) ∧ Q (.int (j : Nat))
theorem pd_index (hq : PQ X e a tq) (h : PD X e b ta) (hb0 : attributeBase a "index" X.env (eval a X.env) = eval a X.env := by rfl)
    (hfew : ((backTo p2 (starEach [b] X.env)).all (fun x => !x.1) && (backToKw p2 (keywordEach [] X.env)).all (fun x => x.1.isSome) && decide ([b].length + ([] : List Keyword).length + (if ([] : List Keyword).isEmpty then 0 else 1) < 30)) = true := by rfl)
    (hline : (apos.endLine == p2.line) = true := by rfl) (hst : starEach [b] X.env = (false, eval b X.env) :: starEach [] X.env := by rfl) (hpl : (backTo p2 (starEach [] X.env)).any (·.1) = false := by rfl) : PD X e (.Call (.Attribute a "index" apos) [b] [] p2) (xIndex tq ta) :=
  ⟨fun ρ Q Q' k q => hq.mono ρ _ _ (fun x hx => ⟨hx.1, h.mono ρ _ _ (fun d ⟨h2, h3, j, z, h4, h5, h6, h7⟩ => ⟨h2, h3, j, z, h4, h5, h6, k _ h7⟩) hx.2⟩) q,
    imp (pe_bm PySem.F.plainAttrs_list PySem.F.slot_list_index PySem.F.type_list_index mt_index hq.pe (pa_cons h.pe pa_nil hst) hb0 hfew hline hst hpl) fun σ H Q ⟨F, ρ, rp, q⟩ => ⟨F, ρ, rp, hq.mono ρ _ _ (fun x hx v F1 H1 g1 dv => by
    have tt : ∃ p vs, v = .ref p ∧ (if x.1 = true then SqT X.K (Msk e.M H1) p vs else SqL X.K (Msk e.M H1) p vs) ∧ DpAll X.K F1 vs x.2 := dv
    obtain ⟨p, vs, e1, e2, e3⟩ := tt
    subst e1
    obtain ⟨hl, hx⟩ := hx
    · rw [hl, if_neg Bool.false_ne_true] at e2
      refine ⟨.inl ⟨rfl, vs, SqLmono msk_sub e2⟩, F1, ρ, rp.step g1, h.mono ρ _ _ (fun d hd w F2 H2 g2 dw => ?_) hx⟩
      obtain ⟨h2, h3, j, z, h4, h5, h6, h7⟩ := hd
      have e3' := dpAllMono g2.fz x.2 e3
      obtain ⟨zv, hz1, hz2⟩ := DpAll.get e3' h4
      have fl := flat_all h3 e3'
      have h3' : ∀ z ∈ x.2, flatD z = true := List.all_eq_true.mp h3
      refine ⟨p, vs, w, j, zv, rfl, rfl, SqLmono (g2.msk.trans msk_sub) e2, flat_of h2 dw, fl, hz1, ?_, fun m z' hm hz' => ?_, ?_⟩
      · rw [eqF_of (h3' z (List.mem_of_getElem? h4)) h2 hz2 dw]
        exact h5
      · obtain ⟨d', q1, q2⟩ := DpAll.back e3' hz'
        rw [eqF_of (h3' d' (List.mem_of_getElem? q1)) h2 q2 dw]
        exact h6 m d' hm q1
      · exact (show Fin (kD X.K e) F H Q (.int (j : Nat)) from h7) _ F2 H2 (g1.trans rp.ok g2) (.int _)) q⟩⟩
end
end PL
set_option Elab.async false
set_option linter.all false
set_option maxRecDepth 100000
set_option maxHeartbeats 4000000
namespace PL
open PySem PySem.Spec PyProof.Rows L2
theorem wipe_in {σ : L2.St} : ∀ (us ws : List Nat), (∀ u ∈ us, u ∈ ws) → wipe (wipe σ us) ws = wipe σ ws
  | [], _, _ => rfl
  | u :: us, ws, h => by
    show wipe ((wipe σ us).set u none) ws = wipe σ ws
    rw [wipe_put (h u (List.mem_cons_self ..)), wipe_in us ws fun z hz => h z (List.mem_cons_of_mem _ hz)]
/-- the new list at Dn holds acc, all else has grown from (F1, H1) -/
structure Acc (K : PySem.W.Frag) (e : Dl) (F1 H1 : Hp) (Dn : Addr) (F H : Hp) (acc : List D) : Prop where
  gr : Gr e F1 H1 F H
  fz : F Dn = none
  at_ : ∃ vs, H Dn = some (.lst vs) ∧ DpAll K F vs acc
section
variable {K : PySem.W.Frag} {e : Ent} {ρ ρ4 : Ev} {σ σ4 : L2.St} {F1 H1 F H F' H' F3 H3 : Hp} {Dn : Addr} {acc : List D}
theorem Acc.step (ok : e.toDl.Ok F1 H1) (hm : ¬ e.M Dn) (a : Acc K e.toDl F1 H1 Dn F H acc) (g : Gr e.toDl F H F' H') : Acc K e.toDl F1 H1 Dn F' H' acc := by
  obtain ⟨vs, h1, h2⟩ := a.at_
  refine ⟨a.gr.trans ok g, ?_, vs, g.st Dn _ h1 hm, dpAllMono g.fz acc h2⟩
  cases z : F' Dn with
  | none => rfl
  | some u =>
    have := g.new Dn u z a.fz
    rw [h1] at this
    cases this
theorem Acc.app (stay : e.toDl.Stay) (hD : H1 Dn = none) (hm : ¬ e.M Dn) (a : Acc K e.toDl F1 H1 Dn F H acc) {v : V} {d : D} (dv : Dp K F v d) (hl : acc.length < sizeLine) :
    ∃ vs, H Dn = some (.lst vs) ∧ vs.length < sizeLine ∧ Acc K e.toDl F1 H1 Dn F (upd H Dn (.lst (vs ++ [v]))) (acc ++ [d]) := by
  obtain ⟨vs, h1, h2⟩ := a.at_
  have ne : ∀ b u, F b = some u → b ≠ Dn := fun b u q z => by rw [z, a.fz] at q; cases q
  refine ⟨vs, h1, by rw [DpAll.len h2]; exact hl, ⟨a.gr.fz, a.gr.new, fun b u q m => by rw [upd_ne (ne_of_none q hD)]; exact a.gr.st b u q m, ⟨fun b u q => by rw [upd_ne (ne b u q)]; exact a.gr.ok.sub b u q, fun b m => ⟨(a.gr.ok.mu b m).1, ?_⟩, stay _ _ a.gr.ok.inv fun b m => by rw [upd_ne (fun z => hm (by rw [← z]; exact m))]⟩⟩, a.fz, vs ++ [v], upd_same, DpAll.app h2 (.cons dv .nil)⟩
  obtain ⟨_, u, q⟩ := a.gr.ok.mu b m
  exact ⟨u, by rw [upd_ne (fun z => hm (by rw [← z]; exact m))]; exact q⟩
/-- the slots of a middle turn, later on -/
theorem rpMid (rp1 : Rp K e ρ F1 σ H1) (rp4 : Rp K e ρ4 F3 σ4 H3) (own : ∀ (j : Nat) (oc : OC), ρ4[j]? = some (some (.own oc)) → ρ[j]? = some (some (.own oc)) ∧ σ4[j]? = σ[j]?) (s : Same F3 F) (g : Gr e.toDl F1 H1 F H) : Rp K e ρ4 F σ4 H where
  len := rp4.len
  ok0 := rp4.ok0
  gr := (rp1.step g).gr
  stay := rp4.stay
  slots := fun j p h => by
    cases p with
    | imm x =>
      obtain ⟨v, h1, h2⟩ := rp4.slots j _ h
      exact ⟨v, h1, dpMono s x h2⟩
    | raw x => exact rp4.slots j _ h
    | std x y =>
      obtain ⟨v, h1, h2⟩ := rp4.slots j _ h
      exact ⟨v, h1, StdOk.mono s h2⟩
    | two _ _ =>
      obtain ⟨v, h1, h2⟩ := rp4.slots j _ h
      exact (show False from h2).elim
    | own oc =>
      obtain ⟨h1, h2⟩ := own j oc h
      obtain ⟨v, h3, h4⟩ := (rp1.step g).slots j _ h1
      exact ⟨v, h2.trans h3, h4⟩
  apart := rp4.apart
theorem own_wipe {j : Nat} {oc : OC} : ∀ {vs : List Nat}, (wipeE ρ vs)[j]? = some (some (.own oc)) → ρ[j]? = some (some (.own oc)) ∧ (wipe σ vs)[j]? = σ[j]?
  | [], h => ⟨h, rfl⟩
  | v :: vs, h => by
    obtain ⟨hv, h⟩ := getNone h
    obtain ⟨h1, h2⟩ := own_wipe h
    exact ⟨h1, by show ((wipe σ vs).set v none)[j]? = _; rw [List.getElem?_set_ne hv]; exact h2⟩
end
/-- the inner walk of a comprehension -/
theorem in_it {J : It} {n : Nat} {G : Hp → Prop} {Y : Nat → Hp → V → Hp → Prop} (w : Walk J n G Y) {H0 : Hp} {Nx : Hp → Prop} {T : (Hp → Prop) → V → Hp → Prop} (Pv : Nat → Hp → Prop) (h0 : Pv 0 H0) (hG : ∀ i H, i ≤ n → Pv i H → G H)
    (hs : ∀ i x H H', i < n → Pv i H → Y i H x H' → T (Pv (i + 1)) x H') (hd : ∀ H, Pv n H → Nx H) :
    ∃ W : Nat → Nat → Hp → Prop, (∃ m, W 0 m H0) ∧ ∀ i m H, W i m H → (J.stop i H ∧ Nx H) ∨ (J.go i H ∧ ∃ N : Hp → Prop, (∀ H', N H' → ∃ m', m' < m ∧ W (i + 1) m' H') ∧ ∀ x H', J.yld i H x H' → T N x H') := by
  refine ⟨fun i m H => m = n - i ∧ i ≤ n ∧ Pv i H, ⟨n, by simp, Nat.zero_le _, h0⟩, ?_⟩
  rintro i m H ⟨rfl, hi, p⟩
  have q := hG i H hi p
  by_cases hlt : i < n
  · exact .inr ⟨w.goes i H hlt q, Pv (i + 1), fun H' p' => ⟨n - (i + 1), by omega, rfl, hlt, p'⟩, fun x H' y => hs i x H H' hlt p (w.yields i H x H' hlt q y)⟩
  · have e : i = n := by omega
    subst e
    exact .inl ⟨w.stops H q, hd H p⟩
abbrev TGd := D → Ev → (Ev → Prop) → Prop
def compT2 (g : TGd) (tt : TX Bool) (it1 : TX (List D)) (g1 : TGd) (tt1 : TX Bool) (te : TX D) (vs1 : List Nat) (ρ : Ev) : List D → List D → (List D → Prop) → Prop
  | [], acc, Q => Q acc
  | d :: r, acc, Q => g d ρ fun ρ' => tt ρ' fun k => if k = true then it1 ρ' fun ys => compT g1 tt1 te (wipeE ρ' vs1) ys acc fun acc' => compT2 g tt it1 g1 tt1 te vs1 ρ r acc' Q else compT2 g tt it1 g1 tt1 te vs1 ρ r acc Q
abbrev MonoG (g : TGd) : Prop := ∀ d ρ (Q Q' : Ev → Prop), (∀ x, Q x → Q' x) → g d ρ Q → g d ρ Q'
theorem compT2_mono {g g1 : TGd} {tt tt1 : TX Bool} {it1 : TX (List D)} {te : TX D} {vs1 : List Nat} (mg : MonoG g) (mt : MonoX tt) (mi : MonoX it1) (mg1 : MonoG g1) (mt1 : MonoX tt1) (me : MonoX te) {ρ : Ev} {Q Q' : List D → Prop} (k : ∀ x, Q x → Q' x) : ∀ (xs acc : List D), compT2 g tt it1 g1 tt1 te vs1 ρ xs acc Q → compT2 g tt it1 g1 tt1 te vs1 ρ xs acc Q'
  | [], acc, q => k _ q
  | d :: r, acc, q => mg d ρ _ _ (fun ρ' q => mt ρ' _ _ (fun b q => by
    cases b with
    | true =>
      rw [if_pos rfl] at q ⊢
      exact mi ρ' _ _ (fun ys q => compT_mono mg1 mt1 me (fun acc' q => compT2_mono mg mt mi mg1 mt1 me k r acc' q) ys acc q) q
    | false =>
      rw [if_neg Bool.false_ne_true] at q ⊢
      exact compT2_mono mg mt mi mg1 mt1 me k r _ q) q) q
def xLc2 (tl : TX (List D)) (g : TGd) (tt : TX Bool) (it1 : TX (List D)) (g1 : TGd) (tt1 : TX Bool) (te : TX D) (vs vs1 : List Nat) : TX OC := fun ρ Q => tl ρ fun xs => compT2 g tt it1 g1 tt1 te vs1 (wipeE ρ vs) xs [] fun ys => Q (.lst ys)
section
variable {e : Ent} {is is1 : List Nat}
theorem lc2_read {K : PySem.W.Frag} {own : List (Str × Nat)} {vs1 : List Nat} {tl it1 : TX (List D)} {g g1 : TGd} {tt tt1 : TX Bool} {te : TX D} (mi : MonoX tl) (mg : MonoG g) (mt : MonoX tt) (mi1 : MonoX it1) (mg1 : MonoG g1) (mt1 : MonoX tt1) (me : MonoX te) (hv : ∀ i ∈ is, i ∈ own.map (·.2)) (hv1 : ∀ i ∈ is1, i ∈ vs1) {σ : L2.St} {H : Hp} {Q : VK}
    (h : lift K e (kN K e) (xLc2 tl g tt it1 g1 tt1 te (own.map (·.2)) vs1) σ H Q) : tLc2 (liftI K e false tl) (liftG K e is g) (liftT K e tt) (liftI K e true it1) (liftG K e is1 g1) (liftT K e tt1) (lift K e (kD K e) te) (own.map (·.2)) vs1 σ H Q := by
  obtain ⟨F, ρ, rp, q⟩ := h
  refine ⟨F, ρ, rp, mi ρ _ _ (fun xs hxs J F1 H1 gg1 ⟨G, Y, w, hG, hY⟩ => ?_) q⟩
  intro Dn hD
  have rp1 := rp.step gg1
  have hm : ¬ e.M Dn := gg1.ok.fM hD
  have end_ : ∀ H2, (∃ F2 acc, Acc K e.toDl F1 H1 Dn F2 H2 acc ∧ compT2 g tt it1 g1 tt1 te vs1 (wipeE ρ (own.map (·.2))) [] acc (fun ys => Fin (kN K e) F H Q (.lst ys))) → Q (.ref Dn) H2 := fun H2 ⟨F2, acc, a, q2⟩ => by
    have q2 : Fin (kN K e) F H Q (.lst acc) := q2
    obtain ⟨vs, h1, h2⟩ := a.at_
    refine q2 (.ref Dn) F2 H2 (gg1.trans rp.ok a.gr) ⟨Dn, rfl, ⟨vs, h1, h2⟩, a.fz, ?_, hm⟩
    cases z : H Dn with
    | none => rfl
    | some u =>
      have := gg1.st Dn u z hm
      rw [hD] at this
      cases this
  refine in_it (T := fun N x H' => liftG K e is g x (wipe σ (own.map (·.2))) H' fun σ2 H2 => wipe σ2 (own.map (·.2)) = wipe σ (own.map (·.2)) ∧ _) w (fun i H2 => ∃ F2 acc, Acc K e.toDl F1 H1 Dn F2 H2 acc ∧ compT2 g tt it1 g1 tt1 te vs1 (wipeE ρ (own.map (·.2))) (xs.drop i) acc (fun ys => Fin (kN K e) F H Q (.lst ys))) ?_ ?_ ?_ ?_
  · exact ⟨F1, [], ⟨Gr.newO gg1.ok rp1.stay hD, gg1.ok.sub.free hD, [], upd_same, .nil⟩, by rw [List.drop_zero]; exact hxs⟩
  · intro i H2 _ ⟨F2, acc, a, _⟩
    refine hG H2 ?_
    rw [if_neg Bool.false_ne_true]
    exact a.gr.msk
  · intro i x H2 H3 hi' ⟨F2, acc, a, q2⟩ y
    obtain ⟨d, hd⟩ : ∃ d, xs[i]? = some d := ⟨xs[i], by simp [hi']⟩
    obtain ⟨F3, g3, dv⟩ := hY i H2 x H3 d F2 hd a.gr.fz a.gr.ok rp1.stay y
    have e1 : xs.drop i = d :: xs.drop (i + 1) := by
      rw [List.drop_eq_getElem_cons hi']
      congr 1
      exact (List.getElem?_eq_some_iff.mp hd).2
    rw [e1, compT2] at q2
    have a3 := a.step rp1.ok hm g3
    have rp3 : Rp K e ρ F3 σ H3 := rp1.step a3.gr
    refine ⟨F3, wipeE ρ (own.map (·.2)), d, rp3.wipe _, dv, mg d _ _ _ (fun ρ4 q4 σ4 rp4 o4 => ⟨(o4.w _ hv).trans (wipe_in _ _ fun _ z => z), F3, ρ4, rp4, mt ρ4 _ _ (fun k hk F5 H5 g5 => ?_) q4⟩) q2⟩
    have a5 := a3.step rp1.ok hm g5
    have own4 : ∀ (j : Nat) (oc : OC), ρ4[j]? = some (some (.own oc)) → ρ[j]? = some (some (.own oc)) ∧ σ4[j]? = σ[j]? := fun j oc hj => by
      obtain ⟨h1, h2⟩ := o4.o j oc hj
      obtain ⟨h3, h4⟩ := own_wipe (σ := σ) h1
      exact ⟨h3, h2.trans h4⟩
    cases k with
    | false =>
      rw [if_neg Bool.false_ne_true] at hk
      exact iteF ⟨F5, acc, a5, hk⟩
    | true =>
      rw [if_pos rfl] at hk
      refine iteT ⟨F5, ρ4, rp4.step g5, mi1 ρ4 _ _ (fun ys hys J1 F6 H6 g6 ⟨G1, Y1, w1, hG1, hY1⟩ => ?_) hk⟩
      have a6 := a5.step rp1.ok hm g6
      refine in_it (T := fun N x H' => liftG K e is1 g1 x (wipe σ4 vs1) H' fun σ3 H5 => wipe σ3 vs1 = wipe σ4 vs1 ∧ _) w1 (fun j H7 => ∃ F7 acc7, Same F6 F7 ∧ Acc K e.toDl F1 H1 Dn F7 H7 acc7 ∧ compT g1 tt1 te (wipeE ρ4 vs1) (ys.drop j) acc7 (fun acc' => compT2 g tt it1 g1 tt1 te vs1 (wipeE ρ (own.map (·.2))) (xs.drop (i + 1)) acc' (fun ys => Fin (kN K e) F H Q (.lst ys)))) ?_ ?_ ?_ ?_
      · exact ⟨F6, acc, Same.refl _, a6, by rw [List.drop_zero]; exact hys⟩
      · intro j H7 _ ⟨F7, acc7, s7, a7, _⟩
        exact hG1 H7 (by rw [if_pos rfl]; exact s7.trans a7.gr.ok.sub)
      · intro j y' H7 H8 hj ⟨F7, acc7, s7, a7, q7⟩ yy
        obtain ⟨d', hd'⟩ : ∃ d', ys[j]? = some d' := ⟨ys[j], by simp [hj]⟩
        obtain ⟨F8, g8, dv8⟩ := hY1 j H7 y' H8 d' F7 hd' s7 a7.gr.ok rp1.stay yy
        have e2 : ys.drop j = d' :: ys.drop (j + 1) := by
          rw [List.drop_eq_getElem_cons hj]
          congr 1
          exact (List.getElem?_eq_some_iff.mp hd').2
        rw [e2, compT] at q7
        have a8 := a7.step rp1.ok hm g8
        have s38 : Same F3 F8 := ((g5.fz.trans g6.fz).trans s7).trans g8.fz
        have rp8 : Rp K e ρ4 F8 σ4 H8 := rpMid rp1 rp4 own4 s38 a8.gr
        refine ⟨F8, wipeE ρ4 vs1, d', rp8.wipe _, dv8, mg1 d' _ _ _ (fun ρ9 q9 σ9 rp9 o9 => ⟨(o9.w _ hv1).trans (wipe_in _ _ fun _ z => z), F8, ρ9, rp9, mt1 ρ9 _ _ (fun k hk F9 H9 g9 => ?_) q9⟩) q7⟩
        have a9 := a8.step rp1.ok hm g9
        have s69 : Same F6 F9 := (s7.trans g8.fz).trans g9.fz
        cases k with
        | false =>
          rw [if_neg Bool.false_ne_true] at hk
          exact iteF ⟨F9, acc7, s69, a9, hk⟩
        | true =>
          rw [if_pos rfl] at hk
          refine iteT ⟨F9, ρ9, rp9.step g9, me ρ9 _ _ (fun z hz v F10 H10 g10 dz => ?_) hk⟩
          have a10 := a9.step rp1.ok hm g10
          obtain ⟨vs, k1, k2, k3⟩ := a10.app rp1.stay hD hm dz hz.1
          exact ⟨vs, k1, k2, F10, acc7 ++ [z], s69.trans g10.fz, k3, hz.2⟩
      · intro H7 ⟨F7, acc7, s7, a7, q7⟩
        rw [List.drop_length] at q7
        exact ⟨F7, acc7, a7, q7⟩
  · intro H2 ⟨F2, acc, a, q2⟩
    rw [List.drop_length] at q2
    exact end_ H2 ⟨F2, acc, a, q2⟩
end
section
variable {X : Cx} {e : Ent} {pos : Pos} {i : Nat} {st : Stmt} {t : TSt}
/-- a statement that walks a dict of one's own: locked meanwhile -/
def zLock (i : Nat) (t : TSt) : TSt := fun P ρ => ownDic i ρ fun kvs => ∀ d, t { P with nx := fun ρ' => ρ'[i]? = some (some (.std d kvs)) ∧ P.nx ((ρ'.map (unS d)).set i (some (.own (.dic kvs)))), rt := fun _ => False, bk := fun _ => False, ct := fun _ => False } (ρ.set i (some (.std d kvs)))
theorem z_lock (h : PSx X e st t) : PSx X e st (zLock i t) :=
  ⟨impS (ps_lock h.ps) fun Dd σ H ⟨F, ρ, P, rp, q, lk⟩ => by
    obtain ⟨kvs, hx, hq⟩ := ownDic_of q
    obtain ⟨d, ks, q1, h1, h2, h3, h4, hr⟩ := rp.lock hx
    have h00 : e.F0 d = none := rp.ok0.sub.free h4
    refine ⟨d, .dK ks, h1, trivial, fun od => ⟨_, _, { P with nx := fun ρ' => ρ'[i]? = some (some (.std d kvs)) ∧ P.nx ((ρ'.map (unS d)).set i (some (.own (.dic kvs)))), rt := fun _ => False, bk := fun _ => False, ct := fun _ => False }, hr od, hq d, ?_⟩⟩
    refine ⟨fun ρ' σ' F' H' s rp' ⟨z1, z2⟩ => ?_, fun _ _ _ _ _ z => z.elim, fun _ _ _ _ _ _ z => z.elim, fun _ _ _ _ _ _ z => z.elim⟩
    have hF : F' d = some (.frz od (.dK ks)) := s _ _ upd_same
    refine ⟨rp'.sub _ _ hF, lk.nx _ _ (drop F' d) _ (fun b o hb => ?_) (rp'.unlock hF z1 h4 h00 h3) z2⟩
    have hne : b ≠ d := fun z => by rw [z, h2] at hb; cases hb
    rw [drop_ne hne]
    exact s b o (by rw [upd_ne hne]; exact hb)⟩
variable {is is1 : List Nat} {tl it1 : TX (List D)} {g g1 : TGd} {tt tt1 : TX Bool} {te : TX D} {elt tg iter tg1 iter1 : Expr} {ifs ifs1 : List Expr} {scope : Scope} {own : List (Str × Nat)} {vs1 : List Nat} {spos py : Pos} {y : Str}
theorem z_setLc2D (hc : X.calm = true) (hN : X.N.Nodup) (hy : X.N[i]? = some y) (hyl : X.env.scope.names.lookup y = some .local)
    (hsw : swapsWith (.ListComp elt [⟨tg, iter, ifs, 0⟩, ⟨tg1, iter1, ifs1, 0⟩] scope pos) (some (.Name y py)) spos.line X.env = pure true) (hi : PIx X e false tg iter tl) (ok : BlkOk X.N X.env.scope scope own) (hvs : ∀ i ∈ vs1, i ∈ own.map (·.2))
    (hg : ∀ (s : Shared) (H : Hp) (C : Addr) (cl : List (Str × Addr)) (fp : List Addr), PGx (X.blk s H scope (compEnvC scope cl C X.env) fp) e is tg g) (ht : ∀ (s : Shared) (H : Hp) (C : Addr) (cl : List (Str × Addr)) (fp : List Addr), PTx (X.blk s H scope (compEnvC scope cl C X.env) fp) e ifs tt)
    (hi1 : ∀ (s : Shared) (H : Hp) (C : Addr) (cl : List (Str × Addr)) (fp : List Addr), PIx (X.blk s H scope (compEnvC scope cl C X.env) fp) e true tg1 iter1 it1)
    (hg1 : ∀ (s : Shared) (H : Hp) (C : Addr) (cl : List (Str × Addr)) (fp : List Addr), PGx (X.blk s H scope (compEnvC scope cl C X.env) fp) e is1 tg1 g1) (ht1 : ∀ (s : Shared) (H : Hp) (C : Addr) (cl : List (Str × Addr)) (fp : List Addr), PTx (X.blk s H scope (compEnvC scope cl C X.env) fp) e ifs1 tt1)
    (he : ∀ (s : Shared) (H : Hp) (C : Addr) (cl : List (Str × Addr)) (fp : List Addr), PD (X.blk s H scope (compEnvC scope cl C X.env) fp) e elt te) (hv : ∀ i ∈ is, i ∈ own.map (·.2)) (hv1 : ∀ i ∈ is1, i ∈ vs1) (hs : ∀ x, foldedSetIterable iter X.env x = pure x := by intro _; rfl) (hs1 : ∀ env x, foldedSetIterable iter1 env x = pure x := by intro _ _; rfl) :
    PSx X e (.Assign [.Name y py] (.ListComp elt [⟨tg, iter, ifs, 0⟩, ⟨tg1, iter1, ifs1, 0⟩] scope pos) spos) (zSet .imm i (xND (xLc2 tl g tt it1 g1 tt1 te (own.map (·.2)) vs1))) := by
  have mg := (hg X.s_0 (fun _ => none) 0 [] []).mono
  have mt := (ht X.s_0 (fun _ => none) 0 [] []).mono
  have mi1 := (hi1 X.s_0 (fun _ => none) 0 [] []).mono
  have mg1 := (hg1 X.s_0 (fun _ => none) 0 [] []).mono
  have mt1 := (ht1 X.s_0 (fun _ => none) 0 [] []).mono
  have me := (he X.s_0 (fun _ => none) 0 [] []).mono
  refine ⟨impS (ps_setLc2 (g := liftG X.K e is g) (tt := liftT X.K e tt) (wi1 := liftI X.K e true it1) (g1 := liftG X.K e is1 g1) (tt1 := liftT X.K e tt1) (te := lift X.K e (kD X.K e) te) hc hN hy hyl hsw hi.pi ok hvs (fun s H C cl fp => (hg s H C cl fp).pg) (fun s H C cl fp => (ht s H C cl fp).pts) (fun s H C cl fp => (hi1 s H C cl fp).pi) (fun s H C cl fp => (hg1 s H C cl fp).pg) (fun s H C cl fp => (ht1 s H C cl fp).pts) (fun s H C cl fp => (he s H C cl fp).pe) hs hs1) fun Dd σ H ⟨F, ρ, P, rp, q, lk⟩ => ?_⟩
  refine lc2_read hi.mono mg mt mi1 mg1 mt1 me hv hv1 ⟨F, ρ, rp, hi.mono ρ _ _ (fun xs hxs => compT2_mono mg mt mi1 mg1 mt1 me (fun ys hys => ?_) xs [] hxs) q⟩
  intro v F' H' g' dv
  obtain ⟨p, e1, ⟨vs, e2, e3⟩, e4, e5, e6⟩ := dv
  subst e1
  have gf := Gr.freeze rp.ok g' e2 e5 e4 e6
  exact lk.nx _ _ _ H' gf.fz (kvD.set i rp gf (.lst (SqL.of upd_same) (dpAllMono (sameNew e4) ys e3))) hys
theorem pn_lc2 (hc : X.calm = true) (hN : X.N.Nodup) (hi : PIx X e false tg iter tl) (ok : BlkOk X.N X.env.scope scope own) (hvs : ∀ i ∈ vs1, i ∈ own.map (·.2))
    (hg : ∀ (s : Shared) (H : Hp) (C : Addr) (cl : List (Str × Addr)) (fp : List Addr), PGx (X.blk s H scope (compEnvC scope cl C X.env) fp) e is tg g) (ht : ∀ (s : Shared) (H : Hp) (C : Addr) (cl : List (Str × Addr)) (fp : List Addr), PTx (X.blk s H scope (compEnvC scope cl C X.env) fp) e ifs tt)
    (hi1 : ∀ (s : Shared) (H : Hp) (C : Addr) (cl : List (Str × Addr)) (fp : List Addr), PIx (X.blk s H scope (compEnvC scope cl C X.env) fp) e true tg1 iter1 it1)
    (hg1 : ∀ (s : Shared) (H : Hp) (C : Addr) (cl : List (Str × Addr)) (fp : List Addr), PGx (X.blk s H scope (compEnvC scope cl C X.env) fp) e is1 tg1 g1) (ht1 : ∀ (s : Shared) (H : Hp) (C : Addr) (cl : List (Str × Addr)) (fp : List Addr), PTx (X.blk s H scope (compEnvC scope cl C X.env) fp) e ifs1 tt1)
    (he : ∀ (s : Shared) (H : Hp) (C : Addr) (cl : List (Str × Addr)) (fp : List Addr), PD (X.blk s H scope (compEnvC scope cl C X.env) fp) e elt te) (hv : ∀ i ∈ is, i ∈ own.map (·.2)) (hv1 : ∀ i ∈ is1, i ∈ vs1) (hs : ∀ x, foldedSetIterable iter X.env x = pure x := by intro _; rfl) (hs1 : ∀ env x, foldedSetIterable iter1 env x = pure x := by intro _ _; rfl) :
    PN X e (.ListComp elt [⟨tg, iter, ifs, 0⟩, ⟨tg1, iter1, ifs1, 0⟩] scope pos) (xLc2 tl g tt it1 g1 tt1 te (own.map (·.2)) vs1) := by
  have mg := (hg X.s_0 (fun _ => none) 0 [] []).mono
  have mt := (ht X.s_0 (fun _ => none) 0 [] []).mono
  have mi1 := (hi1 X.s_0 (fun _ => none) 0 [] []).mono
  have mg1 := (hg1 X.s_0 (fun _ => none) 0 [] []).mono
  have mt1 := (ht1 X.s_0 (fun _ => none) 0 [] []).mono
  have me := (he X.s_0 (fun _ => none) 0 [] []).mono
  exact ⟨fun ρ Q Q' k q => hi.mono ρ _ _ (fun xs hxs => compT2_mono mg mt mi1 mg1 mt1 me (fun ys => k _) xs [] hxs) q, imp (pe_lc2 (g := liftG X.K e is g) (tt := liftT X.K e tt) (wi1 := liftI X.K e true it1) (g1 := liftG X.K e is1 g1) (tt1 := liftT X.K e tt1) (te := lift X.K e (kD X.K e) te) hc hN hi.pi ok hvs (fun s H C cl fp => (hg s H C cl fp).pg) (fun s H C cl fp => (ht s H C cl fp).pts) (fun s H C cl fp => (hi1 s H C cl fp).pi) (fun s H C cl fp => (hg1 s H C cl fp).pg) (fun s H C cl fp => (ht1 s H C cl fp).pts) (fun s H C cl fp => (he s H C cl fp).pe) hs hs1) fun σ H Q h => lc2_read hi.mono mg mt mi1 mg1 mt1 me hv hv1 h⟩
end
/-! ### slices of lists and tuples alike -/
section
variable {X : Cx} {e : Ent} {a : Expr} {p2 pos : Pos} {tq : TX (Bool × List D)} {tl tu : TX (Option Int)} {lo hi : Option Expr}
def rdSlQ (x : Bool × List D) (lo hi : Option Int) (Q : Bool × List D → Prop) : Prop := Q (x.1, cutD x.2 lo hi)
theorem pq_sl (h : PQ X e a tq) (hl : POd X e lo tl) (hu : POd X e hi tu) : PQ X e (.Subscript a (.Slice lo hi none p2) pos) (xSl rdSlQ tq tl tu) :=
  px_sl (SlR.or sl_list sl_tupA) (fun x l u Q Q' k q => k _ q) h hl hu fun ρ F σ H0 H v x l u Q rp dv q => by
    obtain ⟨b, xs⟩ := x
    cases b with
    | false =>
      obtain ⟨p, vs, rfl, e2, e3⟩ := SeqOk.list dv
      refine .inl ⟨p, vs, rfl, e2, fun n hn => ?_⟩
      obtain ⟨g, p', ep, ⟨ws, e4, e5⟩, e6, e7, e8⟩ := nOk_new rp hn (cut_dp (lo := l) (hi := u) e3)
      exact q _ _ _ g ⟨p', ws, ep, by rw [if_neg Bool.false_ne_true]; exact SqL.of (msk_some.mpr ⟨e8, e4⟩), e5⟩
    | true =>
      have dv0 := dv
      obtain ⟨p, vs, rfl, e2, e3⟩ := SeqOk.tup dv
      refine .inr ⟨p, vs, rfl, e2, fun z => ?_, fun _ n hn => ?_⟩
      · rw [DpAll.len e3] at z
        refine q _ F H (.refl rp.ok) ?_
        show SeqOk X.K e.M F H (.ref p) true (cutD xs l u)
        rw [cut_whole z]
        exact dv0
      · obtain ⟨g, k⟩ := dOk_new rp hn (cut_dp (lo := l) (hi := u) e3)
        cases k with
        | tup k1 k2 => exact q _ _ _ g ⟨n, _, rfl, by rw [if_pos rfl]; exact SqTmono g.ok.msk k1, k2⟩
end
/-! ### readings by their invariants -/
theorem ifD {c A B : Prop} [Decidable c] (h1 : c → A) (h2 : ¬ c → B) : if decide c = true then A else B := by
  by_cases z : c
  · rw [if_pos (decide_eq_true z)]
    exact h1 z
  · rw [if_neg (by rw [decide_eq_false z]; decide)]
    exact h2 z
theorem ifN {c A B : Prop} [Decidable c] (h1 : ¬ c → A) (h2 : c → B) : if (!decide c) = true then A else B := by
  by_cases z : c
  · rw [if_neg (by rw [decide_eq_true z]; decide)]
    exact h2 z
  · rw [if_pos (by rw [decide_eq_false z]; rfl)]
    exact h1 z
theorem ifB {b : Bool} {A B : Prop} (h1 : b = true → A) (h2 : b = false → B) : if b = true then A else B := by
  cases b with
  | true => rw [if_pos rfl]; exact h1 rfl
  | false => rw [if_neg Bool.false_ne_true]; exact h2 rfl
theorem ixTo {b : Bool} {xs : List D} {i : Int} {d : D} {Q : D → Prop} (h : atI xs i = some d) (q : Q d) : rdIx (b, xs) (.int i) Q := someTo h q
theorem line3 {n : Nat} (h : n ≤ 16777216) : n ≤ sizeLine := by rw [sizeLine_eq]; exact h
theorem lineL {n : Nat} (h : n < 16777216) : n < sizeLine := by rw [sizeLine_eq]; exact h
theorem forT_by {g : TGd} {tb : TSt} {P : Es} (I : Nat → Ev → Prop) (xs : List D) (ρ : Ev) (h0 : I 0 ρ) (hs : ∀ i d ρ (R : Ev → Prop), xs[i]? = some d → I i ρ → (∀ ρ', I (i + 1) ρ' → R ρ') → g d ρ fun ρ' => tb { P with nx := R, ct := R, bk := P.nx } ρ') (hd : ∀ ρ, I xs.length ρ → P.nx ρ) : forT g tb P xs ρ := by
  have key : ∀ (ys : List D) (i : Nat) (ρ : Ev), xs.drop i = ys → i + ys.length = xs.length → I i ρ → forT g tb P ys ρ := fun ys => by
    induction ys with
    | nil =>
      intro i ρ _ hl h
      have e : i = xs.length := by simpa using hl
      subst e
      exact hd ρ h
    | cons y ys ih =>
      intro i ρ he hl h
      have hy : xs[i]? = some y := by
        have := congrArg (fun l => l[0]?) he
        simpa using this
      exact hs i y ρ _ hy h fun ρ' h' => ih (i + 1) ρ' (by rw [← List.drop_drop, he] <;> rfl) (by simp at hl ⊢; omega) h'
  exact key xs 0 ρ (by simp) (by simp) h0
theorem intsD_len {lo : Int} {n : Nat} : (intsD lo n).length = n := by
  unfold intsD
  rw [List.length_map, List.length_range]
theorem intsD_get {lo : Int} {n i : Nat} {d : D} (h : (intsD lo n)[i]? = some d) : i < n ∧ d = .int (lo + (i : Nat)) := by
  have hi : i < n := by
    have := (List.getElem?_eq_some_iff.mp h).1
    rwa [intsD_len] at this
  unfold intsD at h
  rw [List.getElem?_map, List.getElem?_range hi] at h
  cases h
  exact ⟨hi, rfl⟩
/-- a comprehension's turns by a relation: some y is put in, none is left out -/
theorem compT_rel {g : TGd} {tt : TX Bool} {te : TX D} {ρ : Ev} (Rel : Nat → D → Option D → Prop) (xs : List D) (Q : List D → Prop)
    (h : ∀ i d (A : D → Prop) (B : Prop), xs[i]? = some d → (∀ y, Rel i d (some y) → A y) → (Rel i d none → B) → g d ρ fun ρ' => tt ρ' fun k => if k = true then te ρ' A else B)
    (hl : xs.length ≤ sizeLine) (hQ : ∀ os : List (Option D), os.length = xs.length → (∀ i d o, xs[i]? = some d → os[i]? = some o → Rel i d o) → Q (os.filterMap id)) : compT g tt te ρ xs [] Q := by
  have key : ∀ (ys : List D) (i : Nat) (os : List (Option D)), xs.drop i = ys → i + ys.length = xs.length → os.length = i → (∀ j d o, xs[j]? = some d → os[j]? = some o → Rel j d o) → compT g tt te ρ ys (os.filterMap id) Q := fun ys => by
    induction ys with
    | nil =>
      intro i os _ hl ho hr
      have e : i = xs.length := by simpa using hl
      exact hQ os (ho.trans e) hr
    | cons y ys ih =>
      intro i os he hl2 ho hr
      have hy : xs[i]? = some y := by
        have := congrArg (fun l => l[0]?) he
        simpa using this
      have step : ∀ o, Rel i y o → compT g tt te ρ ys ((os ++ [o]).filterMap id) Q := fun o hr' => ih (i + 1) (os ++ [o]) (by rw [← List.drop_drop, he] <;> rfl) (by simp at hl2 ⊢; omega) (by simp [ho]) fun j d o' h1 h2 => by
        by_cases hj : j < os.length
        · rw [List.getElem?_append_left hj] at h2
          exact hr j d o' h1 h2
        · have hj' : j = i := by
            have := (List.getElem?_eq_some_iff.mp h2).1
            simp at this
            omega
          subst hj'
          rw [List.getElem?_append_right (by omega)] at h2
          rw [hy] at h1
          cases h1
          have : (j - os.length) = 0 := by omega
          rw [this] at h2
          cases h2
          exact hr'
      refine h i y _ _ hy (fun z hz => ⟨?_, ?_⟩) fun hz => ?_
      · have := List.length_filterMap_le id os
        simp at hl2
        omega
      · have := step (some z) hz
        rw [List.filterMap_append] at this
        exact this
      · have := step none hz
        rw [List.filterMap_append] at this
        simpa using this
  have := key xs 0 [] (by simp) (by simp) rfl (fun j d o _ h2 => by simp at h2)
  simpa using this
/-- .. by a function -/
theorem compT_map {g : TGd} {tt : TX Bool} {te : TX D} {ρ : Ev} (f : D → D) (xs : List D) (Q : List D → Prop)
    (h : ∀ (i : Nat) (d : D) (A : D → Prop) (B : Prop), xs[i]? = some d → A (f d) → g d ρ fun ρ' => tt ρ' fun k => if k = true then te ρ' A else B) (hl : xs.length ≤ sizeLine) (hQ : Q (xs.map f)) : compT g tt te ρ xs [] Q := by
  refine compT_rel (fun _ d o => o = some (f d)) xs Q (fun i d A B hd hA _ => h i d A B hd (hA _ rfl)) hl fun os ho hr => ?_
  have : os = xs.map (fun d => some (f d)) := by
    apply List.ext_getElem?
    intro i
    by_cases hi : i < xs.length
    · have h1 : xs[i]? = some xs[i] := by simp [hi]
      have h2 : os[i]? = some (os[i]'(by omega)) := by simp [ho, hi]
      rw [h2, hr i _ _ h1 h2, List.getElem?_map, h1] <;> rfl
    · rw [List.getElem?_eq_none (by omega), List.getElem?_eq_none (by simp; omega)]
  rw [this, List.filterMap_map]
  have e : (xs.filterMap (id ∘ fun d => some (f d))) = xs.map f := by
    rw [← List.filterMap_eq_map]
    rfl
  rw [e]
  exact hQ
/-- .. by a function and a test -/
theorem compT_filter {g : TGd} {tt : TX Bool} {te : TX D} {ρ : Ev} (p : D → Bool) (f : D → D) (xs : List D) (Q : List D → Prop)
    (h : ∀ (i : Nat) (d : D) (A : D → Prop) (B : Prop), xs[i]? = some d → (p d = true → A (f d)) → (p d = false → B) → g d ρ fun ρ' => tt ρ' fun k => if k = true then te ρ' A else B) (hl : xs.length ≤ sizeLine) (hQ : Q ((xs.filter p).map f)) : compT g tt te ρ xs [] Q := by
  refine compT_rel (fun _ d o => o = if p d = true then some (f d) else none) xs Q (fun i d A B hd hA hB => h i d A B hd (fun z => hA _ (by rw [if_pos z])) fun z => hB (by rw [if_neg (by rw [z]; decide)])) hl fun os ho hr => ?_
  have : os = xs.map (fun d => if p d = true then some (f d) else none) := by
    apply List.ext_getElem?
    intro i
    by_cases hi : i < xs.length
    · have h1 : xs[i]? = some xs[i] := by simp [hi]
      have h2 : os[i]? = some (os[i]'(by omega)) := by simp [ho, hi]
      rw [h2, hr i _ _ h1 h2, List.getElem?_map, h1] <;> rfl
    · rw [List.getElem?_eq_none (by omega), List.getElem?_eq_none (by simp; omega)]
  rw [this]
  have e : ∀ l : List D, (l.map (fun d => if p d = true then some (f d) else none)).filterMap id = (l.filter p).map f := fun l => by
    induction l with
    | nil => rfl
    | cons x l ih =>
      rw [List.map_cons, List.filterMap_cons, List.filter_cons]
      cases hp : p x with
      | true => simp [ih]
      | false => simp [ih]
  rw [e]
  exact hQ
end PL
set_option Elab.async false
set_option linter.all false
set_option maxRecDepth 100000
set_option maxHeartbeats 4000000
namespace PL
open PySem PySem.Spec PyProof.Rows L2
/-- the drawing state of two ints at st is among what may turn -/
structure StIn (e : Dl) (st : Addr) : Prop where
  m : e.M st
  at_ : ∀ H, e.J H → ∃ k v : Int, 0 ≤ k ∧ 0 ≤ v ∧ H st = some (.lst [.int k, .int v])
  put : ∀ (H : Hp) (k v : Int), e.J H → 0 ≤ k → 0 ≤ v → e.J (upd H st (.lst [.int k, .int v]))
theorem Rp.turn {K : PySem.W.Frag} {e : Ent} {ρ : Ev} {σ : L2.St} {F H : Hp} {a : Addr} {o : HO} (r : Rp K e ρ F σ H) (m : e.M a) (j : e.J (upd H a o)) : Rp K e ρ F σ (upd H a o) where
  len := r.len
  ok0 := r.ok0
  gr := ⟨r.gr.fz, r.gr.new, fun b u q hm => by
    rw [upd_ne (fun z => hm (by rw [z]; exact m))]
    exact r.gr.st b u q hm, ⟨fun b u q => by
    rw [upd_ne (fun z => by rw [z, (r.ok.mu a m).1] at q; cases q)]
    exact r.sub b u q, fun b hb => ⟨(r.ok.mu b hb).1, by
    by_cases z : b = a
    · exact ⟨o, by rw [z, upd_same]⟩
    · rw [upd_ne z]
      exact (r.ok.mu b hb).2⟩, j⟩⟩
  stay := r.stay
  slots := fun i p h => by
    obtain ⟨v, h1, h2⟩ := r.slots i p h
    refine ⟨v, h1, ?_⟩
    cases p with
    | imm x => exact h2
    | raw x => exact h2
    | std x y => exact h2
    | two _ _ => exact h2.elim
    | own oc =>
      obtain ⟨b, f1, f2, f3, f4, f5⟩ := h2
      exact ⟨b, f1, f2.mono (Same.refl _) fun x hx => by rw [upd_ne (fun z => f5 (by rw [z]; exact m))]; exact hx, f3, f4, f5⟩
  apart := r.apart
section
variable {X : Cx} {e : Ent} {a c : Expr} {pos p2 : Pos} {ta : TX D} {i : Nat}
/-- state[j] -/
def xSt (e : Dl) (i : Nat) : TX D := fun ρ Q => ∃ st, ρ[i]? = some (some (.raw (.ref st))) ∧ StIn e st ∧ ∀ v : Int, 0 ≤ v → Q (.int v)
theorem pd_st {j : Int} {kk} {pj : Pos} (ho : PE X a (tVar i)) (hj : j = 0 ∨ j = 1) : PD X e (.Subscript a (.Constant (.int j) kk pj) pos) (xSt e.toDl i) :=
  ⟨fun ρ Q Q' k ⟨st, h1, h2, h3⟩ => ⟨st, h1, h2, fun v hv => k _ (h3 v hv)⟩, imp (pe_ix ix_list ho pe_int (fun _ _ => rfl)) fun σ H Q ⟨F, ρ, rp, st, h1, h2, h3⟩ => by
    obtain ⟨v, g1, g2⟩ := rp.slots i _ h1
    cases g2
    obtain ⟨k, u, k0, u0, hst⟩ := h2.at_ H rp.ok.inv
    rcases hj with rfl | rfl
    · exact ⟨.ref st, g1, st, _, 0, .int k, rfl, rfl, SqL.of hst, atI_nat (j := 0) rfl, h3 k k0 _ F H (.refl rp.ok) (.int _)⟩
    · exact ⟨.ref st, g1, st, _, 1, .int u, rfl, rfl, SqL.of hst, atI_nat (j := 1) rfl, h3 u u0 _ F H (.refl rp.ok) (.int _)⟩⟩
/-- state[j] = e -/
def zSt (e : Dl) (i : Nat) (ta : TX D) : TSt := fun P ρ => ta ρ fun d => match d with | .int v => 0 ≤ v ∧ (∃ st, ρ[i]? = some (some (.raw (.ref st))) ∧ StIn e st) ∧ P.nx ρ | _ => False
theorem z_st {j : Int} {kk} {pj : Pos} (h : PD X e c ta) (ho : PE X a (tVar i)) (hj : j = 0 ∨ j = 1)
    (ha : ∀ v, assign (.Subscript a (.Constant (.int j) kk pj) p2) X.env v = (do
      let ov ← holding [v] (eval a X.env)
      let iv ← holding [v, ov] (eval (.Constant (.int j) kk pj) X.env)
      standAt p2
      holding [v, ov, iv] (setItem ov iv v)
      release [v, ov, iv] []) := by intro _; rfl)
    (hs : swapsWithSole [.Subscript a (.Constant (.int j) kk pj) p2] c pos.line X.env = pure false := by rfl) (hw : swappedStores [.Subscript a (.Constant (.int j) kk pj) p2] c X.env = pure none := by rfl)
    (h1 : (assignEach [.Subscript a (.Constant (.int j) kk pj) p2] X.env).map (·.2) = [assign (.Subscript a (.Constant (.int j) kk pj) p2) X.env] := by rfl) : PSx X e (.Assign [.Subscript a (.Constant (.int j) kk pj) p2] c pos) (zSt e.toDl i ta) :=
  ⟨impS (ps_asg h.pe (pg_sub ho pe_int set_list ha) hs hw h1) fun Dd σ H ⟨F, ρ, P, rp, q, lk⟩ => ⟨F, ρ, rp, h.mono ρ _ _ (fun d hd v F1 H1 g1 dv => by
    have rp1 := rp.step g1
    cases d with
    | int n =>
      obtain ⟨n0, ⟨st, h1, h2⟩, hd⟩ := (show 0 ≤ n ∧ (∃ st, ρ[i]? = some (some (.raw (.ref st))) ∧ StIn e.toDl st) ∧ P.nx ρ from hd)
      cases dv
      obtain ⟨v, g2, g3⟩ := rp1.slots i _ h1
      cases g3
      obtain ⟨k, u, k0, u0, hst⟩ := h2.at_ H1 rp1.ok.inv
      rcases hj with rfl | rfl
      · exact ⟨.ref st, g2, st, _, 0, 0, rfl, rfl, hst, rfl, lk.nx _ _ F1 _ g1.fz (rp1.turn h2.m (h2.put H1 n u rp1.ok.inv n0 u0)) hd⟩
      · exact ⟨.ref st, g2, st, _, 1, 1, rfl, rfl, hst, rfl, lk.nx _ _ F1 _ g1.fz (rp1.turn h2.m (h2.put H1 k n rp1.ok.inv k0 n0)) hd⟩
    | _ => exact (show False from hd).elim) q⟩⟩
end
/-- the draws of that state -/
def tfDraw2 : PF := fun dl pvs Q => ∃ (st : Addr) (ns : List Int) (n : Int), pvs = [.raw (.ref st), .imm (.list (ns.map .int)), .imm (.int n)] ∧ StIn dl st ∧ 0 < n ∧ n.natAbs < 2 ^ 60 ∧ ∀ r : Int, 0 ≤ r → r < n → Q (.imm (.int r))
theorem tfDraw2_mono : MonoF tfDraw2 := fun _ _ _ _ h ⟨st, ns, n, e, s, n0, n1, q⟩ => ⟨st, ns, n, e, s, n0, n1, fun r r0 r1 => h _ (q r r0 r1)⟩
def tfRefill : PF := fun _ pvs Q => ∃ (ns : List Int) (k : Int), pvs = [.imm (.list (ns.map .int)), .imm (.int k)] ∧ 0 ≤ k ∧ ∀ r : Int, 0 ≤ r → Q (.imm (.int r))
theorem tfRefill_mono : MonoF tfRefill := fun _ _ _ _ h ⟨ns, k, e, k0, q⟩ => ⟨ns, k, e, k0, fun r r0 => h _ (q r r0)⟩
end PL
set_option Elab.async false
set_option linter.all false
set_option maxRecDepth 100000
set_option maxHeartbeats 4000000
/-! all, any of a generator expression over a sequence; its element reads data and what stands -/
namespace PL
open PySem PySem.Spec PyProof.Rows L2
/-- the table of code objects at P may grow -/
structure TabIn (e : Dl) (P : Addr) : Prop where
  m : e.M P
  at_ : ∀ H, e.J H → GxR.TabG H P
  put : ∀ H H' : Hp, e.J H → GxR.Tabbed P H H' → e.J H'
/-- what is known where the element of a generator expression is worked out -/
structure GAt (X : Cx) (e : Ent) (F H : Hp) (scope : Scope) (x : Str) (s : Shared) (cenv : Env) (A' : Around) (s2 : Shared) (m2 : Str → Option Value) (u : Value) : Prop where
  sc : cenv.scope = scope
  ce : ∀ y c, scope.names.lookup y = some .free → X.env.cells.lookup y = some c → cenv.cells.lookup y = some c
  gl : cenv.globals = X.env.globals
  hd : A'.handled = none
  keep : ∀ b o, H b = none → s.heap.get? b = some o → s2.heap.get? b = some o
  ok : ∃ H2, Gr e.toDl F H F H2 ∧ HOk X.prog X.w H2 s2.heap
  ns : s2.heap.Ns cenv.locals m2
  at_ : m2 x = some u
theorem GAt.next {X : Cx} {e : Ent} {F H : Hp} {scope : Scope} {x : Str} {s s2 s3 : Shared} {cenv : Env} {A' : Around} {m2 : Str → Option Value} {u : Value} (g : GAt X e F H scope x s cenv A' s2 m2 u) (k : Keeps s2 s3) : GAt X e F H scope x s cenv A' s3 m2 u := by
  obtain ⟨h', tk, rfl, kk⟩ := k
  exact ⟨g.sc, g.ce, g.gl, g.hd, fun b o n q => kk b o (g.keep b o n q), (let ⟨H2, g1, g2⟩ := g.ok; ⟨H2, g1, g2.kept kk⟩), g.ns.keeps kk, g.at_⟩
theorem keeps_trans {a b c : Shared} (h : Keeps a b) (k : Keeps b c) : Keeps a c := by
  obtain ⟨h1, t1, rfl, k1⟩ := h
  obtain ⟨h2, t2, rfl, k2⟩ := k
  exact ⟨h2, t2, rfl, fun b o q => k2 b o (k1 b o q)⟩
abbrev TGe := Ev → D → (D → Prop) → Prop
structure PGe (X : Cx) (e : Ent) (scope : Scope) (x : Str) (elt : Expr) (t : TGe) : Prop where
  run : ∀ (pins : List (Addr × Obj)) (ρ : Ev) (F : Hp) (σ : L2.St) (H : Hp) (s : Shared) (cenv : Env) (A' : Around) (E' : Value → Shared → Prop) (s2 : Shared) (m2 : Str → Option Value) (v : V) (u : Value) (d : D) (Q : D → Prop),
    Inv X pins σ H s → Rp X.K e ρ F σ H → GAt X e F H scope x s cenv A' s2 m2 u → RelV v u → Dp X.K F v d → t ρ d Q →
    wpAny (model X.prog X.w) A' (eval elt cenv) (fun y s3 => (∃ w d', RelV w y ∧ Dp X.K F w d' ∧ Q d') ∧ Keeps s2 s3) E' s2
section
variable {X : Cx} {e : Ent} {scope : Scope} {x : Str} {a b : Expr} {pos : Pos} {ta tb : TGe}
/-- the turn's own name -/
theorem ge_x (hk : scope.kind = .function) (hl : scope.names.lookup x = some .local) (hd : (x == ("__debug__" : Str)) = false := by decide) : PGe X e scope x (.Name x pos) (fun _ d Q => Q d) :=
  ⟨fun pins ρ F σ H s cenv A' E' s2 m2 v u d Q I rp g r dp q => wpAny_Name (wpAny_loadName_local (by rw [g.sc]; exact hk) (show cenv.scope.names.lookup x = some .local by rw [g.sc]; exact hl) g.ns g.at_ ⟨⟨v, d, r, dp, q⟩, GxR.keeps_refl _⟩) hd⟩
theorem ge_int {i : Int} {j} : PGe X e scope x (.Constant (.int i) j pos) (fun _ _ Q => Q (.int i)) :=
  ⟨fun pins ρ F σ H s cenv A' E' s2 m2 v u d Q I rp g r dp q => wpAny_Constant_int ⟨⟨.int i, .int i, ⟨_, rfl⟩, .int i, q⟩, GxR.keeps_tok _ _⟩⟩
theorem ge_str {i : Str} {j} : PGe X e scope x (.Constant (.str i) j pos) (fun _ _ Q => Q (.str i)) :=
  ⟨fun pins ρ F σ H s cenv A' E' s2 m2 v u d Q I rp g r dp q => Calls.Constant_str ⟨⟨.str i, .str i, ⟨_, rfl⟩, .str i, q⟩, GxR.keeps_tok _ _⟩⟩
def gCmp (r : D → D → (D → Prop) → Prop) (ta tb : TGe) : TGe := fun ρ d Q => ta ρ d fun y => tb ρ d fun z => r y z Q
theorem ge_lt (hm : behindInMarks .Lt b = false) (ha : PGe X e scope x a ta) (hb : PGe X e scope x b tb) : PGe X e scope x (.Compare a [.Lt] [b] pos) (fun ρ d Q => ta ρ d fun y => tb ρ d fun z => ∃ i j, y = .int i ∧ z = .int j ∧ Q (.bool (decide (i < j)))) :=
  ⟨fun pins ρ F σ H s cenv A' E' s2 m2 v u d Q I rp g r dp q => by
    refine wpAny_Compare1 (hm := hm) (wpAny_mono (ha.run pins ρ F σ H s cenv A' E' s2 m2 v u d _ I rp g r dp q) (fun y s3 h => ?_) fun _ _ z => z)
    obtain ⟨⟨w, d', r1, dp1, q1⟩, k1⟩ := h
    refine wpAny_mono (hb.run pins ρ F σ H s cenv A' E' s3 m2 v u d _ I rp (g.next k1) r dp q1) (fun z s4 h => ?_) fun _ _ z => z
    obtain ⟨⟨w2, d2, r2, dp2, i, j, e1, e2, q2⟩, k2⟩ := h
    subst e1 e2
    cases dp1
    cases dp2
    obtain ⟨t1, rfl⟩ := r1
    obtain ⟨t2, rfl⟩ := r2
    exact wpAny_lt_int ⟨⟨.bl _, _, rfl, .bl _, q2⟩, keeps_trans k1 k2⟩⟩
/-- a in d, d a dict of the def around -/
theorem in_dict {P : Program} {w : World} {K : PySem.W.Frag} {F H : Hp} {s2 : Shared} {A : Around} {E : Value → Shared → Prop} {Q : Value → Shared → Prop} {u : Value} {k : Key} {b : Addr} {ks : List (Key × V)} {kvs : List (Key × D)}
    (ok : HOk P w H s2.heap) (e : Rd H b (.dK ks)) (kv : KvAll K F ks kvs) (r : RelV (kV k) u) (h : Q (.bool (valD kvs k).isSome) { s2 with toks := s2.toks + 1 }) : wpAny (model P w) A (compareOp .In u (.ref b)) Q E s2 := by
  obtain ⟨z, hd, vs, rel, dd⟩ := dk_rd ok e
  refine wpAny_in_of (kV_is r) hd dd.mapOf ?_
  rw [← (rel.val k).isSome_eq, isSome_val k kv]
  exact h
theorem notin_dict {P : Program} {w : World} {K : PySem.W.Frag} {F H : Hp} {s2 : Shared} {A : Around} {E : Value → Shared → Prop} {Q : Value → Shared → Prop} {u : Value} {k : Key} {b : Addr} {ks : List (Key × V)} {kvs : List (Key × D)}
    (ok : HOk P w H s2.heap) (e : Rd H b (.dK ks)) (kv : KvAll K F ks kvs) (r : RelV (kV k) u) (h : Q (.bool (!(valD kvs k).isSome)) { s2 with toks := s2.toks + 1 }) : wpAny (model P w) A (compareOp .NotIn u (.ref b)) Q E s2 := by
  obtain ⟨z, hd, vs, rel, dd⟩ := dk_rd ok e
  refine wpAny_notIn_of (kV_is r) hd dd.mapOf ?_
  rw [← (rel.val k).isSome_eq, isSome_val k kv]
  exact h
/-- a captured slot's worth is loaded -/
theorem ld_free {i : Nat} {y : Str} {p : Pos} {pins : List (Addr × Obj)} {σ : L2.St} {H : Hp} {s s2 : Shared} {cenv : Env} {A' : Around} {m2 : Str → Option Value} {u : Value} {w : V} {Q : Value → Shared → Prop} {E' : Value → Shared → Prop}
    (hN : X.N[i]? = some y) (hv : X.env.scope.names.lookup y = some .cell) (hk : scope.kind = .function) (hf : scope.names.lookup y = some .free) (I : Inv X pins σ H s) {F : Hp} (g : GAt X e F H scope x s cenv A' s2 m2 u) (hw : σ[i]? = some (some w))
    (h : ∀ u', RelV w u' → Q u' s2) (hd : (y == ("__debug__" : Str)) = false := by decide) (hc : (y == ("__classdict__" : Str)) = false := by decide) : wpAny (model X.prog X.w) A' (eval (.Name y p) cenv) Q E' s2 := by
  obtain ⟨m, hn, hl⟩ := I.loc
  obtain ⟨u', ru, lk⟩ := hl i y w hN hw (.inr (.inl hv))
  rcases lk with ⟨z, _⟩ | ⟨_, c, hcl, hcv⟩
  · rw [show X.env.kindOf y = some .cell from hv] at z
    cases z
  · obtain ⟨o, ho, hcd⟩ := hcv
    refine wpAny_Name (wpAny_loadName_free (c := c) (v := u') (by rw [g.sc]; exact hk) (show cenv.scope.names.lookup y = some .free by rw [g.sc]; exact hf) ?_ ⟨o, g.keep _ _ (I.freeC y c hcl) ho, hcd⟩ (h u' ru) hc) hd
    exact g.ce y c hf hcl
theorem ge_inD {i : Nat} {y : Str} {p : Pos} (hN : X.N[i]? = some y) (hv : X.env.scope.names.lookup y = some .cell) (hk : scope.kind = .function) (hf : scope.names.lookup y = some .free) (ha : PGe X e scope x a ta) (hd : (y == ("__debug__" : Str)) = false := by decide) (hc : (y == ("__classdict__" : Str)) = false := by decide) :
    PGe X e scope x (.Compare a [.In] [.Name y p] pos) (fun ρ d Q => ta ρ d fun z => keyOf z fun k => dicV i ρ fun kvs => Q (.bool (valD kvs k).isSome)) :=
  ⟨fun pins ρ F σ H s cenv A' E' s2 m2 v u d Q I rp g r dp q => by
    refine wpAny_Compare1 (wpAny_mono (ha.run pins ρ F σ H s cenv A' E' s2 m2 v u d _ I rp g r dp q) (fun y' s3 h => ?_) fun _ _ z => z)
    obtain ⟨⟨w, d', r1, dp1, q1⟩, k1⟩ := h
    obtain ⟨k, rfl, q1⟩ := keyOf_of dp1 q1
    obtain ⟨kvs, b', ks, q1, h1, h2, h3⟩ := dicV_of rp q1
    refine ld_free hN hv hk hf I (g.next k1) h1 (fun u' ru => ?_) hd hc
    cases ru
    obtain ⟨H2, g2, ok3⟩ := (g.next k1).ok
    exact in_dict ok3 (h3 F H2 g2) h2 r1 ⟨⟨.bl _, _, rfl, .bl _, q1⟩, keeps_trans k1 (GxR.keeps_tok _ _)⟩⟩
theorem ge_ninD {i : Nat} {y : Str} {p : Pos} (hN : X.N[i]? = some y) (hv : X.env.scope.names.lookup y = some .cell) (hk : scope.kind = .function) (hf : scope.names.lookup y = some .free) (ha : PGe X e scope x a ta) (hd : (y == ("__debug__" : Str)) = false := by decide) (hc : (y == ("__classdict__" : Str)) = false := by decide) :
    PGe X e scope x (.Compare a [.NotIn] [.Name y p] pos) (fun ρ d Q => ta ρ d fun z => keyOf z fun k => dicV i ρ fun kvs => Q (.bool (!(valD kvs k).isSome))) :=
  ⟨fun pins ρ F σ H s cenv A' E' s2 m2 v u d Q I rp g r dp q => by
    refine wpAny_Compare1 (wpAny_mono (ha.run pins ρ F σ H s cenv A' E' s2 m2 v u d _ I rp g r dp q) (fun y' s3 h => ?_) fun _ _ z => z)
    obtain ⟨⟨w, d', r1, dp1, q1⟩, k1⟩ := h
    obtain ⟨k, rfl, q1⟩ := keyOf_of dp1 q1
    obtain ⟨kvs, b', ks, q1, h1, h2, h3⟩ := dicV_of rp q1
    refine ld_free hN hv hk hf I (g.next k1) h1 (fun u' ru => ?_) hd hc
    cases ru
    obtain ⟨H2, g2, ok3⟩ := (g.next k1).ok
    exact notin_dict ok3 (h3 F H2 g2) h2 r1 ⟨⟨.bl _, _, rfl, .bl _, q1⟩, keeps_trans k1 (GxR.keeps_tok _ _)⟩⟩
theorem ge_or1 {op} (ha : PGe X e scope x a ta) : PGe X e scope x (.BoolOp op [a] pos) ta := ⟨fun pins ρ F σ H s cenv A' E' s2 m2 v u d Q I rp g r dp q => BoolOp_one (ha.run pins ρ F σ H s cenv A' E' s2 m2 v u d Q I rp g r dp q)⟩
def boolD (d : D) (Q : Bool → Prop) : Prop := ∃ b, d = .bool b ∧ Q b
theorem ge_or {rest : List Expr} (ha : PGe X e scope x a ta) (hb : PGe X e scope x (.BoolOp .Or (b :: rest) pos) tb) : PGe X e scope x (.BoolOp .Or (a :: b :: rest) pos) (fun ρ d Q => ta ρ d fun y => boolD y fun c => if c = true then Q (.bool true) else tb ρ d Q) :=
  ⟨fun pins ρ F σ H s cenv A' E' s2 m2 v u d Q I rp g r dp q => BoolOp_or (wpAny_mono (ha.run pins ρ F σ H s cenv A' E' s2 m2 v u d _ I rp g r dp q) (fun y s3 h => by
    obtain ⟨⟨w, d', r1, dp1, c, e1, q1⟩, k1⟩ := h
    subst e1
    cases dp1
    cases r1
    refine wpAny_truthy_bool ?_
    cases c with
    | true =>
      rw [if_pos rfl] at q1 ⊢
      exact ⟨⟨.bl true, _, rfl, .bl _, q1⟩, k1⟩
    | false =>
      rw [if_neg Bool.false_ne_true] at q1 ⊢
      exact wpAny_mono (hb.run pins ρ F σ H s cenv A' E' s3 m2 v u d _ I rp (g.next k1) r dp q1) (fun z s4 h => ⟨h.1, keeps_trans k1 h.2⟩) fun _ _ z => z) fun _ _ z => z)⟩
theorem ge_and {rest : List Expr} (ha : PGe X e scope x a ta) (hb : PGe X e scope x (.BoolOp .And (b :: rest) pos) tb) : PGe X e scope x (.BoolOp .And (a :: b :: rest) pos) (fun ρ d Q => ta ρ d fun y => boolD y fun c => if c = true then tb ρ d Q else Q (.bool false)) :=
  ⟨fun pins ρ F σ H s cenv A' E' s2 m2 v u d Q I rp g r dp q => BoolOp_and (wpAny_mono (ha.run pins ρ F σ H s cenv A' E' s2 m2 v u d _ I rp g r dp q) (fun y s3 h => by
    obtain ⟨⟨w, d', r1, dp1, c, e1, q1⟩, k1⟩ := h
    subst e1
    cases dp1
    cases r1
    refine wpAny_truthy_bool ?_
    cases c with
    | false =>
      rw [if_neg Bool.false_ne_true] at q1 ⊢
      exact ⟨⟨.bl false, _, rfl, .bl _, q1⟩, k1⟩
    | true =>
      rw [if_pos rfl] at q1 ⊢
      exact wpAny_mono (hb.run pins ρ F σ H s cenv A' E' s3 m2 v u d _ I rp (g.next k1) r dp q1) (fun z s4 h => ⟨h.1, keeps_trans k1 h.2⟩) fun _ _ z => z) fun _ _ z => z)⟩
end
/-! ### the generator itself -/
section
variable {X : Cx} {e : Ent} {elt iter : Expr} {x : Str} {px p pos gpos : Pos} {scope : Scope} {t : TGe} {k : Nat} {c P : Addr} {tq : TX (Bool × List D)}
structure GenD (sc : Scope) (scope : Scope) (x : Str) : Prop where
  kind : scope.kind = .function
  co : scope.isCoroutine = false
  cell : ∀ y ∈ scope.names, y.2 ≠ .cell
  dot : scope.names.lookup (".0" : Str) = some NameKind.local
  loc : scope.names.lookup x = some .local
  free : ∀ y ∈ scope.names, y.2 = .free → sc.names.lookup y.1 = some .cell
def genDb (sc scope : Scope) (x : Str) : Bool := decide (scope.kind = .function) && decide (scope.isCoroutine = false) && scope.names.all (fun y => decide (y.2 ≠ .cell)) && decide (scope.names.lookup (".0" : Str) = some NameKind.local) && decide (scope.names.lookup x = some NameKind.local) &&
  scope.names.all (fun y => decide (y.2 = .free → sc.names.lookup y.1 = some .cell))
theorem genD_by {sc scope : Scope} {x : Str} (h : genDb sc scope x = true) : GenD sc scope x := by
  unfold genDb at h
  simp only [Bool.and_eq_true, decide_eq_true_eq, List.all_eq_true] at h
  obtain ⟨⟨⟨⟨⟨h1, h2⟩, h3⟩, h4⟩, h5⟩, h6⟩ := h
  exact ⟨h1, h2, h3, h4, h5, h6⟩
theorem gen_seq {pins : List (Addr × Obj)} {ρ : Ev} {F : Hp} {σ : L2.St} {H : Hp} {s : Shared} {Q' : Value → Shared → Prop} {Qd : (Nat → Bool) → Nat → Prop}
    (hr : Room k X.A) (TB : GxR.TabB X.base X.mg c P) (hcode : X.env.code = .ref c) (S : GenD X.env.scope scope x) (hi : PQ X e iter tq) (hel : PGe X e scope x elt t) (hs : ∀ v, genFold iter X.env v = pure v)
    (TI : TabIn e.toDl P) (I : Inv X pins σ H s) (rp : Rp X.K e ρ F σ H)
    (h : tq ρ fun xs => ∃ f : Nat → Bool, (∀ i d, xs.2[i]? = some d → t ρ d fun y => y = .bool (f i)) ∧ Qd f xs.2.length)
    (hQ : ∀ (f : Nat → Bool) (n : Nat) (g : Addr) (s5 : Shared), Qd f n → (∃ (fp wr : List Addr) (G : Array GenState → Array GenState → Prop) (Fv : Nat → Value → Prop) (St : Nat → Shared → Prop),
      WalksS X.prog X.w X.A.in1 g fp wr G n Fv St ∧ St 0 s5 ∧ TruthOf X.prog X.w X.A.in1 Fv f ∧ ∀ s', Moved wr G s5 s' → ∃ F2 H2, Gr e.toDl F H F2 H2 ∧ Inv X pins σ H2 s') → Q' (.ref g) s5) :
    wpAny (model X.prog X.w) X.A (eval (.GeneratorExp elt [⟨.Name x px, iter, [], 0⟩] scope gpos) X.env) Q' X.xe s := by
  have hfree : ∀ y ∈ scope.names, y.2 = .free → ∃ c, X.env.cells.lookup y.1 = some c := fun y hy hf => I.ok.has y.1 (.inl (S.free y hy hf))
  refine wpAny_GeneratorExp_walksQ hr.hd S.co (closure_ok hfree) S.cell S.dot S.loc S.kind (by have := hr.dp; omega) ?_ hs
  refine thn (hi.pe.run pins s σ H (fun v H1 => ∃ (F1 : Hp) (xs : Bool × List D) (f : Nat → Bool), Gr e.toDl F H F1 H1 ∧ SeqOk X.K e.M F1 H1 v xs.1 xs.2 ∧ (∀ i d, xs.2[i]? = some d → t ρ d fun y => y = .bool (f i)) ∧ Qd f xs.2.length) I ⟨F, ρ, rp, hi.mono ρ _ _ (fun xs hxs v F1 H1 g1 sq => ?_) h⟩) fun xv s1 ⟨v, H1, I1, r1, F1, xs, f, g1, sq, hf, hq⟩ => ?_
  · obtain ⟨f, h1, h2⟩ := hxs
    exact ⟨F1, xs, f, g1, sq, h1, h2⟩
  have rp1 := rp.step g1
  obtain ⟨b, xs⟩ := xs
  obtain ⟨ps, hP, ht⟩ := TI.at_ H1 g1.ok.inv
  have hPs : s1.heap.get? P = some { cls := .none, data := .fields ps } := I1.hok P _ hP
  have hPlt : P < s1.heap.objs.size := Heap.lt_size hPs
  -- how it is walked
  have main : ∀ (o : Obj) (a : Addr) (items : Array Value) (vs : List V) (St : Nat → Heap → Prop), Vals vs items.toList → DpAll X.K F1 vs xs → a < s1.heap.objs.size → a ≠ P →
      (∀ A' : Around, A'.handled = none → Walks X.prog X.w A' s1.heap.objs.size [s1.heap.objs.size, a] [s1.heap.objs.size] items.size (fun i v => items[i]? = some v) St) → St 0 (s1.heap.push o) →
      (s1.heap.push o).NoLimit ∧ wpAny (model X.prog X.w) X.A (genexprCode X.env gpos (X.env.qual ++ "<genexpr>") scope) (fun code s₃ => wpAny (model X.prog X.w) X.A (builtinsFor X.env.globals X.env.builtins) (fun bi s₄ =>
        ∃ Ia fp wr n₀ Pf St₀ pz F, Value.ref s1.heap.objs.size = .ref Ia ∧ (∀ A' : Around, A'.handled = none → Walks X.prog X.w A' Ia fp wr n₀ Pf St₀) ∧ St₀ 0 s₄.heap ∧ (∀ b ∈ fp, b < s₄.heap.objs.size) ∧ s₄.heap.NoLimit ∧ cStatics ∉ wr ∧
          (∀ href : Heap, (∀ b o, s₄.heap.get? b = some o → href.get? b = some o) →
            QuietGen X.prog X.w (genEnv scope (cloFrom X.env.cells scope.names []) s₄.heap.objs.size code bi X.env) x [] elt (List.range s₄.heap.objs.size) wr Pf pz F href) ∧
          (∀ a h₅ tk gs, gs.bare = true → s₄.heap.objs.size < a → h₅.objs.size = a + 1 → (∀ b o, s₄.heap.get? b = some o → h₅.get? b = some o) →
            WalksS X.prog X.w X.A.in4 a (a :: s₄.heap.objs.size :: List.range s₄.heap.objs.size) (s₄.heap.objs.size :: wr) (GenOnlyQ s₄.gens.size) (passing pz n₀ 0).length
              (fun j y => ∃ i, (passing pz n₀ 0)[j]? = some i ∧ F i y) (GenAt X.prog X.w X.A.in4 a s₄.gens.size s₄.heap.objs.size (List.range s₄.heap.objs.size) wr pz n₀ F) →
            GenAt X.prog X.w X.A.in4 a s₄.gens.size s₄.heap.objs.size (List.range s₄.heap.objs.size) wr pz n₀ F 0 { s₄ with gens := s₄.gens.push gs, toks := tk, heap := h₅ } →
            Q' (.ref a) { s₄ with gens := s₄.gens.push gs, toks := tk, heap := h₅ })) X.xe s₃) X.xe { s1 with heap := s1.heap.push o } := by
    intro o a items vs St rv dvs hal haP W hst
    have hP2 : (s1.heap.push o).get? P = some { cls := .none, data := .fields ps } := Heap.get?_push_of_some _ hPs
    have cd : PySem.W.CodeHd (s1.heap.push o) c P := TB.code.keeps fun b u e => Heap.get?_push_of_some _ (I1.bk b u e)
    have lim2 : (s1.heap.push o).NoLimit := I1.nolimit.push o
    have hlen : items.size = xs.length := by
      have h1 := rv.length
      have h2 := DpAll.len dvs
      simp at h1
      omega
    have cont : ∀ (code : Value) (h3 : Heap) (tk : Nat) (ps' : Array Value), Heap.ExtBut P (s1.heap.push o) h3 → (s1.heap.push o).objs.size ≤ h3.objs.size → h3.get? P = some { cls := .none, data := .fields ps' } → (∃ more, ps' = ps ++ more) → TriplesOk ps'.toList →
        wpAny (model X.prog X.w) X.A (builtinsFor X.env.globals X.env.builtins) (fun bi s₄ =>
          ∃ Ia fp wr n₀ Pf St₀ pz F, Value.ref s1.heap.objs.size = .ref Ia ∧ (∀ A' : Around, A'.handled = none → Walks X.prog X.w A' Ia fp wr n₀ Pf St₀) ∧ St₀ 0 s₄.heap ∧ (∀ b ∈ fp, b < s₄.heap.objs.size) ∧ s₄.heap.NoLimit ∧ cStatics ∉ wr ∧
            (∀ href : Heap, (∀ b o, s₄.heap.get? b = some o → href.get? b = some o) →
              QuietGen X.prog X.w (genEnv scope (cloFrom X.env.cells scope.names []) s₄.heap.objs.size code bi X.env) x [] elt (List.range s₄.heap.objs.size) wr Pf pz F href) ∧
            (∀ a h₅ tk gs, gs.bare = true → s₄.heap.objs.size < a → h₅.objs.size = a + 1 → (∀ b o, s₄.heap.get? b = some o → h₅.get? b = some o) →
              WalksS X.prog X.w X.A.in4 a (a :: s₄.heap.objs.size :: List.range s₄.heap.objs.size) (s₄.heap.objs.size :: wr) (GenOnlyQ s₄.gens.size) (passing pz n₀ 0).length
                (fun j y => ∃ i, (passing pz n₀ 0)[j]? = some i ∧ F i y) (GenAt X.prog X.w X.A.in4 a s₄.gens.size s₄.heap.objs.size (List.range s₄.heap.objs.size) wr pz n₀ F) →
              GenAt X.prog X.w X.A.in4 a s₄.gens.size s₄.heap.objs.size (List.range s₄.heap.objs.size) wr pz n₀ F 0 { s₄ with gens := s₄.gens.push gs, toks := tk, heap := h₅ } →
              Q' (.ref a) { s₄ with gens := s₄.gens.push gs, toks := tk, heap := h₅ })) X.xe { s1 with heap := h3, toks := tk } := by
      intro code h3 tk ps' hx hsz hP3 hmore ht3
      obtain ⟨bm, ob, e1, e2, e3, e4, e5, e6, e7, e8⟩ := TB.bm
      have hcP : cStatics ≠ P := fun e => by
        obtain ⟨_, hns, _⟩ := I1.nolimit
        obtain ⟨o', es, ep, ho, hd, _⟩ := hns
        rw [e, hPs] at ho
        cases ho
        cases hd
      have hcl : cStatics < s1.heap.objs.size := let ⟨_, hns, _⟩ := I1.nolimit; hns.lt
      have sz2 : (s1.heap.push o).objs.size = s1.heap.objs.size + 1 := Heap.size_push ..
      have keep3 : ∀ b u, b ≠ P → s1.heap.get? b = some u → h3.get? b = some u := fun b u hb e => hx b u hb (Heap.get?_push_of_some _ e)
      -- the heap with the table grown
      obtain ⟨more, em⟩ := hmore
      have tabbed : GxR.Tabbed P H1 (upd H1 P (.tbl (ps ++ more))) := ⟨⟨ps ++ more, upd_same, by rw [← em]; exact ht3⟩, fun b hb => upd_ne hb⟩
      have gT : Gr e.toDl F1 H1 F1 (upd H1 P (.tbl (ps ++ more))) := ⟨Same.refl _, fun b o h z => (by rw [z] at h; cases h), fun b o h m => by
          rw [upd_ne (fun z => m (by rw [z]; exact TI.m))]
          exact h, ⟨fun b o h => by
          rw [upd_ne (fun z => by rw [z, (g1.ok.mu P TI.m).1] at h; cases h)]
          exact g1.ok.sub b o h, fun b m => ⟨(g1.ok.mu b m).1, by
          by_cases z : b = P
          · exact ⟨_, by rw [z, upd_same]⟩
          · rw [upd_ne z]
            exact (g1.ok.mu b m).2⟩, TI.put H1 _ g1.ok.inv tabbed⟩⟩
      refine wpAny_builtinsFor (m := X.mg) (by rw [I1.ok.glob]; exact ((I1.mod.glob.keeps I1.bk).push o).extBut hx TB.gP) e1 e2 (keep3 _ _ e4 (I1.bk _ _ e5)) e6 e7 e8 ?_
      refine ⟨s1.heap.objs.size, [s1.heap.objs.size, a], [s1.heap.objs.size], items.size, (fun i v => items[i]? = some v), St, (fun _ => true), (fun i y => y = .bool (f i)), rfl, W, ?_, ?_, lim2.extBut hx hcP, ?_, ?_, ?_⟩
      · refine (W X.A hr.hd).frame _ _ _ hst fun b hb u e => hx b u (fun z => ?_) e
        rcases List.mem_cons.mp hb with z2 | z2
        · exact Nat.ne_of_lt hPlt (z.symm.trans z2)
        · exact haP ((List.mem_singleton.mp z2).symm.trans z)
      · intro b hb
        rcases List.mem_cons.mp hb with z | z
        · rw [z]
          show s1.heap.objs.size < h3.objs.size
          omega
        · rw [List.mem_singleton.mp z]
          exact Nat.lt_of_lt_of_le hal (Nat.le_trans (by rw [sz2]; exact Nat.le_succ _) hsz)
      · intro z
        rcases List.mem_cons.mp z with z | z
        · exact Nat.ne_of_lt hcl z
        · cases z
      · intro href hhref
        refine ⟨fun A' E' i v s₂ m₂ hA hPv hn hm hk => ?_, fun A' E' i v s₂ m₂ hA hPv hp hn hm hk => ?_⟩
        · simp only [List.forIn_nil]
          exact wpAny_pure ⟨rfl, GxR.keeps_refl _⟩
        · obtain ⟨w, hw, rw_⟩ : ∃ w, vs[i]? = some w ∧ RelV w v := by
            have hPv : items[i]? = some v := hPv
            have hv2 : items.toList[i]? = some v := by rw [Array.getElem?_toList]; exact hPv
            have hl := rv.length
            have hi : i < vs.length := by
              have := (List.getElem?_eq_some_iff.mp hv2).1
              omega
            obtain ⟨u, h1, h2⟩ := rv.get (List.getElem?_eq_getElem hi)
            rw [hv2] at h1
            cases h1
            exact ⟨_, List.getElem?_eq_getElem hi, h2⟩
          obtain ⟨d, hd, dp⟩ := DpAll.back dvs hw
          have kall : ∀ b u, b ≠ P → s1.heap.get? b = some u → s₂.heap.get? b = some u := fun b u hb q => by
            have q3 := keep3 b u hb q
            refine hk b (List.mem_range.mpr (Heap.lt_size q3)) (fun z => ?_) u (hhref b u q3)
            rw [List.mem_singleton.mp z] at q
            exact Nat.lt_irrefl _ (Heap.lt_size q)
          have kP : s₂.heap.get? P = some { cls := .none, data := .fields ps' } := hk P (List.mem_range.mpr (Heap.lt_size hP3)) (fun z => Nat.ne_of_lt hPlt (List.mem_singleton.mp z)) _ (hhref P _ hP3)
          have okS : HOk X.prog X.w (upd H1 P (.tbl (ps ++ more))) s₂.heap := fun b u q => by
            by_cases hb : b = P
            · rw [hb] at q ⊢
              rw [upd_same] at q
              cases q
              rw [← em]
              exact kP
            · rw [upd_ne hb] at q
              have nt : ∀ (a' : Addr) (q' : HO), H1 a' = some q' → (∀ ps, q' ≠ .tbl ps) → a' ≠ P := fun a' q' h' hn z => by
                rw [z, hP] at h'
                exact hn ps (Option.some.inj h').symm
              refine (I1.hok b u q).stay (fun d' v' hd' q' => kall d' v' ?_ q') (fun d' q' => by rw [upd_ne (nt d' _ q' fun _ z => nomatch z)]; exact q') fun d' ys q' => by rw [upd_ne (nt d' _ q' fun _ z => nomatch z)]; exact q'
              rcases hd' with z | z
              · rw [z]
                exact hb
              · exact nt d' _ z fun _ z => nomatch z
          have gat : GAt X e F1 H1 scope x s1 (genEnv scope (cloFrom X.env.cells scope.names []) h3.objs.size code builtinsNs X.env) A' s₂ m₂ v := ⟨rfl, fun y c' hf' hc' => NdefX.clo_has hfree (PySem.mem_of_lookup hf') hc', rfl, hA, fun b o hn' q => kall b o (fun z => by rw [z, hP] at hn'; cases hn') q, ⟨_, gT, okS⟩, hn, hm⟩
          refine wpAny_mono (hel.run pins ρ F1 σ H1 s1 _ A' E' s₂ m₂ w v d _ I1 rp1 gat rw_ dp (hf i d hd)) (fun y s3 h => ?_) fun _ _ z => z
          obtain ⟨⟨w', d', r', dp', e'⟩, kk⟩ := h
          subst e'
          cases dp'
          cases r'
          exact ⟨rfl, kk⟩
      · intro g h5 tk5 gs hgb hag hsz5 hk5 W5 hat
        simp only [GxR.passing_true, List.length_range] at W5
        refine hQ f xs.length g _ hq ⟨_, _, _, _, _, by rw [← hlen]; exact W5.in4_1, hat, ?_, fun s' hm => ?_⟩
        · intro j y sj Qj Ej hy hQj
          obtain ⟨i, hij, hy⟩ := hy
          obtain ⟨hj, ej⟩ := List.getElem?_eq_some_iff.mp hij
          rw [List.getElem_range] at ej
          subst ej
          subst hy
          exact wpAny_truthy_bool hQj
        · have nwr : ∀ b u, s1.heap.get? b = some u → b ∉ h3.objs.size :: [s1.heap.objs.size] := fun b u e hb => by
            have hl := Heap.lt_size e
            rcases List.mem_cons.mp hb with z | z
            · rw [z] at hl
              have h9 : (h3.objs.size : Nat) < s1.heap.objs.size := hl
              omega
            · rcases List.mem_cons.mp z with z | z
              · rw [z] at hl
                exact Nat.lt_irrefl _ hl
              · cases z
          have J := GxR.inv_tab (more := more) (h' := s'.heap) (g' := s'.gens) (d' := s'.drawn) (t' := s'.toks) I1 hP (fun b u hb e => hm.heap b u (nwr b u e) (hk5 b u (keep3 b u hb e)))
            (by rw [← em]; exact hm.heap P _ (nwr P _ hPs) (hk5 P _ hP3)) (AllBare.movedS (I1.bare.push hgb) hm)
          rw [GxR.sh_eta s1 s' hm.os] at J
          exact ⟨F1, upd H1 P (.tbl (ps ++ more)), g1.trans rp.ok gT, J⟩
    refine ⟨lim2, ?_⟩
    cases hfd : codeAmong gpos ps.toList with
    | none =>
      refine wpAny_genexprCodeX hcode (cd.code hP2 ht) (cd.tab hP2) hfd fun c' h' tk hx hge hlt hco' _ htab' _ => ?_
      obtain ⟨o1, vs, f1, tf, fl, tg, inF, tx, tt, op, _, _, _, _, _, _, _, _, _, htr, _⟩ := hco'
      exact cont _ h' tk _ hx (Nat.le_trans hge (Nat.le_of_lt hlt)) htab'.2 ⟨_, rfl⟩ htr
    | some cv =>
      refine wpAny_genexprCode_hit hcode (cd.code hP2 ht) hfd ?_
      exact cont cv (s1.heap.push o) s1.toks ps (Heap.ExtBut.refl _ _) (Nat.le_refl _) hP2 ⟨#[], by simp⟩ ht
  have notP : ∀ {a : Addr} {o : Obj}, s1.heap.get? a = some o → (∀ ps, o.data ≠ .fields ps) → a ≠ P := fun {a o} h1 h2 z => by
    rw [z, hPs] at h1
    cases h1
    exact h2 ps rfl
  cases b with
  | false =>
    obtain ⟨a, vs, rfl, sl, dvs⟩ := sq.list
    cases r1
    obtain ⟨its, rv, il, hz⟩ := I1.list sl
    obtain ⟨o, ho, hc, n, hd⟩ := il.isList
    refine wpAny_pyIter_list (items := its.toArray) ⟨o, ho, hc, n, hd⟩ ?_
    have hal := Heap.lt_size ho
    exact main _ a its.toArray vs _ (by simpa using rv) dvs hal (notP ho fun ps z => by rw [hd] at z; cases z) (fun A' hA => Walks.list hA _ a (Nat.ne_of_lt hal) _) ⟨⟨_, Heap.get?_push_size _ rfl, rfl, rfl⟩, o, Heap.get?_push_of_some _ ho, hc, n, hd⟩
  | true =>
    obtain ⟨a, vs, rfl, sl, dvs⟩ := sq.tup
    cases r1
    obtain ⟨its, rv, il, hz⟩ := I1.tuple sl
    obtain ⟨o, ho, hc, n, hd⟩ := il
    refine wpAny_pyIter_tuple (items := its.toArray) ⟨o, ho, hc, n, hd⟩ ?_
    have hal := Heap.lt_size ho
    exact main _ a its.toArray vs _ (by simpa using rv) dvs hal (notP ho fun ps z => by rw [hd] at z; cases z) (fun A' hA => Walks.tuple hA _ a (Nat.ne_of_lt hal) _) ⟨⟨_, Heap.get?_push_size _ rfl, rfl, rfl⟩, o, Heap.get?_push_of_some _ ho, hc, n, hd⟩
/-- all(test for x in e), any(test for x in e) -/
def xAllG (e : Dl) (P : Addr) (tq : TX (Bool × List D)) (t : TGe) : TX D := fun ρ Q => TabIn e P ∧ tq ρ fun xs => ∃ f : Nat → Bool, (∀ i d, xs.2[i]? = some d → t ρ d fun y => y = .bool (f i)) ∧ Q (.bool ((List.range xs.2.length).all f))
def xAnyG (e : Dl) (P : Addr) (tq : TX (Bool × List D)) (t : TGe) : TX D := fun ρ Q => TabIn e P ∧ tq ρ fun xs => ∃ f : Nat → Bool, (∀ i d, xs.2[i]? = some d → t ρ d fun y => y = .bool (f i)) ∧ Q (.bool ((List.range xs.2.length).any f))
theorem pd_allG (hr : Room k X.A) (hg : Gl X "all") (hm : X.mg "all" = none) (hb : bootBuiltins "all" = some (.builtin "all")) (TB : GxR.TabB X.base X.mg c P) (hcode : X.env.code = .ref c) (S : GenD X.env.scope scope x) (hi : PQ X e iter tq) (hel : PGe X e scope x elt t) (hs : ∀ v, genFold iter X.env v = pure v)
    (he : starEach [.GeneratorExp elt [⟨.Name x px, iter, [], 0⟩] scope gpos] X.env = (false, eval (.GeneratorExp elt [⟨.Name x px, iter, [], 0⟩] scope gpos) X.env) :: starEach [] X.env := by rfl) :
    PD X e (.Call (.Name "all" p) [.GeneratorExp elt [⟨.Name x px, iter, [], 0⟩] scope gpos] [] pos) (xAllG e.toDl P tq t) := by
  refine ⟨fun ρ Q Q' kk q => ⟨q.1, hi.mono ρ _ _ (fun xs ⟨f, h1, h2⟩ => ⟨f, h1, kk _ h2⟩) q.2⟩, ⟨fun pins s σ H Q I ⟨F, ρ, rp, TI, q⟩ => ?_⟩⟩
  refine wpAny_Call_Name_kw (ld_blt I hg hm hb ?_)
  refine PyProof.Rows.callWith_builtin1 ?_ he (by rfl)
  rw [he]
  show wpAny _ _ (spliced ((false, eval (.GeneratorExp elt [⟨.Name x px, iter, [], 0⟩] scope gpos) X.env) :: backTo pos (starEach [] X.env))) _ _ s
  refine Calls.spliced_cons (gen_seq (Qd := fun f n => Fin (kD X.K e) F H Q (.bool ((List.range n).all f))) hr TB hcode S hi hel hs TI I rp q fun f n g s5 hq hG => ?_)
  obtain ⟨fp, wr, G, Fv, St, W, hst, htr, hI⟩ := hG
  refine Calls.spliced_nil ?_
  refine call_all_walkS (W.self 0 _ _ _ hst ⟨g, fp, wr, G, _, Fv, St, _, rfl, W, hst, htr, fun s' hmv => ?_⟩)
  obtain ⟨F2, H2, g2, J⟩ := hI s' hmv
  exact ⟨.bl _, H2, J, rfl, hq _ F2 H2 g2 (.bl _)⟩
theorem pd_anyG (hr : Room k X.A) (hg : Gl X "any") (hm : X.mg "any" = none) (TB : GxR.TabB X.base X.mg c P) (hcode : X.env.code = .ref c) (S : GenD X.env.scope scope x) (hi : PQ X e iter tq) (hel : PGe X e scope x elt t) (hs : ∀ v, genFold iter X.env v = pure v)
    (he : starEach [.GeneratorExp elt [⟨.Name x px, iter, [], 0⟩] scope gpos] X.env = (false, eval (.GeneratorExp elt [⟨.Name x px, iter, [], 0⟩] scope gpos) X.env) :: starEach [] X.env := by rfl) :
    PD X e (.Call (.Name "any" p) [.GeneratorExp elt [⟨.Name x px, iter, [], 0⟩] scope gpos] [] pos) (xAnyG e.toDl P tq t) := by
  refine ⟨fun ρ Q Q' kk q => ⟨q.1, hi.mono ρ _ _ (fun xs ⟨f, h1, h2⟩ => ⟨f, h1, kk _ h2⟩) q.2⟩, ⟨fun pins s σ H Q I ⟨F, ρ, rp, TI, q⟩ => ?_⟩⟩
  refine wpAny_Call_Name_kw (ld_blt I hg hm boot_any ?_)
  refine PyProof.Rows.callWith_builtin1 ?_ he (by rfl)
  rw [he]
  show wpAny _ _ (spliced ((false, eval (.GeneratorExp elt [⟨.Name x px, iter, [], 0⟩] scope gpos) X.env) :: backTo pos (starEach [] X.env))) _ _ s
  refine Calls.spliced_cons (gen_seq (Qd := fun f n => Fin (kD X.K e) F H Q (.bool ((List.range n).any f))) hr TB hcode S hi hel hs TI I rp q fun f n g s5 hq hG => ?_)
  obtain ⟨fp, wr, G, Fv, St, W, hst, htr, hI⟩ := hG
  refine Calls.spliced_nil ?_
  refine call_any_walkS (W.self 0 _ _ _ hst ⟨g, fp, wr, G, _, Fv, St, _, rfl, W, hst, htr, fun s' hmv => ?_⟩)
  obtain ⟨F2, H2, g2, J⟩ := hI s' hmv
  exact ⟨.bl _, H2, J, rfl, hq _ F2 H2 g2 (.bl _)⟩
end
end PL
set_option Elab.async false
set_option linter.all false
set_option maxRecDepth 100000
set_option maxHeartbeats 4000000
namespace PL
open PySem PySem.Spec PyProof.Rows L2
section
variable {X : Cx} {e : Ent} {a b : Expr} {es : List Expr} {pos p2 : Pos} {ta : TX D} {i j : Nat} {tl : TX (List PV)}
def ownO (i : Nat) (ρ : Ev) (Q : OC → Prop) : Prop := match ρ[i]? with | some (some (.own o)) => Q o | _ => False
theorem ownO_of {i : Nat} {ρ : Ev} {Q : OC → Prop} (q : ownO i ρ Q) : ∃ o, ρ[i]? = some (some (.own o)) ∧ Q o := by
  unfold ownO at q
  split at q
  · rename_i o h
    exact ⟨o, h, q⟩
  · exact q.elim
/-- return data, own -/
def zRetT2 (i : Nat) (ta : TX D) : TSt := fun P ρ => ta ρ fun d => ownO i ρ fun o => P.rt (.two d o)
theorem z_retT2 {k2} (ha : PD X e a ta) (hb : PE X b (tVar i)) (hs1 : starEach [a, b] X.env = (false, eval a X.env) :: starEach [b] X.env := by rfl) (hs2 : starEach [b] X.env = (false, eval b X.env) :: starEach [] X.env := by rfl) :
    PSx X e (.Return (some (.Tuple [a, b] k2 p2)) pos) (zRetT2 i ta) := ⟨impS (ps_ret (pe_tup (pa_cons ha.pe (pa_cons hb pa_nil hs2) hs1))) fun Dd σ H ⟨F, ρ, P, rp, q, lk⟩ =>
  ⟨F, ρ, rp, ha.mono ρ _ _ (fun d hd v F1 H1 g1 dv => by
    obtain ⟨o, h1, hq⟩ := ownO_of hd
    have rp1 := rp.step g1
    obtain ⟨w, h2, p, e1, e2, e3, e4, e5⟩ := rp1.slots i _ h1
    subst e1
    refine ⟨.ref p, h2, by show 2 ≤ sizeLine; decide, fun t ht => ?_⟩
    have g2 := Gr.newO (o := .tup [v, .ref p]) rp1.ok rp1.stay ht
    refine lk.rt (.two d o) (.ref t) F1 _ ⟨(rp1.step g2).gr, t, v, p, rfl, SqT.of upd_same, dv, e2.mono (Same.refl _) fun x hx => sameNew ht _ _ hx, e3, e4, e5⟩ hq) q⟩⟩
/-- x, y = f(..): data and own -/
def zCallT2 (tf : PF) (dl : Dl) (tl : TX (List PV)) (i j : Nat) : TSt := fun P ρ => tl ρ fun pvs => tf dl pvs fun pv => match pv with | .two d o => P.nx ((ρ.set i (some (.imm d))).set j (some (.own o))) | _ => False
variable {CX : CXT} {k : Nat} {f : Addr} {fd : FuncData} {ps : List Str} {tf : PF} {E : XK} {x : Str} {p : Pos}
theorem z_callT2 {y z : Str} {py pz pt : Pos} {kt} (hij : i ≠ j) (hc : X.calm = true) (gy : PG X (.Name y py) (gName i)) (gz : PG X (.Name z pz) (gName j)) (mf : MonoF tf) (G : FnOk X.prog X.w X.K X.mg X.base CX k f fd ps (Prm X.K tf)) (hr : Room k X.A) (hg : Gl X x) (hm : X.mg x = some (.ref f)) (hk : PySem.W.keepIn X.K (.ref f) = true) (hb : Binds X.K fd ps []) (hx : Passes CX X E)
    (ha : PAv X e (a :: es) tl) (hs : swapsWithSole [.Tuple [.Name y py, .Name z pz] kt pt] (.Call (.Name x p) (a :: es) [] p2) pos.line X.env = pure false := by rfl) (hw : swappedStores [.Tuple [.Name y py, .Name z pz] kt pt] (.Call (.Name x p) (a :: es) [] p2) X.env = pure none := by rfl)
    (h1 : (assignEach [.Tuple [.Name y py, .Name z pz] kt pt] X.env).map (·.2) = [assign (.Tuple [.Name y py, .Name z pz] kt pt) X.env] := by rfl)
    (hp1 : (assignEach [.Name y py, .Name z pz] X.env).map (·.2) = assign (.Name y py) X.env :: (assignEach [.Name z pz] X.env).map (·.2) := by rfl) (hp2 : (assignEach [.Name z pz] X.env).map (·.2) = assign (.Name z pz) X.env :: (assignEach [] X.env).map (·.2) := by rfl)
    (hn : (assignEach [.Name y py, .Name z pz] X.env).length = 2 := by rfl) (hst : (assignEach [.Name y py, .Name z pz] X.env).findIdx? (·.1) = none := by rfl)
    (hdb : (x == ("__debug__" : Str)) = false := by decide) (he : starEach (a :: es) X.env = (false, eval a X.env) :: starEach es X.env := by rfl) (hpl : (backTo p2 (starEach es X.env)).any (·.1) = false := by rfl) :
    PSx X e (.Assign [.Tuple [.Name y py, .Name z pz] kt pt] (.Call (.Name x p) (a :: es) [] p2) pos) (zCallT2 tf e.toDl tl i j) :=
  ⟨impS (ps_asg (pe_call G hr hg hm hk hb .nil hx ha.pa hdb he hpl) (pg_tup hc (pgs_cons gy (pgs_cons gz pgs_nil hp2) hp1) hn hst) hs hw h1) fun Dd σ H ⟨F, ρ, P, rp, q, lk⟩ => ⟨F, ρ, rp, ha.mono ρ _ _ (fun pvs h vs F1 H1 g1 av => by
    refine show Prm X.K tf (vs ++ []) H1 _ E from ?_
    rw [List.append_nil]
    have rp1 := rp.step g1
    refine ⟨F1, e.toDl, pvs, g1.ok, rp.stay, av, mf _ _ _ _ (fun pv hp v F2 H2 g2 r => ?_) h⟩
    cases pv with
    | two d o =>
      obtain ⟨t, u, c, e1, e2, e3, e4, e5, e6, e7⟩ := r
      subst e1
      refine ⟨t, [u, .ref c], rfl, e2, rfl, u, [.ref c], rfl, .ref c, [], rfl, rfl, ?_⟩
      have r1 := setN j rp1 g2 (show NOk X.K e H1 F2 H2 (.ref c) o from ⟨c, rfl, e4, e5, e6, e7⟩)
      have r2 := r1.setD (i := i) e3
      rw [List.set_comm _ _ (Ne.symm hij), List.set_comm _ _ (Ne.symm hij)] at r2
      exact lk.nx _ _ F2 H2 (g1.fz.trans g2.fz) r2 hp
    | imm d => exact (show False from hp).elim
    | own d => exact (show False from hp).elim
    | raw d => exact (show False from hp).elim
    | std a d => exact (show False from hp).elim) q⟩⟩
end
section
variable {X : Cx} {e : Ent} {α β γ : Type} {k1 : Kd e α} {k2 : Kd e β} {k3 : Kd e γ} {a b c : Expr} {pos : Pos} {i j l : Nat}
/-- x, y, z = a, b, c: the tuple is made, then taken apart -/
def zPar3 {α β γ : Type} (f : α → PV) (g : β → PV) (h : γ → PV) (i j l : Nat) (ta : TX α) (tb : TX β) (tc : TX γ) : TSt := fun P ρ => ta ρ fun d => tb ρ fun d' => tc ρ fun d'' => P.nx (((ρ.set i (some (f d))).set j (some (g d'))).set l (some (h d'')))
theorem z_par3 {x y z : Str} {px py pz pt : Pos} {kt k2' pt2} {f : α → PV} {g : β → PV} {h : γ → PV} {ta : TX α} {tb : TX β} {tc : TX γ} (kf : Kv X.K k1 f) (kg : Kv X.K k2 g) (kh : Kv X.K k3 h) (hc : X.calm = true) (hx : PG X (.Name x px) (gName i)) (hy : PG X (.Name y py) (gName j)) (hz : PG X (.Name z pz) (gName l)) (ha : PX X e k1 a ta) (hb : PX X e k2 b tb) (hcc : PX X e k3 c tc)
    (hs : swapsWithSole [.Tuple [.Name x px, .Name y py, .Name z pz] kt pt] (.Tuple [a, b, c] k2' pt2) pos.line X.env = pure false := by rfl) (hw : swappedStores [.Tuple [.Name x px, .Name y py, .Name z pz] kt pt] (.Tuple [a, b, c] k2' pt2) X.env = pure none := by rfl)
    (h1 : (assignEach [.Tuple [.Name x px, .Name y py, .Name z pz] kt pt] X.env).map (·.2) = [assign (.Tuple [.Name x px, .Name y py, .Name z pz] kt pt) X.env] := by rfl)
    (hp1 : (assignEach [.Name x px, .Name y py, .Name z pz] X.env).map (·.2) = assign (.Name x px) X.env :: (assignEach [.Name y py, .Name z pz] X.env).map (·.2) := by rfl) (hp2 : (assignEach [.Name y py, .Name z pz] X.env).map (·.2) = assign (.Name y py) X.env :: (assignEach [.Name z pz] X.env).map (·.2) := by rfl) (hp3 : (assignEach [.Name z pz] X.env).map (·.2) = assign (.Name z pz) X.env :: (assignEach [] X.env).map (·.2) := by rfl)
    (hn : (assignEach [.Name x px, .Name y py, .Name z pz] X.env).length = 3 := by rfl) (hst : (assignEach [.Name x px, .Name y py, .Name z pz] X.env).findIdx? (·.1) = none := by rfl)
    (hs1 : starEach [a, b, c] X.env = (false, eval a X.env) :: starEach [b, c] X.env := by rfl) (hs2 : starEach [b, c] X.env = (false, eval b X.env) :: starEach [c] X.env := by rfl) (hs3 : starEach [c] X.env = (false, eval c X.env) :: starEach [] X.env := by rfl) :
    PSx X e (.Assign [.Tuple [.Name x px, .Name y py, .Name z pz] kt pt] (.Tuple [a, b, c] k2' pt2) pos) (zPar3 f g h i j l ta tb tc) :=
  ⟨impS (ps_asg (pe_tup (pa_cons ha.pe (pa_cons hb.pe (pa_cons hcc.pe pa_nil hs3) hs2) hs1)) (pg_tup hc (pgs_cons hx (pgs_cons hy (pgs_cons hz pgs_nil hp3) hp2) hp1) hn hst) hs hw h1) fun Dd σ H ⟨F, ρ, P, rp, q, lk⟩ => ⟨F, ρ, rp, ha.mono ρ _ _ (fun d hd v F1 H1 g1 dv => ⟨F1, ρ, rp.step g1, hb.mono ρ _ _ (fun d' hd' w F2 H2 g2 dw => ⟨F2, ρ, (rp.step g1).step g2, hcc.mono ρ _ _ (fun d2 hd2 u F3 H3 g3 du => by
    refine ⟨by show 3 ≤ sizeLine; decide, fun p hp => ⟨p, [v, w, u], rfl, SqT.of upd_same, rfl, v, [w, u], rfl, w, [u], rfl, u, [], rfl, rfl, ?_⟩⟩
    have r1 := kf.set i rp g1 dv
    have r2 := kg.set j r1 g2 dw
    have r3 := kh.set l r2 g3 du
    have g4 := Gr.newO (o := .tup [v, w, u]) r3.ok r3.stay hp
    exact lk.nx _ _ F3 _ ((g1.fz.trans g2.fz).trans g3.fz) (r3.step g4) hd2) hd'⟩) hd⟩) q⟩⟩
theorem z_par3L {x y z : Str} {px py pz pt : Pos} {kt k2' pt2} {f : α → PV} {g : β → PV} {h : γ → PV} {ta : TX α} {tb : TX β} {tc : TX γ} (kf : Kv X.K k1 f) (kg : Kv X.K k2 g) (kh : Kv X.K k3 h) (hc : X.calm = true) (hN : X.N.Nodup) (hi : X.N[i]? = some x) (hj : X.N[j]? = some y) (hl : X.N[l]? = some z) (hij : i ≠ j) (hil : i ≠ l) (hjl : j ≠ l)
    (hx : X.env.scope.names.lookup x = some .local) (hy : X.env.scope.names.lookup y = some .local) (hz : X.env.scope.names.lookup z = some .local) (ha : PX X e k1 a ta) (hb : PX X e k2 b tb) (hcc : PX X e k3 c tc)
    (hw : swappedStores [.Tuple [.Name x px, .Name y py, .Name z pz] kt pt] (.Tuple [a, b, c] k2' pt2) X.env = pure (some [x, y, z])) (hs : swapsWithSole [.Tuple [.Name x px, .Name y py, .Name z pz] kt pt] (.Tuple [a, b, c] k2' pt2) pos.line X.env = pure false := by rfl)
    (hs1 : starEach [a, b, c] X.env = (false, eval a X.env) :: starEach [b, c] X.env := by rfl) (hs2 : starEach [b, c] X.env = (false, eval b X.env) :: starEach [c] X.env := by rfl) (hs3 : starEach [c] X.env = (false, eval c X.env) :: starEach [] X.env := by rfl) :
    PSx X e (.Assign [.Tuple [.Name x px, .Name y py, .Name z pz] kt pt] (.Tuple [a, b, c] k2' pt2) pos) (zPar3 f g h i j l ta tb tc) :=
  ⟨impS (ps_par3 hc hN hi hj hl hij hil hjl hx hy hz (pa_cons ha.pe (pa_cons hb.pe (pa_cons hcc.pe pa_nil hs3) hs2) hs1) hw hs) fun Dd σ H ⟨F, ρ, P, rp, q, lk⟩ => ⟨F, ρ, rp, ha.mono ρ _ _ (fun d hd v F1 H1 g1 dv => ⟨F1, ρ, rp.step g1, hb.mono ρ _ _ (fun d' hd' w F2 H2 g2 dw => ⟨F2, ρ, (rp.step g1).step g2, hcc.mono ρ _ _ (fun d2 hd2 u F3 H3 g3 du => by
    refine ⟨v, w, u, rfl, lk.nx _ _ F3 H3 ((g1.fz.trans g2.fz).trans g3.fz) ?_ hd2⟩
    exact kh.set l (kg.set j (kf.set i rp g1 dv) g2 dw) g3 du) hd'⟩) hd⟩) q⟩⟩
end
section
variable {P : Program} {w : World} {K : PySem.W.Frag} {mg : Str → Option Value} {base : Heap}
/-- a def whose code object is known -/
theorem okPC {x qual : Str} {st : Stmt} {f c : Addr} {fd : FuncData} {N ps : List Str} {k : Nat} {tf : PF} (F : Fun K x qual st f fd) (hcd : fd.code = .ref c) (S : FnScope N ps (defScope st)) (len : ∀ dl pvs Q, tf dl pvs Q → pvs.length = ps.length)
    (body : ∀ (A : Around) (outer : List Env) (s : Shared) (H : Hp) (E : XK) (e : Ent), Room k (A.deeper (envOfC qual (defScope st) s.heap.objs.size f (.ref c))) →
      ∃ t, PSxs (cxOf CX0 P w K mg base N qual (defScope st) f (.ref c) A outer s H E).nox e (defBody st) t ∧ ∀ pvs Q, tf e.toDl pvs Q → t { nx := fun _ => Q (.imm .none), rt := Q } (startE N.length pvs)) : FnOk P w K mg base CX0 (k + 1) f fd ps (Prm K tf) := by
  obtain ⟨oc, od, kV, doc, pm, an, cdv, ct, osl, rfl, lk, hcdi⟩ := F.ex
  have hcd : cdv = .ref c := hcd
  subst hcd
  refine fn_of lk hcdi S (fun vs H Q E ⟨F0, dl, pvs, _, _, ha, q⟩ => ha.length.trans (len _ _ _ q)) fun A outer s H vs Q E hr ⟨F0, dl, pvs, ok, stay, ha, q⟩ => ?_
  obtain ⟨t, h, hq⟩ := body A outer s H E ⟨dl, F0, H⟩ hr
  refine ⟨_, h.pss.nox, F0, startE N.length pvs, _, start_rp ok stay ha, hq _ _ q, ⟨?_, ?_, ?_, ?_⟩⟩
  · intro ρ σ F1 H1 _ rp hp
    exact hp .non F1 H1 rp.gr (Dp.non : Dp K F1 .non .none)
  · intro pv v F1 H1 ⟨g, sl⟩ hp
    refine hp v F1 H1 g ?_
    cases pv with
    | imm d => exact sl
    | raw u => exact sl
    | std b u => exact sl
    | two _ _ => exact sl
    | own o => exact sl
  · intro _ _ _ _ _ _ z
    exact z.elim
  · intro _ _ _ _ _ _ z
    exact z.elim
end
end PL
set_option Elab.async false
set_option linter.all false
set_option maxRecDepth 100000
set_option maxHeartbeats 4000000
/-! facts for readings -/
namespace PL
open PySem PySem.Spec PyProof.Rows L2
/-- a comprehension's turns by a function, behind what is there already -/
theorem compT_mapA {g : TGd} {tt : TX Bool} {te : TX D} {ρ : Ev} (f : D → D) (Q : List D → Prop) : ∀ (xs acc : List D),
    (∀ (d : D) (A : D → Prop) (B : Prop), d ∈ xs → A (f d) → g d ρ fun ρ' => tt ρ' fun k => if k = true then te ρ' A else B) → acc.length + xs.length ≤ sizeLine → Q (acc ++ xs.map f) → compT g tt te ρ xs acc Q
  | [], acc, _, _, q => by
    rw [List.map_nil, List.append_nil] at q
    exact q
  | x :: xs, acc, h, hl, q => by
    rw [List.length_cons] at hl
    refine h x _ _ (List.mem_cons_self ..) ⟨by omega, compT_mapA f Q xs (acc ++ [f x]) (fun d A B hd => h d A B (List.mem_cons_of_mem _ hd)) (by rw [List.length_append, List.length_singleton]; omega) ?_⟩
    rw [List.append_assoc]
    exact q
/-- two clauses: each outer item gives a row -/
theorem compT2_flat {g : TGd} {tt : TX Bool} {it1 : TX (List D)} {g1 : TGd} {tt1 : TX Bool} {te : TX D} {vs1 : List Nat} {ρ : Ev} (Fn : D → List D) (Q : List D → Prop) : ∀ (xs acc : List D),
    (∀ (d : D) (acc : List D) (B : List D → Prop) (B' : Prop), d ∈ xs → acc.length + (Fn d).length ≤ sizeLine → B (acc ++ Fn d) → g d ρ fun ρ' => tt ρ' fun k => if k = true then it1 ρ' fun ys => compT g1 tt1 te (wipeE ρ' vs1) ys acc B else B') →
    acc.length + (xs.flatMap Fn).length ≤ sizeLine → Q (acc ++ xs.flatMap Fn) → compT2 g tt it1 g1 tt1 te vs1 ρ xs acc Q
  | [], acc, _, _, q => by
    rw [List.flatMap_nil, List.append_nil] at q
    exact q
  | x :: xs, acc, h, hl, q => by
    rw [List.flatMap_cons, List.length_append] at hl
    refine h x acc _ _ (List.mem_cons_self ..) (by omega) (compT2_flat Fn Q xs (acc ++ Fn x) (fun d acc B B' hd => h d acc B B' (List.mem_cons_of_mem _ hd)) (by rw [List.length_append]; omega) ?_)
    rw [List.append_assoc]
    exact q
theorem range_all {α : Type} (p : α → Bool) (z : α) (l : List α) : ((List.range l.length).all fun i => p (l.getD i z)) = l.all p := by
  rw [Bool.eq_iff_iff, List.all_eq_true, List.all_eq_true]
  constructor
  · intro h x hx
    obtain ⟨i, hi, e⟩ := List.getElem_of_mem hx
    have := h i (List.mem_range.mpr hi)
    rw [List.getD_eq_getElem?_getD, List.getElem?_eq_getElem hi, Option.getD_some, e] at this
    exact this
  · intro h i hi
    have hi := List.mem_range.mp hi
    rw [List.getD_eq_getElem?_getD, List.getElem?_eq_getElem hi, Option.getD_some]
    exact h _ (List.getElem_mem hi)
theorem range_any {α : Type} (p : α → Bool) (z : α) (l : List α) : ((List.range l.length).any fun i => p (l.getD i z)) = l.any p := by
  rw [Bool.eq_iff_iff, List.any_eq_true, List.any_eq_true]
  constructor
  · intro ⟨i, hi, h⟩
    have hi := List.mem_range.mp hi
    rw [List.getD_eq_getElem?_getD, List.getElem?_eq_getElem hi, Option.getD_some] at h
    exact ⟨_, List.getElem_mem hi, h⟩
  · intro ⟨x, hx, h⟩
    obtain ⟨i, hi, e⟩ := List.getElem_of_mem hx
    refine ⟨i, List.mem_range.mpr hi, ?_⟩
    rw [List.getD_eq_getElem?_getD, List.getElem?_eq_getElem hi, Option.getD_some, e]
    exact h
theorem getD_some {α : Type} {l : List α} {i : Nat} {x z : α} (h : l[i]? = some x) : l.getD i z = x := by rw [List.getD_eq_getElem?_getD, h] <;> rfl
/-! == of lists of ints -/
theorem eqvAll_ints : ∀ l m : List Int, PyData.eqvAll (l.map .int) (m.map .int) = decide (l = m)
  | [], [] => rfl
  | [], _ :: _ => rfl
  | _ :: _, [] => rfl
  | a :: l, b :: m => by
    rw [List.map_cons, List.map_cons, PyData.eqvAll, eqvAll_ints l m, PyData.eqv]
    by_cases h : a = b
    · by_cases h2 : l = m <;> simp [h, h2]
    · simp [h]
theorem canLay_ints : ∀ l : List Int, PyData.canLayAll0 (l.map .int) = true
  | [] => rfl
  | a :: l => by
    rw [List.map_cons, PyData.canLayAll0, canLay_ints l]
    rfl
theorem depth_ints : ∀ l : List Int, PyData.depthAll (l.map .int) ≤ 1
  | [] => by decide
  | a :: l => by
    have := depth_ints l
    rw [List.map_cons, PyData.depthAll]
    have h0 : PyData.depth (.int a) ≤ 1 := by simp [PyData.depth]
    omega
theorem shaped_ints (l : List Int) : SeqAt.shaped (.list (l.map .int)) = true := by
  unfold SeqAt.shaped
  rw [show PyData.canLay0 (.list (l.map .int)) = true from canLay_ints l, Bool.true_and]
  have := depth_ints l
  simp [PyData.depth]
  omega
theorem filter_nil {α : Type} (p : α → Bool) (l : List α) : decide (l.filter p = []) = l.all fun x => !p x := by
  rw [Bool.eq_iff_iff, decide_eq_true_eq, List.filter_eq_nil_iff, List.all_eq_true]
  constructor
  · intro h x hx
    simpa using h x hx
  · intro h x hx
    simpa using h x hx
/-! readings introduced -/
section
variable {α : Type} {ρ : Ev} {P : Es} {i : Nat}
theorem xC_to {d : α} {Q : α → Prop} (q : Q d) : xC d ρ Q := q
theorem xV_to {d : D} {Q : D → Prop} (h : ρ[i]? = some (some (.imm d))) (q : Q d) : xV i ρ Q := by
  unfold xV
  rw [h]
  exact q
theorem seqIx_to {d : D} {xs : List D} (i : Nat) {x : D} {Q : D → Prop} (hd : d = .tuple xs) (h : xs[i]? = some x) (q : Q x) : seqOf d (fun y => xC (PyData.int ((i : Nat) : Int)) ρ fun z => rdIx y z Q) := by
  subst hd
  exact ixTo (atI_nat h) q
theorem app_to {ta : TX D} {xs : List D} (h0 : ρ[i]? = some (some (.own (.lst xs)))) (h : ta ρ fun d => xs.length < sizeLine ∧ P.nx (ρ.set i (some (.own (.lst (xs ++ [d])))))) : zAppG i ta P ρ := by
  unfold zAppG ownL
  rw [h0]
  exact h
theorem tup2_to {t1 t2 : TX D} {a : D} {Q : D → Prop} (h1 : ∀ Q : D → Prop, Q a → t1 ρ Q) (h2 : t2 ρ fun b => 2 ≤ sizeLine ∧ Q (.tuple [a, b])) : xTup (xCons t1 (xCons t2 (xC []))) ρ Q := h1 _ h2
theorem xif_T {s : TX Bool} {t u : TX α} {Q : α → Prop} (h : ∀ Q : Bool → Prop, Q true → s ρ Q) (q : t ρ Q) : xIf s t u ρ Q := h _ (iteT q)
theorem xif_F {s : TX Bool} {t u : TX α} {Q : α → Prop} (h : ∀ Q : Bool → Prop, Q false → s ρ Q) (q : u ρ Q) : xIf s t u ρ Q := h _ (iteF q)
theorem andV_F {s t : TX D} {Q : D → Prop} (h : ∀ Q : D → Prop, Q (.bool false) → s ρ Q) (q : Q (.bool false)) : xAndV s t ρ Q := h _ (show if false = true then t ρ Q else Q (.bool false) from iteF q)
theorem andV_T {s t : TX D} {Q : D → Prop} (h : ∀ Q : D → Prop, Q (.bool true) → s ρ Q) (q : t ρ Q) : xAndV s t ρ Q := h _ (show if true = true then t ρ Q else Q (.bool true) from iteT q)
theorem orV_T {s t : TX D} {Q : D → Prop} (h : ∀ Q : D → Prop, Q (.bool true) → s ρ Q) (q : Q (.bool true)) : xOrV s t ρ Q := h _ (show if true = true then Q (.bool true) else t ρ Q from iteT q)
theorem orV_F {s t : TX D} {Q : D → Prop} (h : ∀ Q : D → Prop, Q (.bool false) → s ρ Q) (q : t ρ Q) : xOrV s t ρ Q := h _ (show if false = true then Q (.bool false) else t ρ Q from iteF q)
theorem eqSV_to {x y : Str} {b : Bool} {Q : D → Prop} (h : ρ[i]? = some (some (.imm (.str x)))) (e : decide (x = y) = b) (q : Q (.bool b)) : xBin (rdEqP false) (xV i) (xC (.str y)) ρ Q := by
  unfold xBin
  refine xV_to h ?_
  show Q (.bool (decide (x = y)))
  rw [e]
  exact q
theorem eqS_to {x y : Str} {b : Bool} {Q : Bool → Prop} (h : ρ[i]? = some (some (.imm (.str x)))) (e : decide (x = y) = b) (q : Q b) : xB (xBin (rdEqP false) (xV i) (xC (.str y))) ρ Q := by
  unfold xB xBin
  refine xV_to h ?_
  show Q (decide (x = y))
  rw [e]
  exact q
end
/-- b.toInt as Python reckons it -/
def btoi (b : Bool) : Int := if b = true then 1 else 0
end PL
set_option Elab.async false
set_option linter.all false
set_option maxRecDepth 100000
set_option maxHeartbeats 4000000
/-! sets of texts: made of a list, told in order -/
namespace PL
open PySem PySem.Spec PyProof.Rows L2
def keyT (e : Int × Value) : Str := match e.2 with | .str k _ => k | _ => Str.empty
def GoodT (w : World) (e : Int × Value) : Prop := ∃ k tk, e.2 = Value.str k tk ∧ e.1 = hashStr w k
/-- the set of texts at a: S its members, n their number -/
def SetT (w : World) (h : Heap) (a : Addr) (S : Str → Bool) (n : Nat) : Prop :=
  ∃ o es ep t, h.get? a = some o ∧ o.ExactSet ∧ o.data = .set es ep t ∧ (∀ e ∈ es.toList, GoodT w e) ∧ (es.toList.map keyT).Nodup ∧ (∀ k, S k = true ↔ k ∈ es.toList.map keyT) ∧
    es.size < scanBound ∧ t.fits es.size = true ∧ es.size = n ∧ Ris t.place.toList ∧ (w.params.followText "set-order" = true ∨ t.led = true)
section
variable {P : Program} {w : World} {h h' : Heap} {a : Addr} {S : Str → Bool} {n : Nat}
abbrev skd (P : Program) (w : World) := PySem.strKind P w
theorem SetT.at (R : SetT w h a S n) (k : ∀ o, h.get? a = some o → h'.get? a = some o) : SetT w h' a S n := by
  obtain ⟨o, es, ep, t, ho, r⟩ := R
  exact ⟨o, es, ep, t, k o ho, r⟩
theorem SetT.congr {S' : Str → Bool} (R : SetT w h a S n) (e : ∀ k, S' k = S k) : SetT w h a S' n := by
  have q : S' = S := funext e
  rw [q]; exact R
theorem goodT_elems {l : List (Int × Value)} (g : ∀ e ∈ l, GoodT w e) : ElemsOf (skd P w) l := fun e he => by
  obtain ⟨k, tk, h1, h2⟩ := g e he
  exact ⟨⟨k, by rw [h1]; exact strKind_is P w k tk, h2⟩, by rw [h1] <;> rfl⟩
theorem goodT_is {e : Int × Value} (g : GoodT w e) (k : Str) : (skd P w).is k e.2 = true ↔ keyT e = k := by
  obtain ⟨k0, tk, h1, _⟩ := g
  unfold keyT
  rw [h1]
  dsimp only
  constructor
  · intro h
    have q : Value.isStrOf k (Value.str k0 tk) = true := h
    obtain ⟨u, hu⟩ := Value.isStrOf_shape q
    cases hu
    rfl
  · intro h
    subst h
    exact strKind_is P w k0 tk
theorem goodT_mem {l : List (Int × Value)} (g : ∀ e ∈ l, GoodT w e) (k : Str) : k ∈ l.map keyT ↔ ∃ e ∈ l, (skd P w).is k e.2 = true := by
  rw [List.mem_map]
  constructor
  · rintro ⟨e, he, q⟩
    exact ⟨e, he, (goodT_is (g e he) k).2 q⟩
  · rintro ⟨e, he, q⟩
    exact ⟨e, he, (goodT_is (g e he) k).1 q⟩
end
section
variable {P : Program} {w : World} {A : Around} {E : Value → Shared → Prop} {s : Shared} {a : Addr} {S : Str → Bool} {n : Nat}
theorem setT_add_tail {g : Bool → Sem Unit} (hg : ∀ (b : Bool) (s₁ : Shared) (Q' : Unit → Shared → Prop), Q' () s₁ → wpAny (model P w) A (g b) Q' E s₁)
    {o : Obj} {es : Array (Int × Value)} {ep : Nat} {t : SetTable} (ho : s.heap.get? a = some o) (hex : o.ExactSet) (hd : o.data = .set es ep t)
    {es1 : Array (Int × Value)} {t2 : SetTable} {S' : Str → Bool} (g1 : ∀ e ∈ es1.toList, GoodT w e) (nd1 : (es1.toList.map keyT).Nodup) (m1 : ∀ k, S' k = true ↔ k ∈ es1.toList.map keyT)
    (hb1 : es1.size < scanBound) (hf2 : t2.fits es1.size = true) (hr : Ris t2.place.toList) (hl : w.params.followText "set-order" = true ∨ t2.led = true) {wasDummy : Bool} {R : Option Bool → Shared → Prop}
    (hR : ∀ h', Heap.SameBut a s.heap h' → SetT w h' a S' es1.size → R (some true) { s with heap := h' }) :
    wpAny (model P w) A (do
        storeSet a es1 t2
        if (!wasDummy && t2.tooFull) = true then do
            g (relayAll t2 es1 (SetTable.grown es1.size)).2.2
            storeSet a (relayAll t2 es1 (SetTable.grown es1.size)).1 (relayAll t2 es1 (SetTable.grown es1.size)).2.1
            pure (some true)
          else pure (some true)) R E s := by
  refine wpAny_bind (wpAny_storeSet_of ho hd ?_ (fits_of_scanBound hb1))
  have ho1 := store_at (es' := es1) (t' := t2) ho hd
  have sb1 := Heap.SameBut.update s.heap a (Obj.putSet es1 t2)
  split
  · have pm := relayAll_perm t2 es1 (SetTable.grown es1.size)
    have hf3 := relayAll_fits t2 es1 (SetTable.grown es1.size)
    have hr3 := relayAll_ris t2 es1 (SetTable.grown es1.size)
    have hl3 := relayAll_led t2 es1 (SetTable.grown es1.size)
    generalize relayAll t2 es1 (SetTable.grown es1.size) = Z at pm hf3 hr3 hl3 ⊢
    obtain ⟨es2, t3, gave⟩ := Z
    dsimp only at pm hf3 hr3 hl3 ⊢
    have hsz : es2.size = es1.size := by rw [← Array.length_toList, pm.length_eq, Array.length_toList]
    have hb2 : es2.size < scanBound := by rw [hsz]; exact hb1
    refine wpAny_bind (hg _ _ _ ?_)
    refine wpAny_bind (wpAny_storeSet_of ho1 rfl ?_ (fits_of_scanBound hb2))
    have ho2 := store_at (es' := es2) (t' := t3) ho1 rfl
    refine wpAny_pure (hR _ (sb1.trans (Heap.SameBut.update _ a _)) ?_)
    exact ⟨_, es2, _, t3, ho2, hex, rfl, fun e he => g1 e (pm.mem_iff.mp he), (pm.map keyT).nodup_iff.mpr nd1, fun k => (m1 k).trans (pm.map keyT).mem_iff.symm, hb2, hf3, hsz, hr3,
      hl.imp id fun z => by rw [hl3]; exact z⟩
  · exact wpAny_pure (hR _ sb1 ⟨_, es1, _, t2, ho1, hex, rfl, g1, nd1, m1, hb1, hf2, rfl, hr, hl⟩)
theorem setT_add {k : Str} {tk : Tok} {Q : Bool → Shared → Prop} (R : SetT w s.heap a S n) (room : n + 1 < scanBound)
    (hQ : ∀ h', Heap.SameBut a s.heap h' → SetT w h' a (fun j => S j || decide (j = k)) (if S k = true then n else n + 1) → Q (!S k) { s with heap := h' }) :
    wpAny (model P w) A (setAddHashed a (.str k tk) ((skd P w).hash k)) Q E s := by
  obtain ⟨o, es, ep, t, ho, hex, hd, g, nd, hm, hb, hf, hn, hr, hl⟩ := R
  have hkey : (skd P w).is k (.str k tk) = true := strKind_is P w k tk
  have hsc : (Value.str k tk).scannable = true := rfl
  have hel : ElemsOf (skd P w) es.toList := goodT_elems g
  unfold setAddHashed setAddHashedIn
  refine wpAny_holding (wpAny_bind (wpAny_setState_of ho hd hf ?_))
  dsimp only
  rw [byScan_of hsc hb hel]
  simp only [↓reduceIte]
  unfold setAddByScan
  refine wpAny_bind ?_
  refine wpAny_bind (wpAny_rule ?_)
  refine wpAny_bind (wpAny_setScan_of hkey ho hd hf hel ?_)
  cases hfi : List.findIdx? (fun e => (skd P w).is k e.2) es.toList with
  | some j =>
    dsimp only
    obtain ⟨hj, pj, _⟩ := List.findIdx?_eq_some_iff_getElem.mp hfi
    have hSk : S k = true := (hm k).2 ((goodT_mem (P := P) (w := w) g k).2 ⟨es.toList[j], List.getElem_mem hj, pj⟩)
    refine wpAny_pure (wpAny_pure ?_)
    have q := hQ s.heap (Heap.SameBut.refl a s.heap) ⟨o, es, ep, t, ho, hex, hd, g, nd, fun i => by
      rw [Bool.or_eq_true, decide_eq_true_eq, ← hm i]
      exact ⟨fun z => z.elim id (fun e => e ▸ hSk), .inl⟩, hb, hf, by rw [if_pos hSk]; exact hn, hr, hl⟩
    rw [hSk] at q
    exact q
  | none =>
    dsimp only
    have hnk : k ∉ es.toList.map keyT := fun z => by
      obtain ⟨e, he, q⟩ := (goodT_mem (P := P) (w := w) g k).1 z
      have c := List.findIdx?_eq_none_iff.mp hfi e he
      rw [q] at c
      cases c
    have hSk : S k = false := by
      cases q : S k with
      | false => rfl
      | true => exact absurd ((hm k).1 q) hnk
    have hgw : ∀ (b : Bool) {s₁ : Shared} {Q' : Unit → Shared → Prop}, Q' () s₁ → wpAny (model P w) A (match b with | true => rule "set.scan.the-table-gave-way" | false => pure ()) Q' E s₁ :=
      fun b s₁ Q' q => by cases b <;> first | exact wpAny_pure q | exact wpAny_rule q
    have pm := layNew_perm t es ((skd P w).hash k) (.str k tk)
    have hf1 := layNew_fits t es ((skd P w).hash k) (.str k tk)
    have hr1 := layNew_ris t es ((skd P w).hash k) (.str k tk) hr
    have hl1 := layNew_led t es ((skd P w).hash k) (.str k tk)
    generalize layNew t es ((skd P w).hash k) (.str k tk) = Z at pm hf1 hr1 hl1 ⊢
    obtain ⟨es1, t1, wasDummy, gave⟩ := Z
    dsimp only at pm hf1 hr1 hl1 ⊢
    rw [Array.toList_push] at pm
    have pc : es1.toList.Perm (((skd P w).hash k, Value.str k tk) :: es.toList) := pm.trans (List.perm_append_singleton _ _)
    have pk : (es1.toList.map keyT).Perm (k :: es.toList.map keyT) := pc.map keyT
    have g1 : ∀ e ∈ es1.toList, GoodT w e := fun e he => by
      rcases List.mem_cons.mp (pc.mem_iff.mp he) with z | z
      · rw [z]; exact ⟨k, tk, rfl, rfl⟩
      · exact g e z
    have nd1 : (es1.toList.map keyT).Nodup := pk.nodup_iff.mpr (List.nodup_cons.mpr ⟨hnk, nd⟩)
    have m1 : ∀ i, (S i || decide (i = k)) = true ↔ i ∈ es1.toList.map keyT := fun i => by
      rw [Bool.or_eq_true, decide_eq_true_eq, hm i, pk.mem_iff, List.mem_cons]
      exact Or.comm
    have hsz : es1.size = n + 1 := by rw [← Array.length_toList, pc.length_eq, List.length_cons, Array.length_toList, hn]
    have hb1 : es1.size < scanBound := by rw [hsz]; exact room
    have hled : w.params.followText "set-order" = true ∨ t1.led = true := hl.imp id fun z => by rw [hl1]; exact z
    have fin : ∀ h', Heap.SameBut a s.heap h' → SetT w h' a (fun j => S j || decide (j = k)) es1.size → Q true { s with heap := h' } := fun h' sb r => by
      have q := hQ h' sb
      rw [hSk] at q
      rw [hsz] at r
      exact q r
    refine wpAny_bind (hgw _ ?_)
    split
    · refine wpAny_bind ?_
      rw [hashByValue_scannable 8 hsc]
      refine wpAny_pure ?_
      refine setT_add_tail ?_ ho hex hd g1 nd1 m1 hb1 ?_ ?_ ?_ ?_
      · intro b s₁ Q' q; cases b <;> first | exact wpAny_pure q | exact wpAny_rule q
      · first | (split <;> first | exact hf1 | exact SetTable.fits_plain_off hf1) | exact hf1
      · first | (split <;> exact hr1) | exact hr1
      · first | (split <;> exact hled) | exact hled
      · intro h' sb r; dsimp only; exact wpAny_pure (fin h' sb r)
    · refine wpAny_bind (wpAny_pure ?_)
      simp only [↓reduceIte]
      refine setT_add_tail ?_ ho hex hd g1 nd1 m1 hb1 hf1 hr1 hled ?_
      · intro b s₁ Q' q; cases b <;> first | exact wpAny_pure q | exact wpAny_rule q
      · intro h' sb r; dsimp only; exact wpAny_pure (fin h' sb r)
theorem setT_new {h : Heap} {ks : List Str} (ho : h.get? a = some { cls := .type "set", dict := none, data := .set #[] 0 (.fresh 0 0 (!w.params.followText "set-order")) }) : SetT w h a (fun j => decide (j ∈ ks.take 0)) 0 :=
  ⟨_, #[], 0, _, ho, ⟨rfl, rfl, rfl⟩, rfl, (fun e he => by simp at he), (by simp), (fun k => by simp), (by decide), (by rfl), rfl, List.Pairwise.nil, by
    show _ ∨ (!w.params.followText "set-order") = true
    cases w.params.followText "set-order"
    · exact .inr rfl
    · exact .inl rfl⟩
end
end PL
set_option Elab.async false
set_option linter.all false
set_option maxRecDepth 100000
set_option maxHeartbeats 4000000
namespace PL
open PySem PySem.Spec PyProof.Rows L2
section
variable {P : Program} {w : World} {A : Around} {E : Value → Shared → Prop} {s : Shared}
theorem setT_update {I : Addr} {fp wr : List Addr} {G : Array GenState → Array GenState → Prop} {n : Nat} {Pv : Nat → Value → Prop} {St : Nat → Shared → Prop} {R : Result → Shared → Prop}
    (W : WalksS P w A.in1 I fp wr G n Pv St) (S : Addr) (hSf : S ∉ fp) (ks : List Str) (hn : n = ks.length) (hb : ks.length + 1 < scanBound) (hval : ∀ i v, Pv i v → ∃ k t, ks[i]? = some k ∧ v = .str k t) :
    ∀ (k i : Nat) (s : Shared), n - i = k → i ≤ n → St i s → (∃ c, c ≤ i ∧ SetT w s.heap S (fun j => decide (j ∈ ks.take i)) c) →
      (∀ s' c, Moved (S :: wr) G s s' → c ≤ n → SetT w s'.heap S (fun j => decide (j ∈ ks)) c → R (.ok (.ret .none)) s') →
      codeAny (model P w) A (.builtin "set.update.loop" ⟨[.ref S, .ref I], []⟩) R s := by
  have hSw : S ∉ wr := fun h => hSf (W.sub _ h)
  have hsub : ∀ b ∈ wr, b ∈ S :: wr := fun b hb => List.mem_cons_of_mem _ hb
  intro k
  induction k with
  | zero =>
    intro i s hk' hi hst ⟨c, hc, hS⟩ hR
    have hin : i = n := by omega
    subst hin
    refine codeAny_builtin F.entry_set_update_loop ?_
    rw [Around.under_plainId F.plain_set_update_loop _]
    show wpAny _ A.in1 (pyNext (.ref I) >>= _) _ _ s
    refine wpAny_bind (W.done s _ _ hst fun s' hm => ?_)
    show wpAny _ A.in1 (ret Value.none) _ _ s'
    have e : ks.take i = ks := List.take_of_length_le (by omega)
    rw [e] at hS
    exact wpAny_pure (hR s' c (hm.mono hsub) hc (hS.at fun o e => hm.heap S o hSw e))
  | succ k ih =>
    intro i s hk' hi hst ⟨c, hc, hS⟩ hR
    have hlt : i < n := by omega
    refine codeAny_builtin F.entry_set_update_loop ?_
    rw [Around.under_plainId F.plain_set_update_loop _]
    show wpAny _ A.in1 (pyNext (.ref I) >>= _) _ _ s
    refine wpAny_bind (W.item i s _ _ hlt hst fun v s' hP hst' hm => ?_)
    obtain ⟨z, t, hz, rfl⟩ := hval i v hP
    have hS' : SetT w s'.heap S (fun j => decide (j ∈ ks.take i)) c := hS.at fun o e => hm.heap S o hSw e
    show wpAny _ A.in1 (holding [Value.str z t] (PySem.setAdd S (.str z t)) >>= _) _ _ s'
    refine wpAny_bind (wpAny_holding ?_)
    unfold PySem.setAdd
    refine wpAny_holding ?_
    refine wpAny_bind ((skd P w).pyHash (k := z) (strKind_is _ _ _ _) ?_)
    refine setT_add (P := P) (s := { s' with toks := s'.toks + 1 }) hS' (by omega) fun h' hsb hS2 => ?_
    have hS3 : SetT w h' S (fun j => decide (j ∈ ks.take (i + 1))) (if decide (z ∈ ks.take i) = true then c else c + 1) := hS2.congr fun j => by
      rw [List.take_add_one, hz]
      simp [List.mem_append]
    have hc3 : (if decide (z ∈ ks.take i) = true then c else c + 1) ≤ i + 1 := by
      split <;> omega
    refine wpAny_pure ⟨plainId_quiet F.plain_set_update_loop _, ih (i + 1) _ (by omega) hlt (W.frame _ s' _ _ hst' (Nat.le_succ _) fun b hb o e => ?_) ⟨_, hc3, hS3⟩ fun s'' c2 hm'' hc'' hS'' => ?_⟩
    · rw [hsb.2 b (fun h : b = S => hSf (by rw [← h]; exact hb))]; exact e
    · refine hR s'' c2 (Moved.trans W.gtrans ((hm.mono hsub).then_heap (Nat.le_succ _) fun b o hb e => ?_) hm'') hc'' hS''
      rw [hsb.2 b (fun h : b = S => hb (by rw [h]; exact List.mem_cons_self))]; exact e
theorem strs_get : ∀ {us : List Value} {xs : List Str} {i : Nat} {v : Value}, StrsAre us xs → us[i]? = some v → ∃ k t, xs[i]? = some k ∧ v = .str k t
  | _, _, _, _, .nil, h => by simp at h
  | _, _, 0, _, .cons x t r, h => by
    have e := Option.some.inj h
    subst e
    exact ⟨x, t, rfl, rfl⟩
  | _, _, i + 1, _, .cons x t r, h => by
    obtain ⟨k, t', h1, h2⟩ := strs_get (i := i) r (by simpa using h)
    exact ⟨k, t', by simpa using h1, h2⟩
set_option maxRecDepth 100000 in
set_option maxHeartbeats 3200000 in
/-- set(xs), xs a list of texts -/
theorem call_set_texts {l : Addr} {items : Array Value} (ks : List Str) {Q : Value → Shared → Prop} (hh : A.handled = none) (hl : s.heap.IsList l items) (hit : StrsAre items.toList ks) (hb : ks.length + 1 < scanBound)
    (h : ∀ (h' : Heap) (tk c : Nat), SetT w h' s.heap.objs.size (fun j => decide (j ∈ ks)) c → c ≤ ks.length → (∀ b o, s.heap.get? b = some o → h'.get? b = some o) → Q (.ref s.heap.objs.size) { s with heap := h', toks := tk }) :
    wpAny (model P w) A (call (.type "set") [.ref l]) Q E s := by
  have hisz : items.size = ks.length := by
    have q := StrsAre.len_eq hit
    rw [Array.length_toList] at q
    exact q
  obtain ⟨c, tl, hmro⟩ := F.called_set.mro
  have hmade := F.called_set.made
  have hsub := F.called_set.sub
  refine wpAny_call (codeAny_of_tree ?_)
  show wpAny _ _ (callAny (.type "set") _) _ _ _
  refine wpAny_pure ⟨Code.quiet_builtin _ (by decide +kernel), codeAny_builtin F.entry_type_call ?_⟩
  rw [Around.under_plain (weight_type_call_type "set" [.ref l] []) rfl]
  have h1 := F.called_set.notType
  have h2 := F.called_set.canCreate
  have hct := F.typeCall_set_1 (.ref l)
  repeat (any_goals (first | assumption | wp_step))
  refine codeAny_mono (code_set_led1 (.ref l) (E := E) (Q₁ := fun obj s₁ => obj = .ref s.heap.objs.size ∧ s₁ = { s with heap := s.heap.push { cls := .type "set", dict := none, data := .set #[] 0 (.fresh 0 0 (!w.params.followText "set-order")) } }) ⟨rfl, rfl⟩) fun r s₁ hr => ?_
  cases r with
  | error e => exact hr
  | ok fl =>
    cases fl with
    | ret obj =>
      obtain ⟨rfl, rfl⟩ := hr
      have hS : (s.heap.push { cls := .type "set", dict := none, data := .set #[] 0 (.fresh 0 0 (!w.params.followText "set-order")) }).get? s.heap.objs.size = some { cls := .type "set", dict := none, data := .set #[] 0 (.fresh 0 0 (!w.params.followText "set-order")) } := Heap.get?_push_size _ rfl
      have hT : Shared.TypeIs { s with heap := s.heap.push { cls := .type "set", dict := none, data := .set #[] 0 (.fresh 0 0 (!w.params.followText "set-order")) } } (.ref s.heap.objs.size) "set" := ⟨_, hS, rfl⟩
      have hli := F.called_set.init.lookup
      have hbi := F.called_set.init.bind (.ref s.heap.objs.size)
      repeat (any_goals (first | assumption | wp_step))
      refine codeAny_mono (codeAny_call_builtin (R := wants (fun r s₂ => r = .none ∧ ∃ h' tk c, s₂ = { s with heap := h', toks := tk } ∧ SetT w h' s.heap.objs.size (fun j => decide (j ∈ ks)) c ∧ c ≤ ks.length ∧
          (∀ b o, s.heap.get? b = some o → h'.get? b = some o)) E) F.called_set.init.plain F.entry_set_init (check_set_init_1 hT ?_)) fun r₂ s₂ hr₂ => ?_
      · obtain ⟨ol, hol, hcl, nl, hdl⟩ := hl
        obtain ⟨ocls, odict, odata, oslots⟩ := ol
        simp only at hcl hdl
        subst hcl; subst hdl
        have hol' : (s.heap.push { cls := .type "set", dict := none, data := .set #[] 0 (.fresh 0 0 (!w.params.followText "set-order")) }).get? l = some { cls := .type "list", dict := odict, data := .seq items nl, slots := oslots } := Heap.get?_push_of_some _ hol
        have hsls := F.sub_list_set
        have hslf := F.sub_list_frozenset
        have hne : (Value.type "list" == Value.type "dict") = false := by decide
        have hl1 : (s.heap.push { cls := .type "set", dict := none, data := .set #[] 0 (.fresh 0 0 (!w.params.followText "set-order")) }).IsList l items := ⟨_, hol', rfl, nl, rfl⟩
        unfold Builtin.«set.__init__» noKeywords Builtin.Frozenset.updateFrom
        generalize hPI : pyIter = PI
        wp_walk
        subst hPI
        refine wpAny_pyIter_list hl1 ?_
        refine wpAny_bind (wpAny_runValue ?_)
        have hlS : l < s.heap.objs.size := Heap.lt_size hol
        have hh3 : A.in1.in1.in1.handled = none := by simp [hh]
        have hneI : l ≠ (s.heap.push { cls := .type "set", dict := none, data := .set #[] 0 (.fresh 0 0 (!w.params.followText "set-order")) }).objs.size := by
          rw [Heap.size_push]; exact Nat.ne_of_lt (Nat.lt_succ_of_lt hlS)
        have hSf : s.heap.objs.size ∉ [(s.heap.push { cls := .type "set", dict := none, data := .set #[] 0 (.fresh 0 0 (!w.params.followText "set-order")) }).objs.size, l] := by
          rw [Heap.size_push]; simp only [List.mem_cons, List.mem_singleton, List.not_mem_nil, or_false, not_or]
          exact ⟨Nat.ne_of_lt (Nat.lt_succ_self _), Nat.ne_of_gt hlS⟩
        have hval : ∀ (i : Nat) (v : Value), items[i]? = some v → ∃ k t, ks[i]? = some k ∧ v = .str k t := fun i v hv => by
          exact strs_get hit (by rw [Array.getElem?_toList]; exact hv)
        refine setT_update ((Walks.list hh3 _ l hneI items).toS) s.heap.objs.size
          hSf ks hisz hb hval (items.size - 0) 0 _ (by omega) (Nat.zero_le _)
          ⟨⟨_, Heap.get?_push_size _ rfl, rfl, rfl⟩, (hl1.push _)⟩ ?hS0 ?hR
        case hS0 =>
          have hget : ((s.heap.push { cls := .type "set", dict := none, data := .set #[] 0 (.fresh 0 0 (!w.params.followText "set-order")) }).push { cls := .type "list_iterator", data := .fields #[.ref l, .int 0 0] }).get? s.heap.objs.size
              = some { cls := .type "set", dict := none, data := .set #[] 0 (.fresh 0 0 (!w.params.followText "set-order")) } := Heap.get?_push_of_some _ hS
          exact ⟨0, Nat.le_refl 0, setT_new hget⟩
        case hR =>
          intro s' c' hm hc' hS'
          obtain ⟨h', g2, d', tk', os'⟩ := s'
          have eg : g2 = s.gens := hm.gens
          have ed : d' = s.drawn := hm.drawn
          have eo : os' = s.os := hm.os
          subst eg; subst ed; subst eo
          show wpAny _ _ _ _ _ _
          refine wpAny_pure ?_
          show wpAny _ _ (ret Value.none) _ _ _
          rw [hisz] at hc'
          refine wpAny_pure ⟨rfl, h', tk', c', rfl, hS', hc', fun b o e => ?_⟩
          have hb0 : b < s.heap.objs.size := Heap.lt_size e
          have hb1 : b ≠ s.heap.objs.size := Nat.ne_of_lt hb0
          have hb2 : b ≠ (s.heap.push { cls := .type "set", dict := none, data := .set #[] 0 (.fresh 0 0 (!w.params.followText "set-order")) }).objs.size := by
            rw [Heap.size_push]; exact Nat.ne_of_lt (Nat.lt_succ_of_lt hb0)
          exact hm.heap b o (by simp only [List.mem_cons, List.mem_singleton, List.not_mem_nil, or_false, not_or]; exact ⟨hb1, hb2⟩) (Heap.get?_push_of_some _ (Heap.get?_push_of_some _ e))
      · cases r₂ with
        | error e => exact hr₂
        | ok fl₂ =>
          cases fl₂ with
          | ret r =>
            obtain ⟨rfl, h', tk, c', rfl, hS', hc', hk'⟩ := hr₂
            repeat (any_goals (first | assumption | wp_step))
            exact h _ _ _ hS' hc' hk'
          | _ => exact hr₂.elim
    | _ => exact hr.elim
theorem keyT_str {v : Value} {x : Str} {t : Tok} (h : v = .str x t) (i : Int) : keyT (i, v) = x := by rw [h] <;> rfl
theorem strs_of_perm {es : List (Int × Value)} (g : ∀ e ∈ es, GoodT w e) : ∀ {vs : List Value}, (∀ v ∈ vs, v ∈ es.map (·.2)) → ∃ ks, StrsAre vs ks ∧ ks = vs.map fun v => keyT (0, v)
  | [], _ => ⟨[], .nil, rfl⟩
  | v :: vs, h => by
    obtain ⟨e, he, ev⟩ := List.mem_map.mp (h v List.mem_cons_self)
    obtain ⟨k, tk, h1, _⟩ := g e he
    obtain ⟨ks, q1, q2⟩ := strs_of_perm g (vs := vs) fun u hu => h u (List.mem_cons_of_mem _ hu)
    have h3 : v = .str k tk := by rw [← ev]; exact h1
    refine ⟨k :: ks, by rw [h3]; exact .cons k tk q1, ?_⟩
    rw [List.map_cons, keyT_str h3, q2]
theorem sorted_setT {a : Addr} {S : Str → Bool} {n : Nat} {Q : Value → Shared → Prop} (R : SetT w s.heap a S n) (hh : A.handled = none) (h64 : n < 64)
    (hQ : ∀ s' p (out : Array Value) (c : Nat) (ns : List Str), (∀ b o, s.heap.get? b = some o → s'.heap.get? b = some o) → s'.gens = s.gens → s'.os = s.os → s.heap.objs.size ≤ p →
      s'.heap.get? p = some (seqObj "list" out c) → StrsAre out.toList ns → sortedS ns = true → ns.Nodup → (∀ k, k ∈ ns ↔ S k = true) → ns.length = n → Q (.ref p) s') :
    wpAny (model P w) A (call (.builtin "sorted") [.ref a]) Q E s := by
  obtain ⟨o, es, ep, t, ho, hex, hd, g, nd, hm, hb, hf, hn, hr, hl⟩ := R
  refine Calls.call_function_entry kind_sorted plain_sorted entry_sorted (args_sorted1 _) ?_
  unfold Builtin.«sorted»
  refine wpAny_bind (m := checkCount "sorted" 1 1 _) (wpAny_pure ?_)
  refine wpAny_bind (collect_set (A := A.in1) hh ⟨o, ho, hex.1, hd⟩ hf hb hr hl fun s1 vs k1 hz g1 o1 pm => ?_)
  have hvl : vs.length = n := by rw [pm.length_eq, List.length_map, Array.length_toList]; exact hn
  obtain ⟨ks, hS, hks⟩ := strs_of_perm g (vs := vs) fun v hv => pm.mem_iff.mp hv
  have pk : ks.Perm (es.toList.map keyT) := by
    have q := pm.map (fun v => keyT (0, v))
    rw [List.map_map] at q
    rw [hks]
    refine q.trans (List.Perm.of_eq (List.map_congr_left fun e he => ?_))
    rfl
  refine wpAny_bind (wpAny_newList ?_ (by rw [hvl, sizeLine_eq]; omega))
  have hoL : (s1.heap.push (seqObj "list" vs.toArray 0)).get? s1.heap.objs.size = some (seqObj "list" vs.toArray 0) := Heap.get?_push_size _ rfl
  refine wpAny_bind (wpAny_holding (wpAny_call_entry slot_list_sort ⟨_, hoL, rfl⟩ entry_list_sort
    (list_sort_treeK strKind_oneLt hoL hS.keysOf (fun v₁ v₂ rest e => keyKind_strs (by rw [← e]; exact hS)) (by rw [hvl]; exact h64) fun st' hp hs => ⟨_, rfl, ?_⟩) (args_list_sort _)))
  obtain ⟨ys, a1, a2, a3⟩ := sorted_out_str hS hp hs
  obtain ⟨c, hc⟩ := sortedHeap_at (vs := vs) (out := (arrOf st').map (·.2)) hoL
  have pn : ys.Perm (es.toList.map keyT) := a2.trans pk
  refine wpAny_pure ⟨_, rfl, hQ _ s1.heap.objs.size _ c ys (fun b u e => ?_) g1 o1 hz hc a1 a3 (pn.nodup_iff.mpr nd) (fun k => by rw [pn.mem_iff, ← hm k]) ?_⟩
  · have q := k1 b u e
    have hlt := Heap.lt_size q
    show (sortedHeap (s1.heap.push (seqObj "list" vs.toArray 0)) s1.heap.objs.size vs _).get? b = some u
    rw [sortedHeap_old (Nat.ne_of_lt hlt) (by rw [size_push']; exact Nat.lt_succ_of_lt hlt)]
    exact Heap.get?_push_of_some _ q
  · rw [pn.length_eq, List.length_map, Array.length_toList]; exact hn
end
/-- the set of texts at a -/
def SetTX (w : World) (a : Addr) (S : Str → Bool) (n : Nat) : HO := .ext fun h => SetT w h a S n
section
variable {X : Cx}
theorem setTX_new {w : World} {P : Program} {H : Hp} {h : Heap} {a : Addr} {S : Str → Bool} {n : Nat} (R : SetT w h a S n) : ObjOk P w H h a (SetTX w a S n) := by
  have ⟨o, _, _, _, ho, _⟩ := R
  exact ⟨R, ⟨o, ho⟩, fun h1 h2 p k => SetT.at p k⟩
def rSetOfTX (K : PySem.W.Frag) (w : World) : List V → Hp → VK → Prop := fun xs H Q => ∃ (l : Addr) (ks : List Str), xs = [V.ref l] ∧ SqL K H l (ks.map V.str) ∧ ks.length + 1 < scanBound ∧
  ∀ a c, H a = none → c ≤ ks.length → Q (.ref a) (upd H a (SetTX w a (fun j => decide (j ∈ ks)) c))
theorem cr_setOfTX (hc : X.calm = true) : CallR X (.type "set") (rSetOfTX X.K X.w) := by
  intro pins s σ H xs us Q I r h
  obtain ⟨l, ks, rfl, hl, hb, q⟩ := h
  rw [Vals.ref1 r]
  obtain ⟨its, rv, pl, hz⟩ := I.list hl
  have hn : H s.heap.objs.size = none := I.hok.fresh (Nat.le_refl _)
  refine call_set_texts (P := X.prog) (w := X.w) ks (I.ok.hd hc) pl.isList (by simpa using rv.strs) hb fun h' tk c R hc' k => ?_
  exact ⟨.ref s.heap.objs.size, upd H s.heap.objs.size (SetTX X.w s.heap.objs.size (fun j => decide (j ∈ ks)) c), I.laid (t' := tk) k (Nat.le_refl _) (setTX_new R), rfl, q _ c hn hc'⟩
def rSortedTX (w : World) : List V → Hp → VK → Prop := fun vs H Q => ∃ (a : Addr) (S : Str → Bool) (n : Nat), vs = [V.ref a] ∧ H a = some (SetTX w a S n) ∧ (∀ ns : List Str, ns.Nodup → (∀ k, k ∈ ns → S k = true) → ns.length < 64) ∧
  ∀ (ns : List Str) (p : Addr), sortedS ns = true → ns.Nodup → (∀ k, k ∈ ns ↔ S k = true) → H p = none → Q (.ref p) (upd H p (.lst (ns.map V.str)))
theorem cr_sortedTX (hc : X.calm = true) : CallR X (.builtin "sorted") (rSortedTX X.w) := by
  intro pins s σ H vs us Q I r h
  obtain ⟨a, S, n, rfl, ha, h64, q⟩ := h
  have R : SetT X.w s.heap a S n := (I.hok a _ ha).1
  rw [Vals.ref1 r]
  have hn64 : n < 64 := by
    obtain ⟨o, es, ep, t, ho, hex, hd, g, nd, hm, hb, hf, hn, _⟩ := R
    have := h64 (es.toList.map keyT) nd fun k hk => (hm k).2 hk
    rw [List.length_map, Array.length_toList, hn] at this
    exact this
  refine sorted_setT R (I.ok.hd hc) hn64 fun s' p out c ns k g o hp hg hi hs nd hm hl => ?_
  have hlen : (ns.map V.str).length ≤ sizeLine := by rw [List.length_map, hl, sizeLine_eq]; omega
  have hn : H p = none := I.hok.fresh hp
  have J : Inv X pins σ (upd H p (.lst (ns.map V.str))) { s with heap := s'.heap, gens := s'.gens, drawn := s'.drawn, toks := s'.toks } :=
    I.call (ch := []) (Un.laid k hp hn) (I.hok.laid k hp ⟨hlen, out.toList, c, vals_of_strs hi, hg⟩) (by rw [g]; exact I.bare) (fun _ z => nomatch z)
  have e : s' = { s with heap := s'.heap, gens := s'.gens, drawn := s'.drawn, toks := s'.toks } := by
    cases s'
    cases s
    cases o
    rfl
  rw [e]
  exact ⟨.ref p, _, J, rfl, q ns p hs nd hm hn⟩
end
end PL
set_option Elab.async false
set_option linter.all false
set_option maxRecDepth 100000
set_option maxHeartbeats 4000000
/-! defs that ask for no repr under way (str of a tuple) -/
namespace PL
open PySem PySem.Spec PyProof.Rows L2
/-- as FnOk, where nothing of str's own is under way -/
structure FnG (P : Program) (w : World) (K : PySem.W.Frag) (mg : Str → Option Value) (base : Heap) (k : Nat) (f : Addr) (fd : FuncData) (ps : List Str) (sp : Sp) : Prop where
  len : ∀ vs H Q E, sp vs H Q E → vs.length = ps.length
  run : ∀ (A : Around) (outer : List Env) (s : Shared) (H : Hp) (args : Args) (us : List Value) (vs : List V) (Q : VK) (E : XK), A.guards = some [] → Room k A → Env0 P w K mg base A outer s H → BindsTo s fd args (ps.zip us) → Vals vs us → sp vs H Q E →
    codeAny (model P w) A (.call (.ref f) args) (CR CX0 outer P w H s Q E) s
section
variable {P : Program} {w : World} {K : PySem.W.Frag} {mg : Str → Option Value} {base : Heap}
theorem fnG_of {k : Nat} {f : Addr} {name qual : Str} {params : Arguments} {body : List Stmt} {scope : Scope} {dV kV doc pm cdv ct oc : Value} {an od : Option Addr}
    {osl : Array (Option Value)} {N ps : List Str} {sp : Sp} (lk : K.lookup f = some ⟨oc, od, .func (PySem.W.fnOf name qual params body scope dV kV doc pm an cdv ct), osl⟩) (hcd : PySem.W.codeIn K cdv qual = true) (S : FnScope N ps scope)
    (len : ∀ vs H Q E, sp vs H Q E → vs.length = ps.length)
    (hbody : ∀ (A : Around) (outer : List Env) (s : Shared) (H : Hp) (vs : List V) (Q : VK) (E : XK), (A.deeper (envOfC qual scope s.heap.objs.size f cdv)).guards = some [] → Room k (A.deeper (envOfC qual scope s.heap.objs.size f cdv)) → sp vs H Q E →
      ∃ t, PSs (cxOf CX0 P w K mg base N qual scope f cdv A outer s H E).nox body t ∧ t { nx := fun _ H' => Q .non H', rt := Q } (L2.start N vs) H) :
    FnG P w K mg base (k + 1) f (PySem.W.fnOf name qual params body scope dV kV doc pm an cdv ct) ps sp := by
  refine ⟨len, fun A outer s H args us vs Q E hgd hr e0 hb r hsp => ?_⟩
  have hl := len _ _ _ _ hsp
  have KX : K.In s.heap := e0.mod.kin.keeps fun b o e => (e0.bs b o e).1
  have lim : s.heap.NoLimit := e0.mod.nolimit.keeps fun b o e => (e0.bs b o e).1
  have hkind : ∀ y ∈ ps.zip us, scope.names.lookup y.1 = some .local ∨ (scope.names.lookup y.1 = some .cell ∧ ((cellsFrom (s.heap.objs.size + 1) scope.names []).lookup y.1).isSome = true) := fun ⟨n, v⟩ hy => by
    rcases S.par n (List.of_mem_zip hy).1 with q | q
    · exact .inl q
    · exact .inr ⟨q, PySem.W.cellsFrom_some _ _ _ (.inl q)⟩
  refine codeAny_call_function hr.depth (KX _ _ lk) rfl S.co S.gen rfl (PySem.W.codeRec_of KX hcd) (hb _ _ _ _ ?_)
  refine wpAny_newFunctionEnv_cells S.kind hkind fun env he s1 x => ?_
  subst he
  refine ⟨lim.keeps x.toInCall.keep, codeAny_func ?_⟩
  obtain ⟨t, ht0, hq⟩ := hbody A outer s H vs Q E hgd (hr.deeper _) hsp
  have ht := ht0.nox
  have I : Inv (cxOf CX0 P w K mg base N qual scope f cdv A outer s H E) [] (L2.start N vs) H s1 := inv_start S hr.hd e0 hl r x
  refine wpAny_mono (ht.run [] s1 (L2.start N vs) H _ I hq) (fun fl s' hs => ?_) fun e s' hs => hs
  have fin : ∀ {σ' : L2.St} {H' : Hp} {v : V} {u : Value}, Inv (cxOf CX0 P w K mg base N qual scope f cdv A outer s H E) [] σ' H' s' → RelV v u → Q v H' → CE outer P w H s Q u s' :=
    fun {σ' H' v u} J rv q => ⟨v, H', J.os, J.bare, J.base, J.hok, rv, q⟩
  cases fl with
  | ret u =>
    obtain ⟨v, σ', H', J, rv, q⟩ := hs
    exact fin J rv q
  | next =>
    obtain ⟨σ', H', J, q⟩ := hs
    exact fin (v := V.non) (u := Value.none) J rfl q
  | brk =>
    obtain ⟨_, _, _, q⟩ := hs
    exact False.elim q
  | cont =>
    obtain ⟨_, _, _, q⟩ := hs
    exact False.elim q
/-- F.ok with the guard -/
theorem okG {x qual : Str} {st : Stmt} {f : Addr} {fd : FuncData} {N ps : List Str} {k : Nat} {sp : Sp} (F : Fun K x qual st f fd) (S : FnScope N ps (defScope st)) (len : ∀ vs H Q E, sp vs H Q E → vs.length = ps.length)
    (hbody : ∀ (cdv : Value) (A : Around) (outer : List Env) (s : Shared) (H : Hp) (vs : List V) (Q : VK) (E : XK), (A.deeper (envOfC qual (defScope st) s.heap.objs.size f cdv)).guards = some [] → Room k (A.deeper (envOfC qual (defScope st) s.heap.objs.size f cdv)) → sp vs H Q E →
      ∃ t, PSs (cxOf CX0 P w K mg base N qual (defScope st) f cdv A outer s H E).nox (defBody st) t ∧ t { nx := fun _ H' => Q .non H', rt := Q } (L2.start N vs) H) : FnG P w K mg base (k + 1) f fd ps sp := by
  obtain ⟨oc, od, kV, doc, pm, an, cdv, ct, osl, rfl, lk, hcd⟩ := F.ex
  exact fnG_of lk hcd S len fun A outer s H vs Q E hg hr hsp => hbody cdv A outer s H vs Q E hg hr hsp
theorem okPG {x qual : Str} {st : Stmt} {f : Addr} {fd : FuncData} {N ps : List Str} {k : Nat} {tf : PF} (F : Fun K x qual st f fd) (S : FnScope N ps (defScope st)) (len : ∀ dl pvs Q, tf dl pvs Q → pvs.length = ps.length)
    (body : ∀ (cdv : Value) (A : Around) (outer : List Env) (s : Shared) (H : Hp) (E : XK) (e : Ent), (A.deeper (envOfC qual (defScope st) s.heap.objs.size f cdv)).guards = some [] → Room k (A.deeper (envOfC qual (defScope st) s.heap.objs.size f cdv)) →
      ∃ t, PSxs (cxOf CX0 P w K mg base N qual (defScope st) f cdv A outer s H E).nox e (defBody st) t ∧ ∀ pvs Q, tf e.toDl pvs Q → t { nx := fun _ => Q (.imm .none), rt := Q } (startE N.length pvs)) : FnG P w K mg base (k + 1) f fd ps (Prm K tf) := by
  refine okG F S (fun vs H Q E ⟨F0, dl, pvs, _, _, ha, q⟩ => ha.length.trans (len _ _ _ q)) fun cdv A outer s H vs Q E hg hr ⟨F0, dl, pvs, ok, stay, ha, q⟩ => ?_
  obtain ⟨t, h, hq⟩ := body cdv A outer s H E ⟨dl, F0, H⟩ hg hr
  refine ⟨_, h.pss, F0, startE N.length pvs, _, start_rp ok stay ha, hq _ _ q, ⟨?_, ?_, ?_, ?_⟩⟩
  · intro ρ σ F1 H1 _ rp hp
    exact hp .non F1 H1 rp.gr (Dp.non : Dp K F1 .non .none)
  · intro pv v F1 H1 ⟨g, sl⟩ hp
    refine hp v F1 H1 g ?_
    cases pv with
    | imm d => exact sl
    | raw u => exact sl
    | std b u => exact sl
    | two _ _ => exact sl
    | own o => exact sl
  · intro _ _ _ _ _ _ z
    exact z.elim
  · intro _ _ _ _ _ _ z
    exact z.elim
end
section
variable {X : Cx} {k : Nat} {f : Addr} {fd : FuncData} {ps : List Str} {sp : Sp} {E : XK} {x : Str} {p pos : Pos} {e : Expr} {es : List Expr} {t : TA}
theorem pe_callG (F : FnG X.prog X.w X.K X.mg X.base k f fd ps sp) (hgd : X.A.guards = some []) (hr : Room k X.A) (hg : Gl X x) (hm : X.mg x = some (.ref f)) (hk : PySem.W.keepIn X.K (.ref f) = true) (hb : Binds X.K fd ps [])
    (ha : PA X (e :: es) t) (hdb : (x == ("__debug__" : Str)) = false := by decide) (he : starEach (e :: es) X.env = (false, eval e X.env) :: starEach es X.env := by rfl) (hpl : (backTo pos (starEach es X.env)).any (·.1) = false := by rfl) :
    PE X (.Call (.Name x p) (e :: es) [] pos) (tCall sp [] E t) := by
  refine ⟨fun pins s σ H Q I h => ?_⟩
  refine wpAny_Call_Name_kw (ld_glob I hg hm ?_ hdb)
  refine PySem.W.callWith_K (h₀ := X.base) I.ok.mod.kin hk (thn (ha.run pos pins s σ H _ I h) fun us s1 ⟨vs, H1, I1, r, q⟩ => ⟨I1.kIn, ?_⟩) he hpl
  have q : sp (vs ++ []) H1 Q E := q
  rw [List.append_nil] at q
  have hl : (us ++ []).length = ps.length := by rw [List.append_nil, ← r.length]; exact F.len _ _ _ _ q
  have hbd := hb s1 us I1.kIn hl
  rw [List.append_nil] at hbd
  refine wpAny_call (codeAny_mono (F.run X.A X.stack s1 H1 ⟨us, []⟩ us vs Q E hgd hr I1.env0 hbd r q) fun r s' hq => ?_)
  cases r with
  | error e => exact False.elim hq
  | ok fl =>
    cases fl with
    | ret u => exact I1.after hq
    | next => exact False.elim hq
    | brk => exact False.elim hq
    | cont => exact False.elim hq
variable {ee : Ent} {tl : TX (List PV)} {tf : PF}
theorem pd_callG (mf : MonoF tf) (G : FnG X.prog X.w X.K X.mg X.base k f fd ps (Prm X.K tf)) (hgd : X.A.guards = some []) (hr : Room k X.A) (hg : Gl X x) (hm : X.mg x = some (.ref f)) (hk : PySem.W.keepIn X.K (.ref f) = true) (hb : Binds X.K fd ps [])
    (ha : PAv X ee (e :: es) tl) (hdb : (x == ("__debug__" : Str)) = false := by decide) (he : starEach (e :: es) X.env = (false, eval e X.env) :: starEach es X.env := by rfl) (hpl : (backTo pos (starEach es X.env)).any (·.1) = false := by rfl) :
    PD X ee (.Call (.Name x p) (e :: es) [] pos) (xCall tf ee.toDl tl) :=
  ⟨fun ρ Q Q' k q => ha.mono ρ _ _ (fun pvs h => mf _ _ _ _ (fun pv hp => retD_mono k hp) h) q, imp (pe_callG (E := fun _ _ _ => False) G hgd hr hg hm hk hb ha.pa hdb he hpl) fun σ H Q ⟨F, ρ, rp, q⟩ => ⟨F, ρ, rp, ha.mono ρ _ _ (fun pvs h vs F1 H1 g1 av => by
    show Prm X.K tf (vs ++ []) H1 Q _
    rw [List.append_nil]
    refine ⟨F1, ee.toDl, pvs, g1.ok, rp.stay, av, mf _ _ _ _ (fun pv hp v F2 H2 g2 r => ?_) h⟩
    have g := g1.trans rp.ok g2
    unfold retD at hp
    split at hp
    · exact hp v F2 H2 g r
    · obtain ⟨p, e1, ⟨ws, e2, e3⟩, e4, e5, e6⟩ := r
      subst e1
      have hn : H p = none := by
        cases z : H p with
        | none => rfl
        | some u =>
          have := g1.st p u z e6
          rw [e5] at this
          cases this
      exact hp _ _ _ (Gr.freeze rp.ok g e2 hn e4 e6) (.lst (SqL.of upd_same) (dpAllMono (sameNew e4) _ e3))
    · exact hp.elim) q⟩⟩
end
theorem law_callG {P : Program} {w : World} {K : PySem.W.Frag} {mg mb : Str → Option Value} {k : Nat} {fa a : Addr} {fd : FuncData} {x : Str} {sp : Sp} {s₁ : Shared} {vs : List Value} {ns : List Int}
    (KX : K.In s₁.heap) (hns : s₁.heap.Ns mainGlobals mg) (hb : s₁.heap.Ns builtinsNs mb) (hbb : ∀ x : Str, x ≠ "__name__" → mb x = bootBuiltins x) (hlim : s₁.heap.NoLimit) (hg : s₁.gens = #[])
    (ha : s₁.heap.get? a = some { cls := .type "list", data := .seq vs.toArray }) (hi : IntsAre vs ns) (hl : ns.length ≤ sizeLine) (hr : Room k callerA)
    (F : ∀ base : Heap, K.In base → base.Ns mainGlobals mg → FnG P w K mg base k fa fd [x] sp) (hbind : ∀ (s : Shared) (u : Value), BindsTo s fd ⟨[u], []⟩ [(x, u)])
    (hsp : ∀ H : Hp, L2.Only H → SqL K H a (ns.map V.int) → sp [.ref a] H (fun v _ => v = .bl true) fun _ _ _ => False) :
    codeAny (model P w) callerA (.call (.ref fa) ⟨[.ref a], []⟩) (fun r s' => r = .ok (.ret (.bool true)) ∧ OldK s₁.heap s'.heap ∧ s'.os = s₁.os ∧ AllBare s'.gens) s₁ := by
  have rv := vals_ints hi
  have lenV := hi.length
  have core : ∀ H : Hp, L2.Only H → SqL K H a (ns.map V.int) → HOk P w H s₁.heap → (∀ b, H b ≠ none → b = a) → (H a ≠ none → K.lookup a = none) →
      codeAny (model P w) callerA (.call (.ref fa) ⟨[.ref a], []⟩) (fun r s' => r = .ok (.ret (.bool true)) ∧ OldK s₁.heap s'.heap ∧ s'.os = s₁.os ∧ AllBare s'.gens) s₁ := by
    intro H hO hS hok hA hK
    have base_of : ∀ {b : Addr} {o : Obj}, s₁.heap.get? b = some o → H b = none → (hidT s₁.heap H).get? b = some o := fun e n => hidT_get e n
    have noA : ∀ {b : Addr} {o : Obj} {es : Array DictEntry} {ep : Nat}, s₁.heap.get? b = some o → o.data = .dict es ep → H b = none := fun {b o es ep} e d => by
      cases q : H b with
      | none => rfl
      | some u =>
        have e' : b = a := hA b (by rw [q]; simp)
        subst e'
        rw [ha] at e; cases e
        have d' : Data.seq vs.toArray _ = Data.dict es ep := d
        cases d'
    have nsK : ∀ {b : Addr} {m : Str → Option Value}, s₁.heap.Ns b m → (hidT s₁.heap H).Ns b m := fun {b m} ⟨o, es, ep, e, d, r⟩ => ⟨o, es, ep, base_of e (noA e d), d, r⟩
    have hKb : K.In (hidT s₁.heap H) := fun b o e => base_of (KX b o e) (by
      cases q : H b with
      | none => rfl
      | some u =>
        have e' : b = a := hA b (by rw [q]; simp)
        subst e'
        rw [hK (by rw [q]; simp)] at e; cases e)
    have hM : Mod K mg (hidT s₁.heap H) := ⟨hKb, nsK hns, ⟨mb, nsK hb, hbb⟩, let ⟨mc, h1, h2⟩ := hlim; ⟨mc, nsK h1, h2⟩⟩
    have e0 : Env0 P w K mg (hidT s₁.heap H) callerA [] s₁ H := ⟨rfl, hM, fun b o e => of_hidT e, Nat.le_of_eq (hidT_size _ _), trivial, fun b hb => absurd (show b ∈ ([] : List Addr) from hb) (by simp), hok, .of_eq hg⟩
    refine codeAny_mono ((F _ hKb (nsK hns)).run callerA [] s₁ H ⟨[.ref a], []⟩ [.ref a] [.ref a] _ _ rfl hr e0 (hbind s₁ (.ref a)) (.cons rfl .nil) (hsp H hO hS)) fun r s' h => ?_
    cases r with
    | error e => exact False.elim h
    | ok fl =>
      cases fl with
      | next => exact False.elim h
      | brk => exact False.elim h
      | cont => exact False.elim h
      | ret u =>
        obtain ⟨v, H', os, bare, un, hok', r', q⟩ := h
        have q' : v = .bl true := q
        subst q'
        obtain rfl : u = Value.bool true := r'
        refine ⟨rfl, OldK.of_keep fun b o e => ?_, os, bare⟩
        cases q : H b with
        | none => exact un.keep b o e q (by intro z; exact absurd (show b ∈ ([] : List Addr) from z) (by simp)) (by simp)
        | some u =>
          rcases hO b with z | ⟨ob, xs, z⟩
          · rw [q] at z; cases z
          · have z2 := un.frzs b ob _ z
            obtain ⟨e1, _⟩ := hok b _ z
            obtain ⟨e2, _⟩ := hok' b _ z2
            rw [e] at e1; cases e1
            exact e2
  cases hk : K.lookup a with
  | some o =>
    have e := KX a o hk
    rw [ha] at e
    cases e
    refine core (fun _ => none) (fun _ => .inl rfl) (.inr ⟨_, vs.toArray, _, hk, rfl, rfl, rfl, by rw [List.size_toArray, lenV]; exact hl, by simpa using rv⟩) (fun b u z => by have z' : (none : Option HO) = some u := z; cases z') (fun b z => absurd rfl z) fun z => absurd rfl z
  | none =>
    refine core (fun b => if b = a then some (.frz { cls := .type "list", data := .seq vs.toArray } (.lst (ns.map V.int))) else none) (fun b => ?_) (.inl (.inr ⟨{ cls := .type "list", data := .seq vs.toArray }, if_pos rfl⟩)) (fun b u z => ?_) (fun b z => ?_) fun _ => hk
    · by_cases hb : b = a
      · exact .inr ⟨_, _, if_pos hb⟩
      · exact .inl (if_neg hb)
    · by_cases hb : b = a
      · have z' := (if_pos hb).symm.trans z
        cases z'
        subst hb
        exact ⟨ha, by rw [List.length_map]; exact hl, vs, _, rv, ha⟩
      · have z' := (if_neg hb).symm.trans z
        cases z'
    · by_cases hb : b = a
      · exact hb
      · exact absurd (if_neg hb) z
theorem walk_ofG {l : PySem.W.OpenLaw} {n k : Nat} {q : Program} {loose : List Str} {XP : (Str → Option Value) → Heap → Prop} {YP : World → Heap → Prop} {d : DefRec} {K : Params → PySem.W.Frag} {sp : World → Sp} {x : Str}
    (hn : l.most = some n) (hn2 : n ≤ sizeLine) (hdf : d.params.defaults = []) (hr : Room k callerA)
    (hY : ∀ (w : World) (h : Heap), YP w h → (K w.params).In h)
    (F : ∀ (w : World) (mg : Str → Option Value) (fa : Addr) (h : Heap), (K w.params).In h → h.Ns mainGlobals mg → mg d.name = some (.ref fa) →
      ∃ fd : FuncData, (∀ (s : Shared) (u : Value), BindsTo s fd ⟨[u], []⟩ [(x, u)]) ∧
        ∀ base : Heap, (K w.params).In base → base.Ns mainGlobals mg → FnG l.prog w (K w.params) mg base k fa fd [x] (sp w))
    (hsp : ∀ (w : World) (H : Hp) (a : Addr) (ns : List Int), ns.length ≤ n → (∀ z ∈ ns, Builtin.Int.intBits z ≤ 1048576) → L2.Only H → SqL (K w.params) H a (ns.map V.int) → sp w [.ref a] H (fun v _ => v = .bl true) fun _ _ _ => False) :
    PySem.W.WalkO q loose XP YP l.row.toRowW d [] (fun f vs => PySem.call f vs) := by
  refine Att.attach_callB hn hdf fun w s₀ s₁ mg mb fa o pm cd doc a vs ns G Y ho hd hcd hmg hobj hints hlen hbits hg => ?_
  have KX := hY w _ Y
  obtain ⟨fd, hb, hF⟩ := F w mg fa _ KX G.T.g hmg
  exact law_callG KX G.T.g G.T.b G.T.builtins G.T.nolimit hg hobj hints (Nat.le_trans hlen hn2) hr hF hb (fun H hO hS => hsp w H a ns hlen hbits hO hS)
end PL
set_option Elab.async false
set_option linter.all false
set_option maxRecDepth 100000
set_option maxHeartbeats 4000000
/-! more rules: sorted(set(texts)), sorted(dict), str(data), max, a dict displayed, many keys put at once, a list unpacked -/
namespace PL
open PySem PySem.Spec PyProof.Rows L2
theorem room200 {k : Nat} {A : Around} (r : Room k A) : A.units + 200 < cLine := by
  have := r.un
  omega
section
variable {X : Cx} {e : Ent} {a b c o : Expr} {es : List Expr} {pos pf apos p2 p3 : Pos} {ta tb : TX D} {tq : TX (Bool × List D)} {i : Nat}
/-! ### sorted(set(texts)) -/
def textsOf : List D → Option (List Str)
  | [] => some []
  | .str x :: r => (textsOf r).map (x :: ·)
  | _ :: _ => none
theorem textsOf_dp {K : PySem.W.Frag} {F : Hp} : ∀ {vs : List V} {ds : List D} {ks : List Str}, textsOf ds = some ks → DpAll K F vs ds → vs = ks.map V.str
  | _, [], _, h, d => by cases h; cases d; rfl
  | _, x :: r, ks, h, d => by
    cases d with
    | cons d1 d2 =>
      cases x with
      | str x =>
        unfold textsOf at h
        cases hr : textsOf r with
        | none => rw [hr] at h; cases h
        | some ys =>
          rw [hr] at h
          cases h
          cases d1
          rw [List.map_cons, textsOf_dp hr d2]
      | _ => cases h
theorem textsOf_map (ks : List Str) : textsOf (ks.map PyData.str) = some ks := by
  induction ks with
  | nil => rfl
  | cons k r ih =>
    show (textsOf (r.map PyData.str)).map (k :: ·) = _
    rw [ih] <;> rfl
theorem dp_texts {K : PySem.W.Frag} {F : Hp} : ∀ (ks : List Str), DpAll K F (ks.map V.str) (ks.map PyData.str)
  | [] => .nil
  | k :: r => .cons (.str k) (dp_texts r)
def rdSortSet : R1 (Bool × List D) OC := fun x Q => x.1 = false ∧ someOf (textsOf x.2) fun ks => ks.length + 1 < scanBound ∧ (∀ ns : List Str, ns.Nodup → (∀ k ∈ ns, k ∈ ks) → ns.length < 64) ∧
  ∀ ns : List Str, sortedS ns = true → ns.Nodup → (∀ k, k ∈ ns ↔ k ∈ ks) → Q (.lst (ns.map PyData.str))
theorem rdSortSet_mono : Mono1 rdSortSet := fun x Q Q' h q => ⟨q.1, someOf_mono (fun ks hk => ⟨hk.1, hk.2.1, fun ns a b c => h _ (hk.2.2 ns a b c)⟩) q.2⟩
theorem boot_set : bootBuiltins "set" = some (.type "set") := by decide +kernel
theorem boot_sorted : bootBuiltins "sorted" = some (.builtin "sorted") := by decide +kernel
theorem pn_sortedSet (hc : X.calm = true) (hg : Gl X "sorted") (hm : X.mg "sorted" = none) (hg2 : Gl X "set") (hm2 : X.mg "set" = none) (ha : PQ X e a tq)
    (he2 : starEach [a] X.env = (false, eval a X.env) :: starEach [] X.env := by rfl) (hpl2 : (backTo p2 (starEach [] X.env)).any (·.1) = false := by rfl)
    (he : starEach [.Call (.Name "set" p3) [a] [] p2] X.env = (false, eval (.Call (.Name "set" p3) [a] [] p2) X.env) :: starEach [] X.env := by rfl) (hpl : (backTo pos (starEach [] X.env)).any (·.1) = false := by rfl) :
    PN X e (.Call (.Name "sorted" pf) [.Call (.Name "set" p3) [a] [] p2] [] pos) (xUn rdSortSet tq) :=
  ⟨xUn_mono rdSortSet_mono ha.mono, imp (pe_callB (cr_sortedTX hc) hg hm boot_sorted (pa_cons (pe_callTy (cr_setOfTX hc) hg2 hm2 boot_set (pa_cons ha.pe pa_nil he2) (by decide) (by decide) he2 hpl2) pa_nil he) (by decide) (by decide) he hpl) fun σ H Q ⟨F, ρ, rp, q⟩ => by
    refine ⟨F, ρ, rp, ha.mono ρ _ _ (fun x hx v F1 H1 g1 dv => ?_) q⟩
    obtain ⟨b, xs⟩ := x
    obtain ⟨q1, hx⟩ := hx
    simp only at q1 hx
    subst q1
    obtain ⟨ks, hks, hlen, h64, hq⟩ := someOf_of hx
    have rp1 := rp.step g1
    obtain ⟨p, vs, e1, e2, e3⟩ := SeqOk.list dv
    subst e1
    have ev := textsOf_dp hks e3
    subst ev
    refine ⟨p, ks, rfl, e2, hlen, fun s cn hs _ => ?_⟩
    refine ⟨s, _, cn, rfl, upd_same, fun ns nd hk => h64 ns nd fun k hm => of_decide_eq_true (hk k hm), fun ns p1 hsrt nd hmem hp1 => ?_⟩
    have g2 := Gr.newO (o := SetTX X.w s (fun j => decide (j ∈ ks)) cn) rp1.ok rp1.stay hs
    have g12 := g1.trans rp.ok g2
    have rp2 := rp.step g12
    obtain ⟨g3, k3⟩ := nOk_new rp2 hp1 (dp_texts ns)
    refine hq ns hsrt nd (fun k => by rw [hmem]; exact decide_eq_true_iff) _ F1 _ (g12.trans rp.ok g3) ?_
    exact NOk.weak (e := e) g12 k3⟩
/-! ### sorted(d) of a dict of one's own, its keys texts -/
def xSortD (i : Nat) : TX OC := fun ρ Q => dicV i ρ fun kvs => ∃ ks : List Str, kvs.map (·.1) = ks.map Sum.inr ∧ ks.length < 64 ∧ ∀ ys : List Str, ys.Perm ks → sortedS ys = true → Q (.lst (ys.map PyData.str))
theorem KvAll.keys1 {K : PySem.W.Frag} {F : Hp} : ∀ {ks : List (Key × V)} {kvs : List (Key × D)}, KvAll K F ks kvs → ks.map (·.1) = kvs.map (·.1)
  | _, _, .nil => rfl
  | _, _, .cons _ t => by rw [List.map_cons, List.map_cons, KvAll.keys1 t]
theorem pn_sortedD (hc : X.calm = true) (hg : Gl X "sorted") (hm : X.mg "sorted" = none) (hd : PE X a (tVar i)) (he : starEach [a] X.env = (false, eval a X.env) :: starEach [] X.env := by rfl) (hpl : (backTo pos (starEach [] X.env)).any (·.1) = false := by rfl) :
    PN X e (.Call (.Name "sorted" pf) [a] [] pos) (xSortD i) :=
  ⟨fun ρ Q Q' k q => dicV_mono (fun kvs ⟨ks, h1, h2, h3⟩ => ⟨ks, h1, h2, fun ys a b => k _ (h3 ys a b)⟩) q, imp (pe_callB (call_sortedD hc) hg hm boot_sorted (pa_cons hd pa_nil he) (by decide) (by decide) he hpl) fun σ H Q ⟨F, ρ, rp, q⟩ => by
    obtain ⟨kvs, p, ks', ⟨ks, h4, h5, h6⟩, h1, h3, h2⟩ := dicV_of rp q
    refine ⟨.ref p, h1, p, ks', ks, rfl, h2 _ _ (Gr.refl rp.ok), by rw [h3.keys1]; exact h4, h5, fun ys p1 hy hs hp1 => ?_⟩
    obtain ⟨g, k⟩ := nOk_new rp hp1 (dp_texts ys)
    exact h6 ys hy hs _ F _ g k⟩
/-! ### str(data) -/
theorem noDict_dp {K : PySem.W.Frag} {F : Hp} : ∀ (d : D) {v : V}, Dp K F v d → d.hasDict = false
  | .none, _, _ => by simp only [PyData.hasDict]
  | .bool _, _, _ => by simp only [PyData.hasDict]
  | .int _, _, _ => by simp only [PyData.hasDict]
  | .str _, _, _ => by simp only [PyData.hasDict]
  | .list ds, _, h => by
    simp only [PyData.hasDict]
    cases h with | lst _ b => exact all ds b
  | .tuple ds, _, h => by
    simp only [PyData.hasDict]
    cases h with | tup _ b => exact all ds b
  | .dict _, _, h => by cases h
where all {K : PySem.W.Frag} {F : Hp} : ∀ (ds : List D) {vs : List V}, DpAll K F vs ds → PyData.hasDictAll ds = false
  | [], _, _ => by simp only [PyData.hasDictAll]
  | d :: ds, _, h => by
    cases h with
    | cons a b => simp only [PyData.hasDictAll, noDict_dp d a, all ds b, Bool.or_false]
def rStrD (K : PySem.W.Frag) : List V → Hp → VK → Prop := fun xs H Q => ∃ (p : Addr) (d : D), xs = [V.ref p] ∧ Dp K H (.ref p) d ∧ d.showable = true ∧ d.shown.length ≤ sizeLine ∧ d.depth ≤ 100 ∧ Q (.str d.shown) H
theorem cr_strD (hgd : X.A.guards = some []) (hu : X.A.units + 200 < cLine) : CallR X (.type "str") (rStrD X.K) := by
  intro pins s σ H xs us Q I r h
  obtain ⟨p, d, rfl, hd, h1, h2, h3, q⟩ := h
  rw [Vals.ref1 r]
  obtain ⟨as, rd⟩ := Dp.reads I d _ _ hd (show RelV (.ref p) (Value.ref p) from rfl)
  exact PySem.str_of_reads rd h1 (PyData.noDict_hsm (noDict_dp d hd)) hgd (by omega) (fun _ _ e => e) (fun h' u tk hk => ⟨.str d.shown, H, I.kept hk, ⟨u, rfl⟩, q⟩) h2
def tupD : D → Bool
  | .tuple _ => true
  | .list _ => true
  | _ => false
def rdStrD : R1 D D := fun x Q => tupD x = true ∧ x.showable = true ∧ x.shown.length ≤ sizeLine ∧ x.depth ≤ 100 ∧ Q (.str x.shown)
theorem boot_strT : bootBuiltins "str" = some (.type "str") := by decide +kernel
theorem pd_strD (hgd : X.A.guards = some []) (hu : X.A.units + 200 < cLine) (hg : Gl X "str") (hm : X.mg "str" = none) (ha : PD X e a ta) (he : starEach [a] X.env = (false, eval a X.env) :: starEach [] X.env := by rfl) (hpl : (backTo pos (starEach [] X.env)).any (·.1) = false := by rfl) : PD X e (.Call (.Name "str" pf) [a] [] pos) (xUn rdStrD ta) :=
  px_ty1 (cr_strD hgd hu) hg hm boot_strT (fun x Q Q' h q => ⟨q.1, q.2.1, q.2.2.1, q.2.2.2.1, h _ q.2.2.2.2⟩) ha (fun ρ F σ H0 H v x Q rp dv q => by
    obtain ⟨q0, q1, q2, q3, q⟩ := q
    have dH : Dp X.K H v x := dpMono rp.sub x dv
    cases x with
    | tuple ds => cases dv with | tup _ _ => exact ⟨_, _, rfl, dH, q1, q2, q3, q _ F H (.refl rp.ok) (.str _)⟩
    | list ds => cases dv with | lst _ _ => exact ⟨_, _, rfl, dH, q1, q2, q3, q _ F H (.refl rp.ok) (.str _)⟩
    | _ => cases q0) (by decide) (by decide) he hpl
/-! ### max of a list of ints -/
def intsOfD : List D → Option (List Int)
  | [] => some []
  | .int x :: r => (intsOfD r).map (x :: ·)
  | _ :: _ => none
theorem intsOfD_dp {K : PySem.W.Frag} {F : Hp} : ∀ {vs : List V} {ds : List D} {ks : List Int}, intsOfD ds = some ks → DpAll K F vs ds → vs = ks.map V.int
  | _, [], _, h, d => by cases h; cases d; rfl
  | _, x :: r, ks, h, d => by
    cases d with
    | cons d1 d2 =>
      cases x with
      | int x =>
        unfold intsOfD at h
        cases hr : intsOfD r with
        | none => rw [hr] at h; cases h
        | some ys =>
          rw [hr] at h
          cases h
          cases d1
          rw [List.map_cons, intsOfD_dp hr d2]
      | _ => cases h
theorem intsOfD_map (ks : List Int) : intsOfD (ks.map PyData.int) = some ks := by
  induction ks with
  | nil => rfl
  | cons k r ih =>
    show (intsOfD (r.map PyData.int)).map (k :: ·) = _
    rw [ih] <;> rfl
def rdMax : R1 (Bool × List D) D := fun x Q => x.1 = false ∧ someOf (intsOfD x.2) fun ns => 0 < ns.length ∧ ∀ m, m ∈ ns → (∀ y, y ∈ ns → y ≤ m) → Q (.int m)
theorem boot_max : bootBuiltins "max" = some (.builtin "max") := by decide +kernel
theorem pd_max (hc : X.calm = true) (hg : Gl X "max") (hm : X.mg "max" = none) (ha : PQ X e a tq) (he : starEach [a] X.env = (false, eval a X.env) :: starEach [] X.env := by rfl) (hpl : (backTo pos (starEach [] X.env)).any (·.1) = false := by rfl) : PD X e (.Call (.Name "max" pf) [a] [] pos) (xUn rdMax tq) :=
  px_b1 (cr_max hc) hg hm boot_max (fun x Q Q' h q => ⟨q.1, someOf_mono (fun ns hn => ⟨hn.1, fun m a b => h _ (hn.2 m a b)⟩) q.2⟩) ha (fun ρ F σ H0 H v x Q rp dv q => by
    obtain ⟨b, xs⟩ := x
    obtain ⟨q1, q⟩ := q
    simp only at q1 q
    subst q1
    obtain ⟨ns, hns, h0, hq⟩ := someOf_of q
    obtain ⟨p, vs, e1, e2, e3⟩ := SeqOk.list dv
    subst e1
    have ev := intsOfD_dp hns e3
    subst ev
    exact ⟨p, ns, rfl, e2, h0, fun m h1 h2 => hq m h1 h2 _ F H (.refl rp.ok) (.int _)⟩) (by decide) (by decide) he hpl
/-! ### a dict displayed -/
def pairsX : List (TX D × TX D) → Ev → (List (Key × D) → Prop) → Prop
  | [], _, Q => Q []
  | (tk, tv) :: r, ρ, Q => tk ρ fun y => keyOf y fun k => tv ρ fun d => pairsX r ρ fun kvs => Q ((k, d) :: kvs)
def MonoP (ts : List (TX D × TX D)) : Prop := ∀ p ∈ ts, MonoX p.1 ∧ MonoX p.2
theorem pairsX_mono : ∀ {ts : List (TX D × TX D)}, MonoP ts → ∀ ρ (Q Q' : List (Key × D) → Prop), (∀ x, Q x → Q' x) → pairsX ts ρ Q → pairsX ts ρ Q'
  | [], _, _, _, _, h, q => h _ q
  | (tk, tv) :: r, m, ρ, Q, Q', h, q => (m _ List.mem_cons_self).1 ρ _ _ (fun y hy => keyOf_mono (fun k hk => (m _ List.mem_cons_self).2 ρ _ _ (fun d hd => pairsX_mono (fun p hp => m p (List.mem_cons_of_mem _ hp)) ρ _ _ (fun kvs z => h _ z) hd) hk) hy) q
structure PPx (X : Cx) (e : Ent) (pos : Pos) (keys : List (Option Expr)) (values : List Expr) (ts : List (TX D × TX D)) : Prop where
  mono : MonoP ts
  pps : PPs X pos keys values (ts.map fun p => (lift X.K e (kD X.K e) p.1, lift X.K e (kD X.K e) p.2))
theorem pp_nil : PPx X e pos [] [] [] := ⟨fun p hp => (by cases hp), pps_nil⟩
theorem pp_cons {ks : List (Option Expr)} {vs : List Expr} {ts : List (TX D × TX D)} (hk : PD X e a ta) (hv : PD X e b tb) (hr : PPx X e pos ks vs ts) : PPx X e pos (some a :: ks) (b :: vs) ((ta, tb) :: ts) :=
  ⟨fun p hp => by
    rcases List.mem_cons.mp hp with z | z
    · rw [z]
      exact ⟨hk.mono, hv.mono⟩
    · exact hr.mono p z, pps_cons hk.pe hv.pe hr.pps⟩
theorem pairs_read {K : PySem.W.Frag} {ρ : Ev} {σ : L2.St} : ∀ {ts : List (TX D × TX D)} {F H : Hp} {Q : List (Key × D) → Prop} {R : List (V × V) → Hp → Prop}, MonoP ts → Rp K e ρ F σ H → pairsX ts ρ Q →
    (∀ kvs ks F' H', Gr e.toDl F H F' H' → KvAll K F' ks kvs → Q kvs → R (ks.map fun kv => (kV kv.1, kv.2)) H') → tPairs (ts.map fun p => (lift K e (kD K e) p.1, lift K e (kD K e) p.2)) σ H R
  | [], F, H, Q, R, _, rp, q, k => k [] [] F H (.refl rp.ok) .nil q
  | (tk, tv) :: r, F, H, Q, R, m, rp, q, k => by
    refine ⟨F, ρ, rp, (m _ List.mem_cons_self).1 ρ _ _ (fun y hy v F1 H1 g1 dv => ?_) q⟩
    obtain ⟨kk, rfl, hy⟩ := keyOf_of dv hy
    refine ⟨F1, ρ, rp.step g1, (m _ List.mem_cons_self).2 ρ _ _ (fun d hd w F2 H2 g2 dw => ?_) hy⟩
    have g12 := g1.trans rp.ok g2
    refine pairs_read (fun p hp => m p (List.mem_cons_of_mem _ hp)) (rp.step g12) hd fun kvs ks F3 H3 g3 rel hq => ?_
    exact k ((kk, d) :: kvs) ((kk, w) :: ks) F3 H3 (g12.trans rp.ok g3) (.cons (dpMono g3.fz d dw) rel) hq
def mergeD (kvs more : List (Key × D)) : List (Key × D) := more.foldl (fun acc kv => putD acc kv.1 kv.2) kvs
theorem KvAll.merge {K : PySem.W.Frag} {F : Hp} : ∀ {ms : List (Key × V)} {mds : List (Key × D)} {ks : List (Key × V)} {kvs : List (Key × D)}, KvAll K F ms mds → KvAll K F ks kvs → KvAll K F (mergeK ks ms) (mergeD kvs mds)
  | _, _, _, _, .nil, h => h
  | _, _, _, _, .cons (k := k) a t, h => by
    have q := KvAll.put k a h
    have z := KvAll.merge t q
    exact z
def xDisp (ts : List (TX D × TX D)) : TX OC := fun ρ Q => pairsX ts ρ fun kvs => Q (.dic (mergeD [] kvs))
theorem pn_disp {keys : List (Option Expr)} {values : List Expr} {ts : List (TX D × TX D)} (h : PPx X e pos keys values ts) (hall : keys.all (·.isSome) = true) (hl : keys.length = values.length) (h0 : keys ≠ []) (h15 : keys.length ≤ 15) (hts : ts.length ≤ 15 := by decide) :
    PN X e (.Dict keys values pos) (xDisp ts) := ⟨fun ρ Q Q' k q => pairsX_mono h.mono ρ _ _ (fun kvs z => k _ z) q, imp (pe_disp h.pps hall hl h0 h15) fun σ H Q ⟨F, ρ, rp, q⟩ p hp => by
    have g0 := Gr.newO (o := .dK []) rp.ok rp.stay hp
    have lens : ∀ {ts : List (TX D × TX D)} {ρ : Ev} {Q : List (Key × D) → Prop}, MonoP ts → pairsX ts ρ Q → pairsX ts ρ fun kvs => kvs.length = ts.length ∧ Q kvs := fun {ts} => by
      induction ts with
      | nil => exact fun _ h => ⟨rfl, h⟩
      | cons p r ih =>
        intro ρ Q m h
        obtain ⟨tk, tv⟩ := p
        exact (m _ List.mem_cons_self).1 ρ _ _ (fun y hy => keyOf_mono (fun k hk => (m _ List.mem_cons_self).2 ρ _ _ (fun d hd => pairsX_mono (fun p hp => m p (List.mem_cons_of_mem _ hp)) ρ _ _ (fun kvs z => ⟨by rw [List.length_cons, List.length_cons, z.1], z.2⟩) (ih (fun p hp => m p (List.mem_cons_of_mem _ hp)) hd)) hk) hy) h
    refine pairs_read h.mono (rp.step g0) (lens h.mono q) fun kvs ks F' H' g rel ⟨hlen, hq⟩ => ?_
    have hM : ¬ e.M p := rp.ok.fM hp
    have hP : H' p = some (.dK []) := g.st p _ upd_same hM
    have hF' : F' p = none := by
      cases z : F' p with
      | none => rfl
      | some u =>
        have := g.new p u z (rp.sub.free hp)
        rw [upd_same] at this
        cases this
    have g1 := g0.trans rp.ok g
    refine ⟨hP, ks, rfl, by rw [rel.length, hlen]; exact hts, hq _ F' _ ?_ ⟨p, rfl, ⟨_, upd_same, KvAll.merge rel .nil⟩, hF', hp, hM⟩⟩
    exact ⟨g1.fz, g1.new, fun b o hb m => by
      rw [upd_ne (ne_of_none hb hp)]
      exact g1.st b o hb m, ⟨fun b o hb => by
        by_cases z : b = p
        · rw [z, hF'] at hb
          cases hb
        · rw [upd_ne z]
          exact g1.ok.sub b o hb, fun b m => ⟨(g1.ok.mu b m).1, by
        rw [upd_ne (fun z => hM (by rw [← z]; exact m))]
        exact (g1.ok.mu b m).2⟩, rp.stay _ _ g1.ok.inv fun b m => by rw [upd_ne (fun z => hM (by rw [← z]; exact m))]⟩⟩⟩
/-! ### a list unpacked -/
def yLst (n : Nat) (u : List D → Ev → (Ev → Prop) → Prop) : D → Ev → (Ev → Prop) → Prop := fun d ρ Q => match d with | .list ds => ds.length = n ∧ u ds ρ Q | _ => False
theorem y_lst {is : List Nat} {k n : Nat} {u : List D → Ev → (Ev → Prop) → Prop} (hc : X.calm = true) (h : PGxs X e is es u) (hn : (assignEach es X.env).length = n := by rfl) (hst : (assignEach es X.env).findIdx? (·.1) = none := by rfl) : PGx X e is (.Tuple es k pos) (yLst n u) :=
  ⟨fun d ρ Q Q' k q => by
    unfold yLst at q ⊢
    split at q
    · exact ⟨q.1, h.mono _ ρ Q Q' k q.2⟩
    · exact q.elim, ⟨fun pins s σ H v w Q I r ⟨F, ρ, d, rp, dv, q⟩ => (pg_lst hc h.pgs hn hst).run pins s σ H v w Q I r (by
    unfold yLst at q
    split at q
    · cases dv with
      | lst h1 h2 => exact ⟨_, _, rfl, SqLmono rp.sub h1, by rw [DpAll.len h2]; exact q.1, F, ρ, _, rp, h2, q.2⟩
    · exact q.elim)⟩⟩
/-! ### d[k1], .., d[kn] = t, d one's own -/
def putAll (kvs : List (Key × D)) : List Str → List D → List (Key × D)
  | k :: ks, d :: ds => putAll (putD kvs (.inr k) d) ks ds
  | _, _ => kvs
def liftGd (K : PySem.W.Frag) (e : Ent) (i : Nat) (ks : List Str) : TGs := fun vs σ H Q => ∃ F ρ ds kvs, Rp K e ρ F σ H ∧ DpAll K F vs ds ∧ ρ[i]? = some (some (.own (.dic kvs))) ∧ ds.length = ks.length ∧ kvs.length + ks.length ≤ sizeLine ∧ ∀ H', Rp K e (ρ.set i (some (.own (.dic (putAll kvs ks ds))))) F σ H' → Q σ H'
structure PGd (X : Cx) (e : Ent) (i : Nat) (ks : List Str) (es : List Expr) : Prop where
  pgs : PGs X es (liftGd X.K e i ks)
theorem setSame {α : Type} {l : List α} {i : Nat} {x : α} (h : l[i]? = some x) : l.set i x = l := by
  apply List.ext_getElem?
  intro j
  by_cases hj : i = j
  · subst hj
    have hi : i < l.length := (List.getElem?_eq_some_iff.mp h).1
    rw [List.getElem?_set_self hi, h]
  · rw [List.getElem?_set_ne hj]
theorem gd_nil : PGd X e i [] [] := ⟨⟨fun pins s σ H vs us Q I r ⟨F, ρ, ds, kvs, rp, dv, hi, hl, hz, q⟩ => pgs_nil.run pins s σ H vs us Q I r (by
    cases ds with
    | cons _ _ => cases hl
    | nil =>
      cases dv
      exact ⟨rfl, q H (by rw [show putAll kvs [] [] = kvs from rfl, setSame hi]; exact rp)⟩)⟩⟩
theorem putD_len (kvs : List (Key × D)) (k : Key) (d : D) : (putD kvs k d).length ≤ kvs.length + 1 := by
  unfold putD
  split
  · rw [List.length_map]; omega
  · rw [List.length_append]; exact Nat.le_refl _
theorem gd_cons {k : Str} {ks : List Str} {jj : Nat} {pk pt : Pos} (hu : X.A.units + 64 < cLine) (ho : PE X o (tVar i)) (h2 : PGd X e i ks es)
    (hs : (assignEach (.Subscript o (.Constant (.str k) jj pk) pt :: es) X.env).map (·.2) = assign (.Subscript o (.Constant (.str k) jj pk) pt) X.env :: (assignEach es X.env).map (·.2) := by rfl)
    (hk : PE X (.Constant (.str k) jj pk) (tC (.str k)) := by exact pe_str)
    (ha : ∀ v, assign (.Subscript o (.Constant (.str k) jj pk) pt) X.env v = (do
      let ov ← holding [v] (eval o X.env)
      let iv ← holding [v, ov] (eval (.Constant (.str k) jj pk) X.env)
      standAt pt
      holding [v, ov, iv] (setItem ov iv v)
      release [v, ov, iv] []) := by intro _; rfl) : PGd X e i (k :: ks) (.Subscript o (.Constant (.str k) jj pk) pt :: es) :=
  ⟨⟨fun pins s σ H vs us Q I rr ⟨F, ρ, ds, kvs, rp, dv, hi, hl, hz, q⟩ => (pgs_cons (pg_sub ho hk (set_dict (by omega)) ha) h2.pgs hs).run pins s σ H vs us Q I rr (by
    cases ds with
    | nil => cases hl
    | cons d r =>
      cases dv with
      | cons d1 d2 =>
        obtain ⟨w, h1, p, e1, ⟨ks', e2, e3⟩, e4, e5, e6⟩ := rp.slots i _ hi
        subst e1
        refine ⟨_, _, rfl, .ref p, h1, p, _, rfl, .inl ⟨ks', .inr k, e2, rfl, by rw [e3.length]; simp only [List.length_cons] at hz; omega, rfl⟩, ?_⟩
        have rp' := rp.write (o' := .dic (putD kvs (.inr k) d)) hi h1 ⟨_, upd_same, KvAll.put (.inr k) d1 e3⟩
        have hlt : i < ρ.length := (List.getElem?_eq_some_iff.mp hi).1
        refine ⟨F, _, r, _, rp', d2, List.getElem?_set_self hlt, by simpa using hl, ?_, fun H' rp2 => q H' (by rw [List.set_set] at rp2; exact rp2)⟩
        have := putD_len kvs (.inr k) d
        simp only [List.length_cons] at hz
        omega)⟩⟩
def zPuts (i : Nat) (ks : List Str) (ta : TX D) : TSt := fun P ρ => ta ρ fun d => match d with | .tuple ds => ds.length = ks.length ∧ ownDic i ρ fun kvs => kvs.length + ks.length ≤ sizeLine ∧ P.nx (ρ.set i (some (.own (.dic (putAll kvs ks ds))))) | _ => False
theorem z_puts {ks : List Str} {kk : Nat} (hc : X.calm = true) (h : PD X e a ta) (hg : PGd X e i ks es) (hn : (assignEach es X.env).length = ks.length := by rfl) (hst : (assignEach es X.env).findIdx? (·.1) = none := by rfl)
    (hs : swapsWithSole [.Tuple es kk p2] a pos.line X.env = pure false := by rfl) (hw : swappedStores [.Tuple es kk p2] a X.env = pure none := by rfl)
    (h1 : (assignEach [.Tuple es kk p2] X.env).map (·.2) = [assign (.Tuple es kk p2) X.env] := by rfl) : PSx X e (.Assign [.Tuple es kk p2] a pos) (zPuts i ks ta) := ⟨impS (ps_asg h.pe (pg_tup hc hg.pgs hn hst) hs hw h1) fun Dd σ H ⟨F, ρ, P, rp, q, lk⟩ =>
  ⟨F, ρ, rp, h.mono ρ _ _ (fun d hd v F' H' g' dv => by
    cases d with
    | tuple ds =>
      obtain ⟨hl, hd⟩ := hd
      obtain ⟨kvs, hi, hz, hq⟩ := ownDic_of hd
      cases dv with
      | tup d1 d2 =>
        have rp' := rp.step g'
        exact ⟨_, _, rfl, SqTmono rp'.sub d1, by rw [DpAll.len d2]; exact hl, F', ρ, ds, kvs, rp', d2, hi, hl, hz, fun H2 rp2 => lk.nx _ σ F' H2 g'.fz rp2 hq⟩
    | _ => exact hd.elim) q⟩⟩
end
end PL
set_option Elab.async false
set_option linter.all false
set_option maxRecDepth 100000
set_option maxHeartbeats 4000000
/-! the start of a law of the second family: its drawing state at p, tables of code objects at Ps -/
namespace PL
open PySem PySem.Spec PyProof.Rows L2
def stJ (p : Addr) (Ps : List Addr) (H : Hp) : Prop := (∃ k v : Int, 0 ≤ k ∧ 0 ≤ v ∧ H p = some (.lst [.int k, .int v])) ∧ ∀ q ∈ Ps, GxR.TabG H q
noncomputable def stF (p : Addr) (Ps : List Addr) (H : Hp) : Hp := fun b => open Classical in if b = p ∨ b ∈ Ps then none else H b
noncomputable def entOf (p : Addr) (Ps : List Addr) (H : Hp) : Ent := ⟨⟨fun b => b = p ∨ b ∈ Ps, stJ p Ps⟩, stF p Ps H, upd H p (.lst [.int 0, .int 0])⟩
section
variable {K : PySem.W.Frag} {H : Hp} {p a : Addr} {Ps : List Addr} {ns : List Int}
theorem stF_some {b : Addr} {o : HO} (h : stF p Ps H b = some o) : ¬ (b = p ∨ b ∈ Ps) ∧ H b = some o := by
  unfold stF at h
  by_cases z : b = p ∨ b ∈ Ps
  · rw [if_pos z] at h
    cases h
  · rw [if_neg z] at h
    exact ⟨z, h⟩
theorem stF_at {b : Addr} (z : ¬ (b = p ∨ b ∈ Ps)) : stF p Ps H b = H b := by
  unfold stF
  rw [if_neg z]
theorem start_law (hp : H p = none) (hT : ∀ q ∈ Ps, H q = some (.tbl #[])) (hs : SqL K H a (ns.map V.int)) (n : Nat) :
    Rp K (entOf p Ps H) (some (.imm (.list (ns.map .int))) :: some (.raw (.ref p)) :: List.replicate n none) (stF p Ps H) (some (.ref a) :: some (.ref p) :: List.replicate n none) (upd H p (.lst [.int 0, .int 0])) := by
  have noT : ∀ {b : Addr} {o : HO}, H b = some o → (∀ ps, o ≠ .tbl ps) → ¬ (b = p ∨ b ∈ Ps) := fun {b o} h1 h2 z => by
    rcases z with z | z
    · rw [z, hp] at h1
      cases h1
    · rw [hT b z] at h1
      exact h2 _ (Option.some.inj h1).symm
  have ok : (entOf p Ps H).toDl.Ok (stF p Ps H) (upd H p (.lst [.int 0, .int 0])) := ⟨fun b o h => by
      obtain ⟨h1, h2⟩ := stF_some h
      rw [upd_ne (fun z => h1 (.inl z))]
      exact h2, fun b m => ⟨by
      unfold stF
      rw [if_pos (show b = p ∨ b ∈ Ps from m)], by
      by_cases z : b = p
      · exact ⟨_, by rw [z, upd_same]⟩
      · rcases m with m | m
        · exact absurd m z
        · exact ⟨_, by rw [upd_ne z]; exact hT b m⟩⟩, ⟨⟨0, 0, by decide, by decide, upd_same⟩, fun q hq => ⟨#[], by
      rw [upd_ne (fun z => by rw [z] at hq; have := hT p hq; rw [hp] at this; cases this)]
      exact hT q hq, trivial⟩⟩⟩
  have hs' : SqL K (stF p Ps H) a (ns.map V.int) := by
    rcases hs with (h | ⟨o, h⟩) | h
    · exact .inl (.inl (by rw [stF_at (noT h fun _ z => nomatch z)]; exact h))
    · exact .inl (.inr ⟨o, by rw [stF_at (noT h fun _ z => nomatch z)]; exact h⟩)
    · exact .inr h
  have allI : ∀ l : List Int, DpAll K (stF p Ps H) (l.map V.int) (l.map .int) := fun l => by
    induction l with
    | nil => exact .nil
    | cons x l ih => exact .cons (.int x) ih
  have nn : ∀ (i : Nat) (x : PV), (List.replicate n (none : Option PV))[i]? ≠ some (some x) := fun i x h => by
    rw [List.getElem?_replicate] at h
    split at h <;> cases h
  refine ⟨by simp, ok, .refl ok, fun H1 H2 j h => ⟨?_, fun q hq => ?_⟩, fun i x h => ?_, fun i j x y b hij hx => ?_⟩
  · obtain ⟨⟨k, v, h1, h2, h3⟩, _⟩ := j
    exact ⟨k, v, h1, h2, by rw [h p (.inl rfl)]; exact h3⟩
  · obtain ⟨ps, h1, h2⟩ := j.2 q hq
    exact ⟨ps, by rw [h q (.inr hq)]; exact h1, h2⟩
  · match i with
    | 0 =>
      cases h
      exact ⟨_, rfl, Dp.lst hs' (allI ns)⟩
    | 1 =>
      cases h
      exact ⟨_, rfl, rfl⟩
    | i + 2 => exact absurd h (nn i x)
  · match i with
    | 0 => cases hx
    | 1 => cases hx
    | i + 2 => exact absurd hx (nn i _)
theorem start_st (hT : p ∉ Ps) : StIn (entOf p Ps H).toDl p where
  m := .inl rfl
  at_ := fun H' j => j.1
  put := fun H' k v j k0 v0 => ⟨⟨k, v, k0, v0, upd_same⟩, fun q hq => by
    obtain ⟨ps, h1, h2⟩ := j.2 q hq
    exact ⟨ps, by rw [upd_ne (fun z => hT (by rw [← z]; exact hq))]; exact h1, h2⟩⟩
theorem start_tab {q : Addr} (hT : p ∉ Ps) (hq : q ∈ Ps) : TabIn (entOf p Ps H).toDl q where
  m := .inr hq
  at_ := fun H' j => j.2 q hq
  put := fun H1 H2 j t => ⟨by
    obtain ⟨k, v, h1, h2, h3⟩ := j.1
    exact ⟨k, v, h1, h2, by rw [t.2 p (fun z => hT (by rw [z]; exact hq))]; exact h3⟩, fun r hr => by
    by_cases z : r = q
    · rw [z]
      exact t.1
    · obtain ⟨ps, h1, h2⟩ := j.2 r hr
      exact ⟨ps, by rw [t.2 r z]; exact h1, h2⟩⟩
/-- what the law has to tell: True -/
abbrev lawEs : Es := { nx := fun _ => False, rt := fun pv => pv = .imm (.bool true) }
theorem lawLk {e : Ent} {F : Hp} {Dd : Ends} (h : ∀ H, Dd.rt (.bl true) H) : Lk K e F lawEs Dd := ⟨fun _ _ _ _ _ _ z => z.elim, fun pv v F' H' r z => by
  subst z
  have d : Dp K F' v (.bool true) := r.2
  cases d
  exact h H', fun _ _ _ _ _ _ z => z.elim, fun _ _ _ _ _ _ z => z.elim⟩
end
end PL
set_option Elab.async false
set_option linter.all false
set_option maxRecDepth 100000
set_option maxHeartbeats 4000000
/-! the first drawing family: a state [cells, seed] of ints -/
namespace PL
open PySem PySem.Spec PyProof.Rows L2
/-- the drawing state at st, its cells at c -/
def StOk (st c : Addr) (H : Hp) : Prop := ∃ (cells : List Int) (m : Int), H st = some (.lst [.ref c, .int m]) ∧ H c = some (.lst (cells.map V.int)) ∧ cells.length ≤ 63 ∧ 0 ≤ m ∧ m < 2147483648
theorem StOk.ne {st c : Addr} {H : Hp} (h : StOk st c H) : st ≠ c := by
  obtain ⟨cells, m, h1, h2, _⟩ := h
  intro e
  subst e
  rw [h1] at h2
  have e := Option.some.inj h2
  injection e with e
  cases cells with
  | nil => cases e
  | cons x r =>
    rw [List.map_cons] at e
    injection e with e1 _
    cases e1
/-- all but the drawing state is as it was -/
def Apart (st c : Addr) (H H' : Hp) : Prop := ∀ b, b ≠ st → b ≠ c → H' b = H b
theorem ixN0 {n j : Nat} (hj : j < n) : ixN n (j : Int) = some j := by
  unfold ixN
  rw [if_pos (by omega), if_pos (by omega)]
  rfl
theorem seqIx {n j : Nat} (hj : j < n) : seqIndex? (j : Int) n = some j := (ixN_seq (ixN0 hj)).1
theorem Apart.refl (st c : Addr) (H : Hp) : Apart st c H H := fun _ _ _ => rfl
theorem Apart.trans {st c : Addr} {H H1 H2 : Hp} (a : Apart st c H H1) (b : Apart st c H1 H2) : Apart st c H H2 := fun x h1 h2 => (b x h1 h2).trans (a x h1 h2)

/-- a new address is none of the state's -/
theorem StOk.fresh {st c p : Addr} {H : Hp} (s : StOk st c H) (h : H p = none) : p ≠ st ∧ p ≠ c := by
  obtain ⟨cells, m, h1, h2, r⟩ := s
  exact ⟨(ne_of_none h1 h).symm, (ne_of_none h2 h).symm⟩
/-- the state at st, its cells at c, are among what may turn -/
structure St1In (e : Dl) (st c : Addr) : Prop where
  ms : e.M st
  mc : e.M c
  at_ : ∀ H, e.J H → StOk st c H
  put : ∀ H H', e.J H → StOk st c H' → (∀ b, b ≠ st → b ≠ c → H' b = H b) → e.J H'
def tfDraw1 : PF := fun dl pvs Q => ∃ (st c : Addr) (n : Int), pvs = [.raw (.ref st), .imm (.int n)] ∧ St1In dl st c ∧ 0 < n ∧ n.natAbs < 2 ^ 60 ∧ ∀ r : Int, 0 ≤ r → r < n → Q (.imm (.int r))
theorem tfDraw1_mono : MonoF tfDraw1 := fun _ _ _ _ h ⟨st, c, n, e, s, h0, hb, q⟩ => ⟨st, c, n, e, s, h0, hb, fun r a b => h _ (q r a b)⟩
/-- the draw's own promise, on the heap -/
def spDraw1 : Sp := fun vs H Q _ => ∃ (st c : Addr) (many : Int), vs = [.ref st, .int many] ∧ StOk st c H ∧ 0 < many ∧ many.natAbs < 2 ^ 60 ∧
  ∀ r H', 0 ≤ r → r < many → StOk st c H' → Apart st c H H' → Q (.int r) H'
theorem gr_turn {dl : Dl} {F H H' : Hp} {st c : Addr} (ok : dl.Ok F H) (ms : dl.M st) (mc : dl.M c) (j : dl.J H') (h1 : ∃ o, H' st = some o) (h2 : ∃ o, H' c = some o) (ap : ∀ b, b ≠ st → b ≠ c → H' b = H b) : Gr dl F H F H' where
  fz := Same.refl _
  new := fun b o q z => by rw [z] at q; cases q
  st := fun b o q m => by
    rw [ap b (fun z => m (by rw [z]; exact ms)) (fun z => m (by rw [z]; exact mc))]
    exact q
  ok := ⟨fun b o q => by
      rw [ap b (fun z => by rw [z, (ok.mu st ms).1] at q; cases q) (fun z => by rw [z, (ok.mu c mc).1] at q; cases q)]
      exact ok.sub b o q, fun b m => ⟨(ok.mu b m).1, by
      by_cases z1 : b = st
      · rw [z1]
        exact h1
      · by_cases z2 : b = c
        · rw [z2]
          exact h2
        · rw [ap b z1 z2]
          exact (ok.mu b m).2⟩, j⟩
theorem draw1_prm {P : Program} {w : World} {K : PySem.W.Frag} {mg : Str → Option Value} {base : Heap} {CX : CXT} {k : Nat} {f : Addr} {fd : FuncData} {ps : List Str} (G : FnOk P w K mg base CX k f fd ps spDraw1) : FnOk P w K mg base CX k f fd ps (Prm K tfDraw1) :=
  G.imp fun vs H Q E ⟨F, dl, pvs, ok, stay, ha, st, c, n, e, s, h0, hb, q⟩ => by
    subst e
    cases ha with
    | cons a1 r1 =>
      cases r1 with
      | cons a2 r2 =>
        cases r2
        obtain rfl : _ = V.ref st := a1
        have a2 : Dp K F _ (.int n) := a2
        cases a2
        refine ⟨st, c, n, rfl, s.at_ H ok.inv, h0, hb, fun r H' r0 r1 sk ap => ?_⟩
        obtain ⟨cells, m, e1, e2, _⟩ := id sk
        exact q r r0 r1 (.int r) F H' (gr_turn ok s.ms s.mc (s.put H H' ok.inv sk ap) ⟨_, e1⟩ ⟨_, e2⟩ ap) (.int r)
/-- the entry of a law of this family behind its first statement -/
def ent1 (st c : Addr) (H : Hp) : Ent := ⟨⟨fun b => b = st ∨ b = c, StOk st c⟩, fun _ => none, H⟩
theorem start1 {K : PySem.W.Frag} {st c : Addr} {v : V} {H : Hp} (sk : StOk st c H) (n : Nat) :
    Rp K (ent1 st c H) (some (.raw v) :: some (.raw (.ref st)) :: List.replicate n none) (fun _ => none) (some v :: some (.ref st) :: List.replicate n none) H := by
  have ok : (ent1 st c H).toDl.Ok (fun _ => none) H := ⟨fun b o h => (by cases h), fun b m => ⟨rfl, by
    obtain ⟨cells, m', e1, e2, _⟩ := sk
    rcases m with m | m
    · exact ⟨_, by rw [m]; exact e1⟩
    · exact ⟨_, by rw [m]; exact e2⟩⟩, sk⟩
  have nn : ∀ (i : Nat) (x : PV), (List.replicate n (none : Option PV))[i]? ≠ some (some x) := fun i x h => by
    rw [List.getElem?_replicate] at h
    split at h <;> cases h
  refine ⟨by simp, ok, .refl ok, fun H1 H2 j h => ?_, fun i x h => ?_, fun i j x y b hij hx => ?_⟩
  · obtain ⟨cells, m, e1, e2, r⟩ := j
    exact ⟨cells, m, by rw [h st (.inl rfl)]; exact e1, by rw [h c (.inr rfl)]; exact e2, r⟩
  · match i with
    | 0 => cases h; exact ⟨_, rfl, rfl⟩
    | 1 => cases h; exact ⟨_, rfl, rfl⟩
    | i + 2 => exact absurd h (nn i x)
  · match i with
    | 0 => cases hx
    | 1 => cases hx
    | i + 2 => exact absurd hx (nn i _)
theorem start1_in {st c : Addr} {H : Hp} : St1In (ent1 st c H).toDl st c := ⟨.inl rfl, .inr rfl, fun _ j => j, fun _ _ _ s _ => s⟩
end PL
set_option Elab.async false
set_option linter.all false
set_option maxRecDepth 100000
set_option maxHeartbeats 8000000
set_option pp.maxSteps 400
namespace K5
open PySem PySem.Spec PyProof.Rows L2 PL
def topS (i : Nat) : Stmt := PySem.Challenge.pw_stagesworn_k05_trees_and_addresses.main.body.getD i (.Pass ⟨0, 0, 0, 0⟩)
theorem line6 {n : Nat} (h : n ≤ 1000000) : n ≤ sizeLine := Nat.le_trans h (by decide)
-- _law_draw: topS 11; slots [(0, 'state'), (1, 'many'), (2, 'cells'), (3, 'value'), (4, 'mixed')]; own ['cells']
abbrev s__law_draw : Stmt := topS 11
abbrev N__law_draw : List Str := ["state", "many", "cells", "value", "mixed"]
theorem sc__law_draw : FnScope N__law_draw ["state", "many"] (defScope s__law_draw) := ⟨rfl, rfl, rfl, by decide +kernel, rfl, by decide +kernel, by decide +kernel⟩
-- _law_state: topS 10; slots [(0, 'script'), (1, 'seed'), (2, 'cell')]; own []
abbrev s__law_state : Stmt := topS 10
abbrev N__law_state : List Str := ["script", "seed", "cell"]
theorem sc__law_state : FnScope N__law_state ["script"] (defScope s__law_state) := ⟨rfl, rfl, rfl, by decide +kernel, rfl, by decide +kernel, by decide +kernel⟩
section
variable {P : Program} {w : World} {K : PySem.W.Frag} {mg : Str → Option Value} {base : Heap}
theorem ok_draw {f : Addr} {fd : FuncData} (F : Fun K "_law_draw" "_law_draw" s__law_draw f fd) (ml : mg "len" = none) (mi : mg "int" = none) : FnOk P w K mg base CX0 1 f fd ["state", "many"] spDraw1 := by
  refine F.ok sc__law_draw (fun vs H Q E h => ?_) (fun cdv A outer s H vs Q E hr h => ?_)
  · obtain ⟨st, c, many, rfl, _⟩ := h
    rfl
  · obtain ⟨st, c, many, rfl, hS, hm, hb, q⟩ := h
    have hne := hS.ne
    refine ⟨_, pss_cons (ps_set (i := 2) sc__law_draw.nd rfl (.inl rfl) (pe_ix ix_list (pv 0) pe_int (fun _ _ => rfl)))
      (pss_cons (ps_while PassesOwn.never (PW.pt (pw_and (pt_cmpR op_gt (pe_callB call_len_seq (by rfl) ml PySem.boot_len (pa_cons (pv 2) pa_nil)) pe_int (nomark _)) (pw_and1 (pt_cmpR op_eq (pe_ix ix_list (pv 2) pe_int (fun _ _ => rfl)) pe_int (nomark _)))))
          (pss_one (ps_expr (pe_bm PySem.F.plainAttrs_list PySem.F.slot_list_pop PySem.F.type_list_pop mt_popAt (pv 2) (pa_cons pe_int pa_nil)))))
      (pss_cons (ps_if (pt_cmpR op_gt (pe_callB call_len_seq (by rfl) ml PySem.boot_len (pa_cons (pv 2) pa_nil)) pe_int (nomark _))
          (pss_cons (ps_set (i := 3) sc__law_draw.nd rfl (.inl rfl) (pe_ix ix_list (pv 2) pe_int (fun _ _ => rfl)))
          (pss_cons (ps_asg (pe_op op_fdivW (pv 3) (pv 1)) (pg_sub (pv 2) pe_int set_list))
          (pss_one (ps_ret (pe_op op_mod (pe_callTy call_int1 (by rfl) mi boot_int (pa_cons (pv 3) pa_nil)) (pv 1))))))
          pss_nil)
      (pss_cons (ps_set (i := 4) sc__law_draw.nd rfl (.inl rfl) (pe_op op_mod (pe_callTy call_int1 (by rfl) mi boot_int (pa_cons (pe_op op_add (pe_op op_mul (pe_ix ix_list (pv 0) pe_int (fun _ _ => rfl)) pe_int) pe_int) pa_nil)) pe_int))
      (pss_cons (ps_asg (pv 4) (pg_sub (pv 0) pe_int set_list))
      (pss_one (ps_ret (pe_op op_mod (pe_callTy call_int1 (by rfl) mi boot_int (pa_cons (pe_op op_fdiv (pv 4) pe_int) pa_nil)) (pv 1)))))))), ?_⟩
    obtain ⟨cells, m, h1, h2, hl, hm0, hm1⟩ := hS
    -- cells = state[0]
    refine ⟨.ref st, rfl, st, _, 0, .ref c, rfl, rfl, SqL.of h1, atI_nat (j := 0) rfl, ?_⟩
    refine ⟨fun n σ H' => ∃ cells' : List Int, cells'.length = n ∧ σ = [some (.ref st), some (.int many), some (.ref c), none, none] ∧ H' c = some (.lst (cells'.map V.int)) ∧ cells'.length ≤ 63 ∧ Apart st c H H' ∧ H' st = some (.lst [.ref c, .int m]),
      ⟨cells.length, cells, rfl, rfl, h2, hl, Apart.refl _ _ _, h1⟩, fun n σ H' hP => ?_⟩
    · obtain ⟨cs, rfl, rfl, e2, l2, ap, e1⟩ := hP
      refine ⟨.ref c, rfl, c, _, rfl, .inl (SqL.of e2), ?_⟩
      cases cs with
      | nil =>
        refine ⟨_, _, rfl, rfl, false, rfl, iteF (iteF ?_)⟩
        -- behind the loop: no cells
        refine ⟨.ref c, rfl, c, _, rfl, .inl (SqL.of e2), _, _, rfl, rfl, false, rfl, iteF ?_⟩
        refine ⟨.ref st, rfl, st, _, 1, .int m, rfl, rfl, SqL.of e1, atI_nat (j := 1) rfl, ?_⟩
        refine ⟨m, 48271, rfl, rfl, .inl ⟨by omega, by omega⟩, _, _, rfl, rfl, .inl ⟨_, rfl, _, _, rfl, rfl, (show (0 : Int) < 2147483647 by decide), ?_⟩⟩
        have b1 : 0 ≤ (m * 48271 + 12345) % 2147483647 := Int.emod_nonneg _ (by decide)
        have b2 : (m * 48271 + 12345) % 2147483647 < 2147483647 := Int.emod_lt_of_pos _ (by decide)
        refine ⟨_, rfl, .ref st, rfl, st, _, 1, 1, rfl, rfl, e1, rfl, ?_⟩
        refine ⟨_, rfl, _, _, rfl, rfl, ⟨by decide, by decide⟩, .inl ⟨_, rfl, .int many, rfl, _, _, rfl, rfl, hm, ?_⟩⟩
        refine q _ _ (Int.emod_nonneg _ (by omega)) (Int.emod_lt_of_pos _ hm) ⟨[], _, upd_same, ?_, by decide, b1, by omega⟩ ?_
        · rw [upd_ne hne.symm]
          exact e2
        · intro b hb1 hb2
          rw [upd_ne hb1]
          exact ap b hb1 hb2
      | cons x r =>
        have lr : (((x :: r).map V.int).length : Int) > 0 := by
          rw [List.length_map, List.length_cons]
          omega
        refine ⟨_, _, rfl, rfl, true, congrArg V.bl (decide_eq_true lr), iteT ?_⟩
        refine ⟨.ref c, rfl, c, _, 0, .int x, rfl, rfl, SqL.of e2, atI_nat (j := 0) rfl, rfl, _, rfl, ite2 (fun e => ⟨fun σ' H'' => ∃ m', m' < (x :: r).length ∧ ∃ cells' : List Int, cells'.length = m' ∧ σ' = [some (.ref st), some (.int many), some (.ref c), none, none] ∧ H'' c = some (.lst (cells'.map V.int)) ∧ cells'.length ≤ 63 ∧ Apart st c H H'' ∧ H'' st = some (.lst [.ref c, .int m]), fun _ _ z => z, ?_⟩) (fun e => ?_)⟩
        · -- cells.pop(0)
          refine ⟨.ref c, rfl, .inl ⟨rfl, _, SqL.of e2⟩, c, _, 0, 0, .int x, rfl, rfl, e2, (show -(2 ^ 63) ≤ (0 : Int) by decide), (show (0 : Int) < 2 ^ 63 by decide), seqIx (j := 0) (by simp), rfl, ?_⟩
          refine ⟨r.length, by simp, r, rfl, rfl, upd_same, ?_, ?_, ?_⟩
          · rw [List.length_cons] at l2
            omega
          · intro b hb1 hb2
            rw [upd_ne hb2]
            exact ap b hb1 hb2
          · rw [upd_ne hne]
            exact e1
        · -- behind the loop: a cell
          refine ⟨.ref c, rfl, c, _, rfl, .inl (SqL.of e2), _, _, rfl, rfl, true, congrArg V.bl (decide_eq_true lr), iteT ?_⟩
          refine ⟨.ref c, rfl, c, _, 0, .int x, rfl, rfl, SqL.of e2, atI_nat (j := 0) rfl, ?_⟩
          refine ⟨.int x, rfl, .int many, rfl, x, many, rfl, rfl, wide_div hm hb (by decide) (by decide), .ref c, rfl, c, _, 0, 0, rfl, rfl, e2, ixN0 (j := 0) (by simp), ?_⟩
          refine ⟨.int x, rfl, .inl ⟨x, rfl, .int many, rfl, x, many, rfl, rfl, hm, ?_⟩⟩
          refine q _ _ (Int.emod_nonneg _ (by omega)) (Int.emod_lt_of_pos _ hm) ⟨x / many :: r, m, ?_, upd_same, by simpa using l2, hm0, hm1⟩ ?_
          · rw [upd_ne hne]
            exact e1
          · intro b hb1 hb2
            rw [upd_ne hb2]
            exact ap b hb1 hb2
def spState (K : PySem.W.Frag) : Sp := fun vs H Q _ => ∃ (a : Addr) (ns : List Int), vs = [.ref a] ∧ SqL K H a (ns.map V.int) ∧ ns.length ≤ 63 ∧
  ∀ st c H', Same H H' → H st = none → H c = none → StOk st c H' → Q (.ref st) H'
theorem ok_state {f : Addr} {fd : FuncData} (F : Fun K "_law_state" "_law_state" s__law_state f fd) (m_int : mg "int" = none) (m_abs : mg "abs" = none) : FnOk P w K mg base CX0 1 f fd ["script"] (spState K) := by
  refine F.ok sc__law_state (fun vs H Q E h => ?_) (fun cdv A outer s H vs Q E hr h => ?_)
  · obtain ⟨a, ns, rfl, _⟩ := h
    rfl
  · obtain ⟨a, ns, rfl, hS, hl, q⟩ := h
    refine ⟨_, (pss_cons (ps_set (i := 1) sc__law_state.nd rfl (.inl rfl) pe_int)
  (pss_cons (ps_for PassesOwn.never rfl (pi_list (pv 0)) (pg_name (i := 2) sc__law_state.nd rfl (.inl rfl))
    (pss_one (ps_set (i := 1) sc__law_state.nd rfl (.inl rfl) (pe_op op_mod (pe_callTy call_int1 (by rfl) m_int boot_int (pa_cons (pe_op op_add (pe_op op_mul (pv 1) pe_int) (pv 2)) pa_nil)) pe_int))))
  (pss_one (ps_ret (pe_lst (pa_cons (pe_lc (own := [("cell", 2)]) (g := gName 2) rfl sc__law_state.nd (pi_list (pv 0)) (blkOk_by (own := [("cell", 2)]) (N := N__law_state) (sc := defScope s__law_state) (by decide +kernel)) (fun _ _ _ _ _ => pg_name (i := 2) sc__law_state.nd rfl (.inl rfl)) (fun _ _ _ _ _ => pts_nil) (fun _ _ _ _ _ => (pe_callB call_abs (by rfl) m_abs boot_abs (pa_cons (pv 2) pa_nil)))) (pa_cons (pe_op op_add (pv 1) pe_int) pa_nil))))))), ?_⟩
    refine ⟨_, rfl, a, rfl, ⟨_, hS⟩, for_list (K := K) (a := a) (xs := ns.map V.int) (fun i σ H' => ∃ (y2 : Option V) (z : Int), σ = [some (.ref a), some (.int z), y2] ∧ 0 ≤ z ∧ z < 1000003 ∧ H' = H)
      ⟨none, 7, rfl, by decide, by decide, rfl⟩ (fun i σ H' _ hP => ?_) (fun i x σ H' hx hP => ?_) (fun σ H' hP => ?_)⟩
    · obtain ⟨_, _, _, _, _, rfl⟩ := hP
      exact hS
    · obtain ⟨y2, z, rfl, h0, h1, rfl⟩ := hP
      obtain ⟨n, hn, rfl⟩ : ∃ n : Int, ns[i]? = some n ∧ V.int n = x := by
        rw [List.getElem?_map] at hx
        cases e : ns[i]? with
        | none => rw [e] at hx; cases hx
        | some n => rw [e] at hx; exact ⟨n, rfl, Option.some.inj hx⟩
      refine ⟨_, rfl, z, 31, rfl, rfl, .inl ⟨by omega, by omega⟩, _, rfl, _, _, rfl, rfl, .inl ⟨_, rfl, _, _, rfl, rfl, (show (0 : Int) < 1000003 by decide), ?_⟩⟩
      exact ⟨_, _, rfl, Int.emod_nonneg _ (by decide), Int.emod_lt_of_pos _ (by decide), rfl⟩
    · obtain ⟨y2, z, rfl, h0, h1, rfl⟩ := hP
      refine ⟨_, rfl, a, rfl, ⟨_, hS⟩, fun D hD => ?_⟩
      have sD : ∀ l, Same H' (upd H' D (.lst l)) := fun l b x e => by
        rw [upd_ne (ne_of_none e hD)]
        exact e
      refine lc_list (K := K) (a := a) (xs := ns.map V.int) (fun i G => ∃ l : List Int, l.length = i ∧ G = upd H' D (.lst (l.map V.int))) ⟨[], rfl, rfl⟩ (fun i G _ hP => ?_) (fun i x G hx hP => ?_) (fun G hP => ?_)
      · obtain ⟨l, _, rfl⟩ := hP
        exact (sD _).seq hS
      · obtain ⟨l, el, rfl⟩ := hP
        obtain ⟨n, hn, rfl⟩ : ∃ n : Int, ns[i]? = some n ∧ V.int n = x := by
          rw [List.getElem?_map] at hx
          cases e : ns[i]? with
          | none => rw [e] at hx; cases hx
          | some n => rw [e] at hx; exact ⟨n, rfl, Option.some.inj hx⟩
        have hlt : i < ns.length := (List.getElem?_eq_some_iff.mp hn).1
        refine ⟨rfl, _, rfl, n, rfl, _, upd_same, ?_, ?_⟩
        · rw [List.length_map, el]
          exact Nat.lt_of_lt_of_le hlt (line6 (by omega))
        · refine ⟨l ++ [if n < 0 then -n else n], by simp [el], ?_⟩
          rw [upd_upd, List.map_append]
          rfl
      · obtain ⟨l, el, rfl⟩ := hP
        refine ⟨_, rfl, _, _, rfl, rfl, ?_, fun st hst => ?_⟩
        · exact line6 (by simp)
        have nD : st ≠ D := fun e => by
          rw [e, upd_same] at hst
          cases hst
        have hst' : H' st = none := by
          rw [upd_ne nD] at hst
          exact hst
        refine q st D _ (fun b x e => ?_) hst' hD ⟨l, z + 1, ?_, ?_, ?_, by omega, by omega⟩
        · rw [upd_ne (ne_of_none e hst'), upd_ne (ne_of_none e hD)]
          exact e
        · rw [upd_same]
        · rw [upd_ne nD.symm, upd_same]
        · rw [el, List.length_map]
          exact hl
theorem M__law_draw : MonoF tfDraw1 := tfDraw1_mono
theorem ok__law_draw {f : Addr} {fd : FuncData} (F : Fun K "_law_draw" "_law_draw" s__law_draw f fd) (m_len : mg "len" = none) (m_int : mg "int" = none) : FnOk P w K mg base CX0 1 f fd ["state", "many"] (Prm K tfDraw1) := draw1_prm (ok_draw F m_len m_int)
end
end K5
set_option Elab.async false
set_option linter.all false
set_option maxRecDepth 100000
set_option maxHeartbeats 4000000
set_option pp.maxSteps 600
/-! the plain law: trees -/
namespace K5
open PySem PySem.Spec PyProof.Rows L2 PL
inductive Nm | x | y | z | f
inductive Ty | k0 | k1 | k2 | k3 | k4 | k5
inductive Pq | p | q | r
inductive Sg | a | s | m | d | r | l | e | q
def Nm.t : Nm → Str | .x => "x" | .y => "y" | .z => "z" | .f => "f"
def Pq.t : Pq → Str | .p => "p" | .q => "q" | .r => "r"
def Sg.t : Sg → Str | .a => "+" | .s => "-" | .m => "*" | .d => "//" | .r => "rest" | .l => "<" | .e => "<=" | .q => "=="
def Ty.d : Ty → D
  | .k0 => .str "int" | .k1 => .str "bool" | .k2 => .str "unit" | .k3 => .tuple [.str "array", .str "int"] | .k4 => .tuple [.str "fun", .tuple [], .str "int"]
  | .k5 => .tuple [.str "fun", .tuple [.str "int", .tuple [.str "array", .str "bool"]], .str "unit"]
inductive H0 | num (i : Nat) | bool (i : Nat) | unit | name (x : Nm)
inductive H1 | not | raise | len | print | fn (ps : List (Pq × Ty)) | call
inductive H2 | op (s : Sg) | and | or | array | get | seq | «let» (x : Nm) | «try» (x : Nm) | call
inductive H3 | «if» | set | call
inductive T
  | n0 (h : H0) | n1 (h : H1) (a : T) | n2 (h : H2) (a b : T) | n3 (h : H3) (a b c : T)
abbrev tg (s : Str) (ds : List D) : D := .tuple (.str s :: ds)
def mk0 : H0 → D
  | .num i => tg "num" [.int (i : Nat)] | .bool i => tg "bool" [.int (i : Nat)] | .unit => tg "unit" [] | .name x => tg "name" [.str x.t]
def parD (p : Pq × Ty) : D := .tuple [.str p.1.t, p.2.d]
def mk1 : H1 → D → D
  | .not, a => tg "not" [a] | .raise, a => tg "raise" [a] | .len, a => tg "len" [a] | .print, a => tg "print" [a] | .fn ps, a => tg "fn" [.tuple (ps.map parD), a] | .call, a => tg "call" [a, .tuple []]
def mk2 : H2 → D → D → D
  | .op s, a, b => tg "op" [.str s.t, a, b] | .and, a, b => tg "and" [a, b] | .or, a, b => tg "or" [a, b] | .array, a, b => tg "array" [a, b] | .get, a, b => tg "get" [a, b] | .seq, a, b => tg "seq" [a, b]
  | .let x, a, b => tg "let" [.str x.t, a, b] | .try x, a, b => tg "try" [a, .str x.t, b] | .call, a, b => tg "call" [a, .tuple [b]]
def mk3 : H3 → D → D → D → D
  | .if, a, b, c => tg "if" [a, b, c] | .set, a, b, c => tg "set" [a, b, c] | .call, a, b, c => tg "call" [a, .tuple [b, c]]
def T.d : T → D
  | .n0 h => mk0 h | .n1 h a => mk1 h a.d | .n2 h a b => mk2 h a.d b.d | .n3 h a b c => mk3 h a.d b.d c.d
def T.kids : T → List T
  | .n0 _ => [] | .n1 _ a => [a] | .n2 _ a b => [a, b] | .n3 _ a b c => [a, b, c]
def T.bnd : T → Nat → List Str
  | .n1 (.fn ps) _, _ => ps.map (·.1.t)
  | .n2 (.let x) _ _, 1 => [x.t]
  | .n2 (.try x) _ _, 1 => [x.t]
  | _, _ => []
def T.sz : T → Nat
  | .n0 _ => 1 | .n1 _ a => 1 + a.sz | .n2 _ a b => 1 + a.sz + b.sz | .n3 _ a b c => 1 + a.sz + b.sz + c.sz
def T.dp : T → Nat
  | .n0 _ => 1 | .n1 _ a => 1 + a.dp | .n2 _ a b => 1 + max a.dp b.dp | .n3 _ a b c => 1 + max a.dp (max b.dp c.dp)
/-! ### parts, with_parts -/
abbrev PLN : List D := [.str "num", .str "bool", .str "unit", .str "name"]
abbrev LOP : List D := [.str "let", .str "op"]
def partsF (s : Str) (r : List D) : Option (List D) :=
  if inF (.str s) PLN = true then some [] else if s = "call" then (match r with | [a, .tuple bs] => some (a :: bs) | _ => none) else if s = "fn" then (match r with | [_, a] => some [a] | _ => none)
  else if s = "try" then (match r with | [a, _, b] => some [a, b] | _ => none) else if inF (.str s) LOP = true then (match r with | [_, a, b] => some [a, b] | _ => none) else some r
def sortOf : T → Str
  | .n0 (.num _) => "num" | .n0 (.bool _) => "bool" | .n0 .unit => "unit" | .n0 (.name _) => "name"
  | .n1 .not _ => "not" | .n1 .raise _ => "raise" | .n1 .len _ => "len" | .n1 .print _ => "print" | .n1 (.fn _) _ => "fn" | .n1 .call _ => "call"
  | .n2 (.op _) _ _ => "op" | .n2 .and _ _ => "and" | .n2 .or _ _ => "or" | .n2 .array _ _ => "array" | .n2 .get _ _ => "get" | .n2 .seq _ _ => "seq" | .n2 (.let _) _ _ => "let" | .n2 (.try _) _ _ => "try" | .n2 .call _ _ => "call"
  | .n3 .if _ _ _ => "if" | .n3 .set _ _ _ => "set" | .n3 .call _ _ _ => "call"
def rest : T → List D
  | .n0 (.num i) => [.int (i : Nat)] | .n0 (.bool i) => [.int (i : Nat)] | .n0 .unit => [] | .n0 (.name x) => [.str x.t]
  | .n1 (.fn ps) a => [.tuple (ps.map parD), a.d] | .n1 .call a => [a.d, .tuple []] | .n1 _ a => [a.d]
  | .n2 (.op s) a b => [.str s.t, a.d, b.d] | .n2 (.let x) a b => [.str x.t, a.d, b.d] | .n2 (.try x) a b => [a.d, .str x.t, b.d] | .n2 .call a b => [a.d, .tuple [b.d]] | .n2 _ a b => [a.d, b.d]
  | .n3 .call a b c => [a.d, .tuple [b.d, c.d]] | .n3 _ a b c => [a.d, b.d, c.d]
theorem T.shape (t : T) : t.d = tg (sortOf t) (rest t) := by
  match t with
  | .n0 h => cases h <;> rfl
  | .n1 h a => cases h <;> rfl
  | .n2 h a b => cases h <;> rfl
  | .n3 h a b c => cases h <;> rfl
theorem parts_ok (t : T) : partsF (sortOf t) (rest t) = some (t.kids.map T.d) := by
  match t with
  | .n0 h => cases h <;> rfl
  | .n1 h a => cases h <;> rfl
  | .n2 h a b => cases h <;> rfl
  | .n3 h a b c => cases h <;> rfl
def withF (s : Str) (r ss : List D) : Option D :=
  if inF (.str s) PLN = true then some (tg s r) else if s = "call" then (match ss with | a :: bs => some (tg "call" [a, .tuple bs]) | _ => none) else if s = "fn" then (match r, ss with | ps :: _, a :: _ => some (tg "fn" [ps, a]) | _, _ => none)
  else if s = "try" then (match r, ss with | _ :: x :: _, a :: b :: _ => some (tg "try" [a, x, b]) | _, _ => none) else if inF (.str s) LOP = true then (match r, ss with | x :: _, a :: b :: _ => some (tg s [x, a, b]) | _, _ => none) else some (tg s ss)
def T.put : T → List T → T
  | .n1 h _, [a] => .n1 h a
  | .n2 h _ _, [a, b] => .n2 h a b
  | .n3 h _ _ _, [a, b, c] => .n3 h a b c
  | t, _ => t
theorem with_ok (t : T) (us : List T) (h : us.length = t.kids.length) : withF (sortOf t) (rest t) (us.map T.d) = some (t.put us).d ∧ (t.put us).kids = us ∧ (t.put us).put t.kids = t ∧ sortOf (t.put us) = sortOf t := by
  match t, us, h with
  | .n0 h, [], _ => cases h <;> exact ⟨rfl, rfl, rfl, rfl⟩
  | .n1 h a, [u], _ => cases h <;> exact ⟨rfl, rfl, rfl, rfl⟩
  | .n2 h a b, [u, v], _ => cases h <;> exact ⟨rfl, rfl, rfl, rfl⟩
  | .n3 h a b c, [u, v, w], _ => cases h <;> exact ⟨rfl, rfl, rfl, rfl⟩
theorem put_len (t : T) (us : List T) (h : us.length = t.kids.length) : (t.put us).kids.length = t.kids.length := by rw [(with_ok t us h).2.1, h]
/-! ### what a tree binds, its free names -/
def fstD : D → D
  | .tuple (x :: _) => x
  | _ => .none
def bndF (s : Str) (r : List D) (i : Int) : Option (List D) :=
  if s = "fn" then (match r with | .tuple ps :: _ => some (ps.map fstD) | _ => none)
  else if s = "let" ∧ i = 1 then (match r with | x :: _ => some [x] | _ => none) else if s = "try" ∧ i = 1 then (match r with | _ :: x :: _ => some [x] | _ => none) else some []
theorem bnd_ok (t : T) (i : Nat) : bndF (sortOf t) (rest t) (i : Nat) = some ((t.bnd i).map PyData.str) := by
  have nil : ∀ (s : Str) (r : List D), ¬ s = "fn" → ¬ s = "let" → ¬ s = "try" → bndF s r (i : Nat) = some [] := fun s r h1 h2 h3 => by
    unfold bndF
    rw [if_neg h1, if_neg (fun z => h2 z.1), if_neg (fun z => h3 z.1)]
  match t with
  | .n0 h => cases h <;> exact nil _ _ (of_decide_eq_false rfl) (of_decide_eq_false rfl) (of_decide_eq_false rfl)
  | .n3 h a b c => cases h <;> exact nil _ _ (of_decide_eq_false rfl) (of_decide_eq_false rfl) (of_decide_eq_false rfl)
  | .n1 h a =>
    cases h with
    | fn ps =>
      show some _ = some _
      congr 1
      show (ps.map parD).map _ = (ps.map (·.1.t)).map PyData.str
      rw [List.map_map, List.map_map]
      rfl
    | _ => exact nil _ _ (of_decide_eq_false rfl) (of_decide_eq_false rfl) (of_decide_eq_false rfl)
  | .n2 h a b =>
    cases h with
    | «let» x =>
      match i with
      | 0 => rfl
      | 1 => rfl
      | i + 2 =>
        show bndF "let" (rest (T.n2 (.let x) a b)) ((i + 2 : Nat) : Int) = _
        unfold bndF
        rw [if_neg (show ¬ (("let" : Str) = "fn") by decide +kernel), if_neg (fun z => by have := z.2; omega), if_neg (fun z => by have := z.2; omega)]
        rfl
    | «try» x =>
      match i with
      | 0 => rfl
      | 1 => rfl
      | i + 2 =>
        show bndF "try" (rest (T.n2 (.try x) a b)) ((i + 2 : Nat) : Int) = _
        unfold bndF
        rw [if_neg (show ¬ (("try" : Str) = "fn") by decide +kernel), if_neg (fun z => by have := z.2; omega), if_neg (fun z => by have := z.2; omega)]
        rfl
    | _ => exact nil _ _ (of_decide_eq_false rfl) (of_decide_eq_false rfl) (of_decide_eq_false rfl)
/-- x is free in the tree -/
def T.fr (x : Str) : T → Bool
  | .n0 (.name y) => decide (x = y.t)
  | .n0 _ => false
  | .n1 h a => a.fr x && decide (x ∉ (T.n1 h a).bnd 0)
  | .n2 h a b => (a.fr x && decide (x ∉ (T.n2 h a b).bnd 0)) || (b.fr x && decide (x ∉ (T.n2 h a b).bnd 1))
  | .n3 h a b c => (a.fr x && decide (x ∉ (T.n3 h a b c).bnd 0)) || (b.fr x && decide (x ∉ (T.n3 h a b c).bnd 1)) || (c.fr x && decide (x ∉ (T.n3 h a b c).bnd 2))
def NMS : List Str := ["x", "y", "z", "f"]
theorem nm_in (x : Nm) : x.t ∈ NMS := by cases x <;> decide +kernel
theorem fr_nm (x : Str) : ∀ t : T, t.fr x = true → x ∈ NMS
  | .n0 h, q => by
    cases h with
    | name y =>
      have e : x = y.t := of_decide_eq_true q
      rw [e]
      exact nm_in y
    | _ => cases q
  | .n1 h a, q => by
    rw [T.fr, Bool.and_eq_true] at q
    exact fr_nm x a q.1
  | .n2 h a b, q => by
    rw [T.fr, Bool.or_eq_true, Bool.and_eq_true, Bool.and_eq_true] at q
    rcases q with q | q
    · exact fr_nm x a q.1
    · exact fr_nm x b q.1
  | .n3 h a b c, q => by
    rw [T.fr, Bool.or_eq_true, Bool.or_eq_true, Bool.and_eq_true, Bool.and_eq_true, Bool.and_eq_true] at q
    rcases q with (q | q) | q
    · exact fr_nm x a q.1
    · exact fr_nm x b q.1
    · exact fr_nm x c q.1
/-- free by the kids -/
theorem fr_kids (x : Str) (t : T) (h : sortOf t ≠ "name") : t.fr x = true ↔ ∃ i c, t.kids[i]? = some c ∧ c.fr x = true ∧ x ∉ t.bnd i := by
  match t with
  | .n0 q =>
    cases q with
    | name y => exact absurd rfl h
    | _ => exact ⟨fun z => (by cases z), fun ⟨i, c, z, _⟩ => (by cases z)⟩
  | .n1 q a =>
    rw [T.fr, Bool.and_eq_true, decide_eq_true_iff]
    constructor
    · exact fun z => ⟨0, a, rfl, z.1, z.2⟩
    · rintro ⟨i, c, e, z⟩
      match i, e with
      | 0, e => cases e; exact z
  | .n2 q a b =>
    rw [T.fr, Bool.or_eq_true, Bool.and_eq_true, Bool.and_eq_true, decide_eq_true_iff, decide_eq_true_iff]
    constructor
    · rintro (z | z)
      · exact ⟨0, a, rfl, z.1, z.2⟩
      · exact ⟨1, b, rfl, z.1, z.2⟩
    · rintro ⟨i, c, e, z⟩
      match i, e with
      | 0, e => cases e; exact .inl z
      | 1, e => cases e; exact .inr z
  | .n3 q a b c =>
    rw [T.fr, Bool.or_eq_true, Bool.or_eq_true, Bool.and_eq_true, Bool.and_eq_true, Bool.and_eq_true, decide_eq_true_iff, decide_eq_true_iff, decide_eq_true_iff]
    constructor
    · rintro ((z | z) | z)
      · exact ⟨0, a, rfl, z.1, z.2⟩
      · exact ⟨1, b, rfl, z.1, z.2⟩
      · exact ⟨2, c, rfl, z.1, z.2⟩
    · rintro ⟨i, d, e, z⟩
      match i, e with
      | 0, e => cases e; exact .inl (.inl z)
      | 1, e => cases e; exact .inl (.inr z)
      | 2, e => cases e; exact .inr z
end K5
set_option Elab.async false
set_option linter.all false
set_option maxRecDepth 100000
set_option maxHeartbeats 4000000
/-! the plain law: orders -/
namespace K5
open PySem PySem.Spec PyProof.Rows L2 PL
abbrev nat (k : Nat) : D := .int (k : Nat)
def adD (a : List Nat) : D := .tuple (a.map nat)
abbrev leD : D → D → Bool := PySem.W.dataLe false id
theorem leD_def (a b : D) : leD a b = !PySem.W.dataLt b a := by
  show PySem.W.dataLe false id a b = _
  rw [PySem.W.dataLe_eq]
  rfl
theorem leD_total (a b : D) : (leD a b || leD b a) = true := by
  rw [leD_def, leD_def]
  cases h1 : PySem.W.dataLt b a with
  | false => rfl
  | true =>
    cases h2 : PySem.W.dataLt a b with
    | false => rfl
    | true =>
      have := lex_trans (O := itemOrd) _ _ _ h1 h2
      rw [lex_irrefl] at this
      cases this
theorem leD_trans (a b c : D) (h1 : leD a b = true) (h2 : leD b c = true) : leD a c = true := by
  rw [leD_def] at h1 h2 ⊢
  cases h : PySem.W.dataLt c a with
  | false => rfl
  | true =>
    rcases lex_negTrans (O := itemOrd) _ (PySem.W.keyToks b) _ h with z | z
    · rw [show PySem.W.dataLt c b = true from z] at h2
      cases h2
    · rw [show PySem.W.dataLt b a = true from z] at h1
      cases h1
theorem toks_ints : ∀ (a b : List Nat), PySem.W.keyToksAll (a.map nat) = PySem.W.keyToksAll (b.map nat) → a = b
  | [], [], _ => rfl
  | [], y :: b, h => by
    rw [List.map_nil, List.map_cons, PySem.W.keyToksAll, PySem.W.keyToksAll] at h
    have := (List.cons.inj h).1
    cases this
  | x :: a, [], h => by
    rw [List.map_nil, List.map_cons, PySem.W.keyToksAll, PySem.W.keyToksAll] at h
    have := (List.cons.inj h).1
    cases this
  | x :: a, y :: b, h => by
    rw [List.map_cons, List.map_cons, PySem.W.keyToksAll, PySem.W.keyToksAll] at h
    have h := (List.cons.inj h).2
    rw [PySem.W.keyToks, PySem.W.keyToks] at h
    obtain ⟨h1, h2⟩ := List.cons.inj h
    have e : (x : Int) = y := Sum.inl.inj h1
    have e : x = y := by omega
    rw [e, toks_ints a b h2]
theorem leD_anti (a b : List Nat) (h1 : leD (adD a) (adD b) = true) (h2 : leD (adD b) (adD a) = true) : adD a = adD b := by
  rw [leD_def] at h1 h2
  have e := lex_total (O := itemOrd) (PySem.W.keyToks (adD a)) (PySem.W.keyToks (adD b)) (by simpa [PySem.W.dataLt] using h2) (by simpa [PySem.W.dataLt] using h1)
  have e : PySem.W.keyToksAll (a.map nat) = PySem.W.keyToksAll (b.map nat) := by
    unfold adD at e
    simp only [PySem.W.keyToks] at e
    exact e
  rw [toks_ints a b e]
theorem sort_perm {l m : List (List Nat)} (h : l.Perm m) : (l.map adD).mergeSort leD = (m.map adD).mergeSort leD := by
  refine List.Perm.eq_of_pairwise (le := fun a b => leD a b = true) (fun x y hx hy h1 h2 => ?_) (List.pairwise_mergeSort leD_trans leD_total _) (List.pairwise_mergeSort leD_trans leD_total _) ((List.mergeSort_perm _ _).trans ((h.map adD).trans (List.mergeSort_perm _ _).symm))
  obtain ⟨a, _, rfl⟩ := List.mem_map.mp ((List.mergeSort_perm _ _).mem_iff.mp hx)
  obtain ⟨b, _, rfl⟩ := List.mem_map.mp ((List.mergeSort_perm _ _).mem_iff.mp hy)
  exact leD_anti a b h1 h2
theorem alike_nats : ∀ a b : List Nat, PySem.W.alikeAll (a.map nat) (b.map nat) = true
  | [], _ => by simp [PySem.W.alikeAll]
  | _ :: _, [] => by simp [PySem.W.alikeAll]
  | x :: a, y :: b => by
    rw [List.map_cons, List.map_cons, PySem.W.alikeAll, alike_nats a b]
    simp [PySem.W.alike]
theorem ad_alike (l : List (List Nat)) : PySem.W.AllAlike (l.map adD) := PySem.W.AllAlike.of fun a b => by
  unfold adD
  rw [PySem.W.alike]
  exact alike_nats a b
theorem depth_nats : ∀ a : List Nat, PyData.depthAll (a.map nat) = 0
  | [] => by simp [PyData.depthAll]
  | x :: a => by
    rw [List.map_cons, PyData.depthAll, depth_nats a]
    simp [PyData.depth]
theorem ad_sortable (l : List (List Nat)) (h : ∀ a ∈ l, a ≠ []) : PySem.W.Sortable (l.map adD) := .inl fun d hd => by
  obtain ⟨a, ha, rfl⟩ := List.mem_map.mp hd
  cases a with
  | nil => exact absurd rfl (h _ ha)
  | cons x r => exact ⟨nat x, r.map nat, rfl⟩
theorem ad_depth (l : List (List Nat)) : ∀ d ∈ l.map adD, d.depth ≤ 60 := fun d hd => by
  obtain ⟨a, ha, rfl⟩ := List.mem_map.mp hd
  unfold adD
  rw [PyData.depth, depth_nats]
  omega
/-! texts in order -/
theorem cps_neg (a b c : List Nat) (h : ltCps a c = true) : ltCps a b = true ∨ ltCps b c = true := by
  rw [ltCps_eq] at h ⊢
  rw [ltCps_eq]
  exact PyProof.Rows.strKind.negTrans a b c h
theorem cps_tot (a b : List Nat) (h : ltCps a b = false) (h2 : ltCps b a = false) : a = b := by
  rw [ltCps_eq] at h h2
  exact PyProof.Rows.strKind.total a b h h2
theorem sortedS_pw : ∀ (l : List Str) (p : Str), risingS p l = true → (p :: l).Pairwise (fun a b => ltCps b.cps.toList a.cps.toList = false)
  | [], p, _ => List.pairwise_singleton _ _
  | x :: r, p, h => by
    have h : (!ltCps x.cps.toList p.cps.toList && risingS x r) = true := h
    obtain ⟨h1, h2⟩ := Bool.and_eq_true_iff.mp h
    have ih := sortedS_pw r x h2
    have h1 : ltCps x.cps.toList p.cps.toList = false := by simpa using h1
    refine List.pairwise_cons.mpr ⟨fun y hy => ?_, ih⟩
    rcases List.mem_cons.mp hy with rfl | hy
    · exact h1
    · have h3 := List.rel_of_pairwise_cons ih hy
      cases h4 : ltCps y.cps.toList p.cps.toList with
      | false => rfl
      | true =>
        rcases cps_neg _ x.cps.toList _ h4 with z | z
        · rw [show ltCps y.cps.toList x.cps.toList = true from z] at h3
          cases h3
        · rw [show ltCps x.cps.toList p.cps.toList = true from z] at h1
          cases h1
theorem sortedS_pair (l : List Str) (h : sortedS l = true) : l.Pairwise (fun a b => ltCps b.cps.toList a.cps.toList = false) := by
  cases l with
  | nil => exact List.Pairwise.nil
  | cons x r => exact sortedS_pw r x h
theorem sortedS_eq {l m : List Str} (h1 : sortedS l = true) (h2 : sortedS m = true) (p : l.Perm m) : l = m := by
  refine List.Perm.eq_of_pairwise (fun a b _ _ x y => ?_) (sortedS_pair l h1) (sortedS_pair m h2) p
  exact PySem.W.str_of_cps (cps_tot _ _ y x)
theorem same_perm {l m : List Str} (h1 : l.Nodup) (h2 : m.Nodup) (h : ∀ k, k ∈ l ↔ k ∈ m) : l.Perm m := (List.perm_ext_iff_of_nodup h1 h2).mpr h
theorem nodup_few : ∀ (l m : List Str), l.Nodup → (∀ k ∈ l, k ∈ m) → l.length ≤ m.length
  | [], _, _, _ => Nat.zero_le _
  | x :: l, m, h, hs => by
    obtain ⟨h1, h2⟩ := List.nodup_cons.mp h
    have hx := hs x List.mem_cons_self
    have := nodup_few l (m.erase x) h2 fun k hk => (List.mem_erase_of_ne (fun z => h1 (by rw [← z]; exact hk))).mpr (hs k (List.mem_cons_of_mem _ hk))
    rw [List.length_erase_of_mem hx] at this
    have : 0 < m.length := List.length_pos_of_mem hx
    rw [List.length_cons]
    omega
end K5
set_option Elab.async false
set_option linter.all false
set_option maxRecDepth 100000
set_option maxHeartbeats 4000000
/-! what an expression gives: the readings forward -/
namespace PL
open PySem PySem.Spec PyProof.Rows L2
theorem le20 {n : Nat} (h : Nat.ble n 20 = true) : n ≤ sizeLine := Nat.le_trans (Nat.le_of_ble_eq_true h) (by decide)
/-- at ρ the expression gives d -/
def Gv {α : Type} (t : TX α) (ρ : Ev) (d : α) : Prop := ∀ Q : α → Prop, Q d → t ρ Q
section
variable {α β γ : Type} {ρ : Ev} {P : Es} {i j k : Nat} {ta tb tc : TX D} {d d' x y : D} {tq tq2 : TX (Bool × List D)} {b c : Bool} {xs ys ds : List D} {tn : TX OC} {s : TX Bool}
theorem gv_c {d : α} : Gv (xC d) ρ d := fun _ q => q
theorem gv_v (i : Nat) (h : ρ[i]? = some (some (.imm d))) : Gv (xV i) ρ d := fun _ q => xV_to h q
theorem gv_vr (i : Nat) {v : V} (h : ρ[i]? = some (some (.raw v))) : Gv (xVR i) ρ v := fun Q q => by
  unfold xVR
  rw [h]
  exact q
theorem gv_vq (i : Nat) (h : ρ[i]? = some (some (.own (.lst xs)))) : Gv (xVQ i) ρ (false, xs) := fun Q q => by
  unfold xVQ
  rw [h]
  exact q
theorem gv_qt (h : Gv ta ρ (.tuple xs)) : Gv (xQ ta) ρ (true, xs) := fun _ q => h _ q
theorem gv_ql (h : Gv ta ρ (.list xs)) : Gv (xQ ta) ρ (false, xs) := fun _ q => h _ q
theorem gv_nq (h : Gv tn ρ (.lst xs)) : Gv (xNQ tn) ρ (false, xs) := fun _ q => h _ q
theorem gv_nd (h : Gv tn ρ (.lst xs)) : Gv (xND tn) ρ (.list xs) := fun _ q => h _ q
theorem gv_ix {n : Int} (h : Gv tq ρ (b, xs)) (h2 : Gv ta ρ (.int n)) (e : atI xs n = some d) : Gv (xBin rdIx tq ta) ρ d := fun _ q => h _ (h2 _ (ixTo e q))
/-- l[k] of a list display or a tuple, k a place -/
theorem gv_at (k : Nat) (h : Gv tq ρ (b, xs)) (e : xs[k]? = some d) : Gv (xBin rdIx tq (xC (.int (k : Nat)))) ρ d := gv_ix h gv_c (atI_nat e)
theorem gv_t0 (h : Gv tq ρ (b, d :: xs)) : Gv (xBin rdIx tq (xC (.int 0))) ρ d := gv_at 0 h rfl
theorem gv_t1 (h : Gv tq ρ (b, x :: d :: xs)) : Gv (xBin rdIx tq (xC (.int 1))) ρ d := gv_at 1 h rfl
theorem gv_t2 (h : Gv tq ρ (b, x :: y :: d :: xs)) : Gv (xBin rdIx tq (xC (.int 2))) ρ d := gv_at 2 h rfl
theorem gv_t3 (h : Gv tq ρ (b, x :: y :: d' :: d :: xs)) : Gv (xBin rdIx tq (xC (.int 3))) ρ d := gv_at 3 h rfl
theorem gv_nil : Gv (xC ([] : List D)) ρ [] := gv_c
theorem gv_cons {t : TX (List D)} (h : Gv ta ρ d) (h2 : Gv t ρ ds) : Gv (xCons ta t) ρ (d :: ds) := fun _ q => h _ (h2 _ q)
theorem gv_tup {t : TX (List D)} (h : Gv t ρ ds) (hl : ds.length ≤ sizeLine := by exact le20 rfl) : Gv (xTup t) ρ (.tuple ds) := fun _ q => h _ ⟨hl, q⟩
theorem gv_lst {t : TX (List D)} (h : Gv t ρ ds) (hl : ds.length ≤ sizeLine := by exact le20 rfl) : Gv (xLst t) ρ (.lst ds) := fun _ q => h _ ⟨hl, q⟩
theorem gv_catT (h : Gv ta ρ (.tuple xs)) (h2 : Gv tb ρ (.tuple ys)) (hl : xs.length + ys.length ≤ sizeLine) : Gv (xBin rdCatT ta tb) ρ (.tuple (xs ++ ys)) := fun _ q => h _ (h2 _ ⟨hl, q⟩)
theorem gv_catL (h : Gv tq ρ (false, xs)) (h2 : Gv tq2 ρ (false, ys)) (hl : xs.length + ys.length ≤ sizeLine) : Gv (xBin rdCatL tq tq2) ρ (.lst (xs ++ ys)) := fun _ q => h _ (h2 _ ⟨rfl, rfl, hl, q⟩)
theorem gv_addS {u v : Str} (h : Gv ta ρ (.str u)) (h2 : Gv tb ρ (.str v)) (hl : u.length + v.length ≤ sizeLine) : Gv (xBin rdAddS ta tb) ρ (.str (u ++ v)) := fun _ q => h _ (h2 _ ⟨hl, q⟩)
theorem gv_i0 {g : Int → Int → D} {m n : Int} (h : Gv ta ρ (.int m)) (h2 : Gv tb ρ (.int n)) : Gv (xBin (rd0 g) ta tb) ρ (g m n) := fun _ q => h _ (h2 _ q)
theorem gv_iC {C : Int → Int → Prop} {g : Int → Int → D} {m n : Int} (h : Gv ta ρ (.int m)) (h2 : Gv tb ρ (.int n)) (hc : C m n) : Gv (xBin (rdI C g) ta tb) ρ (g m n) := fun _ q => h _ (h2 _ ⟨hc, q⟩)
theorem gv_neg {m : Int} (h : Gv ta ρ (.int m)) : Gv (xUn rdNeg ta) ρ (.int (-m)) := fun _ q => h _ q
theorem gv_eq {neg : Bool} (h : Gv ta ρ x) (h2 : Gv tb ρ y) (e : eqP x y = some b) : Gv (xBin (rdEqP neg) ta tb) ρ (.bool (ng neg b)) := fun Q q => h _ (h2 _ (by
  unfold rdEqP
  rw [e]
  exact q))
theorem gv_eqD {neg : Bool} (h : Gv ta ρ x) (h2 : Gv tb ρ y) (s1 : SeqAt.shaped x = true) (s2 : SeqAt.shaped y = true) : Gv (xBin (rdEq neg) ta tb) ρ (.bool (ng neg (PyData.eqv x y))) := fun _ q => h _ (h2 _ ⟨s1, s2, q⟩)
theorem gv_in {neg : Bool} (h : Gv ta ρ x) (h2 : Gv tq ρ (b, ys)) (f1 : flatD x = true) (f2 : ys.all flatD = true) : Gv (xBin (rdIn neg) ta tq) ρ (.bool (ng neg (inF x ys))) := fun _ q => h _ (h2 _ ⟨f1, f2, q⟩)
theorem gv_b (h : Gv ta ρ (.bool b)) : Gv (xB ta) ρ b := fun _ q => h _ q
theorem gv_trq (h : Gv tq ρ (b, xs)) : Gv (xTrQ tq) ρ (!xs.isEmpty) := fun _ q => h _ q
theorem gv_not (h : Gv s ρ b) : Gv (xNot s) ρ (!b) := fun _ q => h _ q
theorem gv_and {s t : TX Bool} (h : Gv s ρ b) (h2 : b = true → Gv t ρ c) : Gv (xAnd s t) ρ (b && c) := fun Q q => h _ (by
  cases b with
  | true => exact iteT (h2 rfl _ q)
  | false => exact iteF q)
theorem gv_or {s t : TX Bool} (h : Gv s ρ b) (h2 : b = false → Gv t ρ c) : Gv (xOr s t) ρ (b || c) := fun Q q => h _ (by
  cases b with
  | true => exact iteT q
  | false => exact iteF (h2 rfl _ q))
theorem gv_andV (h : Gv ta ρ (.bool b)) (h2 : b = true → Gv tb ρ (.bool c)) : Gv (xAndV ta tb) ρ (.bool (b && c)) := fun Q q => by
  cases b with
  | true => exact andV_T (fun Q q => h _ q) (h2 rfl _ q)
  | false => exact andV_F (fun Q q => h _ q) q
theorem gv_orV (h : Gv ta ρ (.bool b)) (h2 : b = false → Gv tb ρ (.bool c)) : Gv (xOrV ta tb) ρ (.bool (b || c)) := fun Q q => by
  cases b with
  | true => exact orV_T (fun Q q => h _ q) q
  | false => exact orV_F (fun Q q => h _ q) (h2 rfl _ q)
theorem gv_ifT {t u : TX α} {d : α} (h : Gv s ρ true) (h2 : Gv t ρ d) : Gv (xIf s t u) ρ d := fun Q q => xif_T (fun Q q => h _ q) (h2 _ q)
theorem gv_ifF {t u : TX α} {d : α} (h : Gv s ρ false) (h2 : Gv u ρ d) : Gv (xIf s t u) ρ d := fun Q q => xif_F (fun Q q => h _ q) (h2 _ q)
theorem gv_len (h : Gv tq ρ (b, xs)) : Gv (xUn rdLen tq) ρ (.int (xs.length : Nat)) := fun _ q => h _ q
theorem gv_list (h : Gv tq ρ (b, xs)) : Gv (xUn rdList tq) ρ (.lst xs) := fun _ q => h _ q
theorem gv_tuple (h : Gv tq ρ (false, xs)) : Gv (xUn rdTuple tq) ρ (.tuple xs) := fun _ q => h _ ⟨rfl, q⟩
theorem gv_tupleD (h : Gv ta ρ (.tuple xs)) : Gv (xUn rdTupleD ta) ρ (.tuple xs) := fun _ q => h _ q
theorem gv_part {n : Int} (h : Gv ta ρ (.int n)) : Gv (xPart ta) ρ (some n) := fun _ q => h _ q
theorem gv_slT {t u : TX (Option Int)} {lo hi : Option Int} (h : Gv ta ρ (.tuple xs)) (h2 : Gv t ρ lo) (h3 : Gv u ρ hi) : Gv (xSl rdSlT ta t u) ρ (.tuple (PL.cutD xs lo hi)) := fun _ q => h _ (h2 _ (h3 _ q))
theorem gv_slL {t u : TX (Option Int)} {lo hi : Option Int} (h : Gv tq ρ (false, xs)) (h2 : Gv t ρ lo) (h3 : Gv u ρ hi) : Gv (xSl rdSlL tq t u) ρ (.lst (PL.cutD xs lo hi)) := fun _ q => h _ (h2 _ (h3 _ ⟨rfl, q⟩))
theorem gv_strD (h : Gv ta ρ d) (h0 : tupD d = true) (h1 : d.showable = true) (h2 : d.shown.length ≤ sizeLine) (h3 : d.depth ≤ 100) : Gv (xUn rdStrD ta) ρ (.str d.shown) := fun _ q => h _ ⟨h0, h1, h2, h3, q⟩
theorem gv_strI {n : Int} (h : Gv ta ρ (.int n)) (hl : n.natAbs.log2 < 1920) : Gv (xUn rdStr ta) ρ (.str (toString n)) := fun _ q => h _ ⟨hl, q⟩
theorem gv_lenS {z : Str} (h : Gv ta ρ (.str z)) (hl : z.length ≤ sizeLine) : Gv (xUn rdLenS ta) ρ (.int (z.length : Nat)) := fun _ q => h _ ⟨hl, q⟩
theorem gv_ixS {z : Str} {n : Int} {u : Nat} (h : Gv ta ρ (.str z)) (h2 : Gv tb ρ (.int n)) (hl : z.length ≤ sizeLine) (e : atI z.cps.toList n = some u) : Gv (xBin rdIxS ta tb) ρ (.str ⟨#[u]⟩) := fun Q q => h _ (h2 _ (by
  refine ⟨hl, ?_⟩
  rw [e]
  exact q))
theorem gv_dget2 {kvs : List (Key × D)} {z : D} {kk : Key} (i : Nat) (h0 : ρ[i]? = some (some (.own (.dic kvs)))) (h : Gv ta ρ (keyD kk)) (h2 : Gv tb ρ z) : Gv (xDget2 i ta tb) ρ ((valD kvs kk).getD z) := fun Q q => by
  unfold xDget2 dicV
  rw [h0]
  refine h _ ?_
  cases kk <;> exact h2 _ q
/-! arguments of a call -/
theorem gv_v0 : Gv (xC ([] : List PV)) ρ [] := gv_c
theorem gv_vc {f : α → PV} {t : TX α} {a : α} {r : TX (List PV)} {pvs : List PV} (h : Gv t ρ a) (h2 : Gv r ρ pvs) : Gv (vCons f t r) ρ (f a :: pvs) := fun _ q => h _ (h2 _ q)
/-- a call that surely gives d -/
theorem gv_call {tf : PF} {dl : Dl} {tl : TX (List PV)} {pvs : List PV} (h : Gv tl ρ pvs) (hf : ∀ Q : PV → Prop, Q (.imm d) → tf dl pvs Q) : Gv (xCall tf dl tl) ρ d := fun Q q => h _ (hf _ q)
theorem gv_callO {tf : PF} {dl : Dl} {tl : TX (List PV)} {pvs : List PV} {o : OC} (h : Gv tl ρ pvs) (hf : ∀ Q : PV → Prop, Q (.own o) → tf dl pvs Q) : Gv (xCallN tf dl tl) ρ o := fun Q q => h _ (hf _ q)
/-! statements -/
theorem st_set {e : TX D} (h : Gv e ρ d) (q : P.nx (ρ.set i (some (.imm d)))) : zSet PV.imm i e P ρ := h _ q
theorem st_setO {e : TX OC} {o : OC} (h : Gv e ρ o) (q : P.nx (ρ.set i (some (.own o)))) : zSet PV.own i e P ρ := h _ q
theorem st_ret {e : TX D} (h : Gv e ρ d) (q : P.rt (.imm d)) : zRet PV.imm e P ρ := h _ q
theorem st_retO {e : TX OC} {o : OC} (h : Gv e ρ o) (q : P.rt (.own o)) : zRet PV.own e P ρ := h _ q
theorem st_ifT {t u : TSt} (h : Gv s ρ true) (q : t P ρ) : zIf s t u P ρ := h _ (show if true = true then t P ρ else u P ρ from iteT q)
theorem st_ifF {t u : TSt} (h : Gv s ρ false) (q : u P ρ) : zIf s t u P ρ := h _ (show if false = true then t P ρ else u P ρ from iteF q)
theorem st_if {t u : TSt} (h : Gv s ρ b) (h1 : b = true → t P ρ) (h2 : b = false → u P ρ) : zIf s t u P ρ := h _ (ifB h1 h2)
theorem st_seq {t u : TSt} (h : t { P with nx := u P } ρ) : zSeq t u P ρ := h
theorem st_nil (h : P.nx ρ) : zNil P ρ := h
theorem st_par {f : α → PV} {g : β → PV} {t : TX α} {u : TX β} {a : α} {c : β} (h : Gv t ρ a) (h2 : Gv u ρ c) (q : P.nx ((ρ.set i (some (f a))).set j (some (g c)))) : zPar f g i j t u P ρ := h _ (h2 _ q)
theorem st_app {e : TX D} (h0 : ρ[i]? = some (some (.own (.lst xs)))) (h : Gv e ρ d) (hl : xs.length < sizeLine) (q : P.nx (ρ.set i (some (.own (.lst (xs ++ [d])))))) : zAppG i e P ρ := app_to h0 (h _ ⟨hl, q⟩)
theorem st_pop {g : D → Ev → (Ev → Prop) → Prop} (h0 : ρ[i]? = some (some (.own (.lst (xs ++ [d]))))) (q : g d (ρ.set i (some (.own (.lst xs)))) P.nx) : zPop i g P ρ := by
  unfold zPop ownL
  rw [h0]
  have e1 : (xs ++ [d])[(xs ++ [d]).length - 1]? = some d := by simp
  have e2 : (xs ++ [d]).dropLast = xs := List.dropLast_concat
  show (match (xs ++ [d])[(xs ++ [d]).length - 1]? with | some d' => g d' (ρ.set i (some (.own (.lst (xs ++ [d]).dropLast)))) P.nx | none => False)
  rw [e1, e2]
  exact q
theorem st_frz {t : TSt} (h0 : ρ[i]? = some (some (.own (.lst xs)))) (q : t P (ρ.set i (some (.imm (.list xs))))) : zFrz i t P ρ := by
  unfold zFrz ownL
  rw [h0]
  exact q
/-! a statement ahead of others -/
theorem sq_set {e : TX D} {u : TSt} (h : Gv e ρ d) (q : u P (ρ.set i (some (.imm d)))) : zSeq (zSet PV.imm i e) u P ρ := h _ q
theorem sq_setO {e : TX OC} {o : OC} {u : TSt} (h : Gv e ρ o) (q : u P (ρ.set i (some (.own o)))) : zSeq (zSet PV.own i e) u P ρ := h _ q
theorem sq_if {t u : TSt} (h : Gv s ρ b) (h1 : b = true → t { P with nx := u P } ρ) (h2 : b = false → u P ρ) : zSeq (zIf s t zNil) u P ρ := h _ (ifB h1 h2)
theorem sq_ifF {t u : TSt} (h : Gv s ρ false) (q : u P ρ) : zSeq (zIf s t zNil) u P ρ := st_ifF h q
theorem sq_par {f : α → PV} {g : β → PV} {t : TX α} {u : TX β} {v : TSt} {a : α} {c : β} (h : Gv t ρ a) (h2 : Gv u ρ c) (q : v P ((ρ.set i (some (f a))).set j (some (g c)))) : zSeq (zPar f g i j t u) v P ρ := st_par h h2 q
theorem sq_app {e : TX D} {u : TSt} (h0 : ρ[i]? = some (some (.own (.lst xs)))) (h : Gv e ρ d) (hl : xs.length < sizeLine) (q : u P (ρ.set i (some (.own (.lst (xs ++ [d])))))) : zSeq (zAppG i e) u P ρ := st_app h0 h hl q
theorem sq_pop {g : D → Ev → (Ev → Prop) → Prop} {u : TSt} (h0 : ρ[i]? = some (some (.own (.lst (xs ++ [d]))))) (q : g d (ρ.set i (some (.own (.lst xs)))) (u P)) : zSeq (zPop i g) u P ρ := st_pop h0 q
theorem sq_for {tl : TX (List D)} {g : D → Ev → (Ev → Prop) → Prop} {tb u : TSt} {it : List D} (h : Gv tl ρ it) (q : forT g tb { P with nx := u P } it ρ) : zSeq (zFor tl g tb) u P ρ := h _ q
/-! walks, targets, comprehensions -/
def Gt (g : D → Ev → (Ev → Prop) → Prop) (d : D) (ρ ρ' : Ev) : Prop := ∀ Q : Ev → Prop, Q ρ' → g d ρ Q
theorem gt_name : Gt (yName i) d ρ (ρ.set i (some (.imm d))) := fun _ q => q
theorem gt_tup2 : Gt (yTup 2 (yCons (yName i) (yCons (yName j) yNil))) (.tuple [x, y]) ρ ((ρ.set i (some (.imm x))).set j (some (.imm y))) := fun _ q => ⟨rfl, q⟩
theorem gv_iT (h : Gv ta ρ (.tuple xs)) : Gv (iT ta) ρ xs := fun _ q => h _ q
theorem gv_iL (h : Gv ta ρ (.list xs)) : Gv (iL ta) ρ xs := fun _ q => h _ q
theorem gv_iO (h : Gv tq ρ (false, xs)) : Gv (iO tq) ρ xs := fun _ q => h _ ⟨rfl, q⟩
theorem gv_r1 {n : Nat} (h : Gv ta ρ (.int (n : Nat))) (hl : n ≤ 1000000000) : Gv (iR1 ta) ρ (intsD 0 n) := fun Q q => h _ (show (-(2 ^ 62) ≤ ((n : Nat) : Int) ∧ ((n : Nat) : Int) < 2 ^ 62) ∧ Q (intsD 0 ((n : Nat) : Int).toNat) from ⟨⟨by omega, by omega⟩, q⟩)
theorem gv_lcM {tl : TX (List D)} {g : D → Ev → (Ev → Prop) → Prop} {te : TX D} {vs : List Nat} (f : D → D) (h : Gv tl ρ xs) (hl : xs.length ≤ sizeLine) (hel : ∀ (i : Nat) (d : D), xs[i]? = some d → ∃ ρ', Gt g d (wipeE ρ vs) ρ' ∧ Gv te ρ' (f d)) : Gv (xLc tl g (xC true) te vs) ρ (.lst (xs.map f)) :=
  fun Q q => h _ (compT_map f xs _ (fun i d A B hd hA => by
    obtain ⟨ρ', h1, h2⟩ := hel i d hd
    exact h1 _ (show (if true = true then te ρ' A else B) from iteT (h2 _ hA))) hl q)
theorem gv_lcF {tl : TX (List D)} {g : D → Ev → (Ev → Prop) → Prop} {tt : TX Bool} {te : TX D} {vs : List Nat} (p : D → Bool) (f : D → D) (h : Gv tl ρ xs) (hl : xs.length ≤ sizeLine)
    (hel : ∀ (i : Nat) (d : D), xs[i]? = some d → ∃ ρ', Gt g d (wipeE ρ vs) ρ' ∧ Gv tt ρ' (p d) ∧ (p d = true → Gv te ρ' (f d))) : Gv (xLc tl g tt te vs) ρ (.lst ((xs.filter p).map f)) :=
  fun Q q => h _ (compT_filter p f xs _ (fun i d A B hd hA hB => by
    obtain ⟨ρ', h1, h2, h3⟩ := hel i d hd
    exact h1 _ (h2 _ (ifB (fun z => h3 z _ (hA z)) fun z => hB z))) hl q)
/-! dicts -/
def Gp (ts : List (TX D × TX D)) (ρ : Ev) (kvs : List (Key × D)) : Prop := ∀ Q : List (Key × D) → Prop, Q kvs → pairsX ts ρ Q
theorem gp_nil : Gp [] ρ [] := fun _ q => q
theorem gp_cons {z : Str} {ts : List (TX D × TX D)} {kvs : List (Key × D)} (h : Gv ta ρ (.str z)) (h2 : Gv tb ρ d) (h3 : Gp ts ρ kvs) : Gp ((ta, tb) :: ts) ρ ((.inr z, d) :: kvs) := fun _ q => h _ (h2 _ (h3 _ q))
theorem gv_disp {ts : List (TX D × TX D)} {kvs : List (Key × D)} (h : Gp ts ρ kvs) : Gv (xDisp ts) ρ (.dic (mergeD [] kvs)) := fun _ q => h _ q
theorem sq_puts {ks : List Str} {kvs : List (Key × D)} {u : TSt} (h : Gv ta ρ (.tuple ds)) (h0 : ρ[i]? = some (some (.own (.dic kvs)))) (hl : ds.length = ks.length) (hz : kvs.length + ks.length ≤ sizeLine)
    (q : u P (ρ.set i (some (.own (.dic (putAll kvs ks ds)))))) : zSeq (zPuts i ks ta) u P ρ := h _ (by
  refine ⟨hl, ?_⟩
  unfold ownDic
  rw [h0]
  exact ⟨hz, q⟩)
/-! loops -/
theorem sq_while {tb u : TSt} (W : Nat → Ev → Prop) {m : Nat} (h0 : W m ρ)
    (hs : ∀ m ρ, W m ρ → ∃ b : Bool, Gv s ρ b ∧ (b = true → tb { P with nx := fun ρ' => ∃ m', m' < m ∧ W m' ρ', ct := fun ρ' => ∃ m', m' < m ∧ W m' ρ', bk := u P } ρ) ∧ (b = false → u P ρ)) : zSeq (zWhile s tb) u P ρ :=
  ⟨W, ⟨m, h0⟩, fun m ρ w => by
    obtain ⟨b, h1, h2, h3⟩ := hs m ρ w
    exact h1 _ (ifB h2 h3)⟩
theorem st_while {tb : TSt} (W : Nat → Ev → Prop) {m : Nat} (h0 : W m ρ)
    (hs : ∀ m ρ, W m ρ → ∃ b : Bool, Gv s ρ b ∧ (b = true → tb { P with nx := fun ρ' => ∃ m', m' < m ∧ W m' ρ', ct := fun ρ' => ∃ m', m' < m ∧ W m' ρ', bk := P.nx } ρ) ∧ (b = false → P.nx ρ)) : zWhile s tb P ρ :=
  ⟨W, ⟨m, h0⟩, fun m ρ w => by
    obtain ⟨b, h1, h2, h3⟩ := hs m ρ w
    exact h1 _ (ifB h2 h3)⟩
/-- a for loop: I the invariant -/
theorem sq_forI {tl : TX (List D)} {g : D → Ev → (Ev → Prop) → Prop} {tb u : TSt} {it : List D} (I : Nat → Ev → Prop) (h : Gv tl ρ it) (h0 : I 0 ρ)
    (hs : ∀ (i : Nat) (d : D) (ρ : Ev) (R : Ev → Prop), it[i]? = some d → I i ρ → (∀ ρ', I (i + 1) ρ' → R ρ') → ∃ ρ', Gt g d ρ ρ' ∧ tb { P with nx := R, ct := R, bk := u P } ρ') (hd : ∀ ρ, I it.length ρ → u P ρ) : zSeq (zFor tl g tb) u P ρ :=
  h _ (forT_by I it ρ h0 (fun i d ρ R e hi hR => by
    obtain ⟨ρ', h1, h2⟩ := hs i d ρ R e hi hR
    exact h1 _ h2) hd)
/-- enumerate(t) -/
theorem gv_enT (h : Gv ta ρ (.tuple xs)) : Gv (fun ρ Q => iT ta ρ fun xs => Q (enumD xs)) ρ (enumD xs) := fun _ q => h _ q
theorem enumD_get {i : Nat} (h : (enumD xs)[i]? = some d) : ∃ x, xs[i]? = some x ∧ d = .tuple [.int (i : Nat), x] := by
  unfold enumD at h
  rw [List.getElem?_map] at h
  obtain ⟨j, hj, rfl⟩ := Option.map_eq_some_iff.mp h
  have hlt : i < xs.length := by
    have := (List.getElem?_eq_some_iff.mp hj).1
    rwa [List.length_range] at this
  rw [List.getElem?_range hlt] at hj
  cases hj
  exact ⟨xs[i], List.getElem?_eq_getElem hlt, by rw [List.getD_eq_getElem?_getD, List.getElem?_eq_getElem hlt] <;> rfl⟩
theorem enumD_len : (enumD xs).length = xs.length := by
  unfold enumD
  rw [List.length_map, List.length_range]
theorem sq_popG {g : D → Ev → (Ev → Prop) → Prop} {u : TSt} {ρ' : Ev} (h0 : ρ[i]? = some (some (.own (.lst (xs ++ [d]))))) (hg : Gt g d (ρ.set i (some (.own (.lst xs)))) ρ') (q : u P ρ') : zSeq (zPop i g) u P ρ := sq_pop h0 (hg _ q)
theorem sq_asg {g : D → Ev → (Ev → Prop) → Prop} {u : TSt} {ρ' : Ev} (h : Gv ta ρ d) (hg : Gt g d ρ ρ') (q : u P ρ') : zSeq (zAsg ta g) u P ρ := h _ (hg _ q)
/-! what an expression may give -/
def Gs {α : Type} (t : TX α) (ρ : Ev) (R : α → Prop) : Prop := ∀ Q : α → Prop, (∀ d, R d → Q d) → t ρ Q
theorem gs_v {t : TX α} {d : α} (h : Gv t ρ d) : Gs t ρ fun x => x = d := fun Q q => h _ (q d rfl)
theorem gs_mono {t : TX α} {R S : α → Prop} (h : Gs t ρ R) (k : ∀ x, R x → S x) : Gs t ρ S := fun Q q => h _ fun x r => q x (k x r)
theorem gs_bin {r : RX α β γ} {t : TX α} {u : TX β} {R : α → Prop} {S : α → β → Prop} {U : γ → Prop} (h : Gs t ρ R) (h2 : ∀ x, R x → Gs u ρ (S x)) (hr : ∀ x y, R x → S x y → ∀ Q : γ → Prop, (∀ d, U d → Q d) → r x y Q) : Gs (xBin r t u) ρ U :=
  fun Q q => h _ fun x hx => h2 x hx _ fun y hy => hr x y hx hy Q q
theorem gs_un {r : R1 α γ} {t : TX α} {R : α → Prop} {U : γ → Prop} (h : Gs t ρ R) (hr : ∀ x, R x → ∀ Q : γ → Prop, (∀ d, U d → Q d) → r x Q) : Gs (xUn r t) ρ U := fun Q q => h _ fun x hx => hr x hx Q q
theorem gs_call {tf : PF} {dl : Dl} {tl : TX (List PV)} {pvs : List PV} {R : D → Prop} (h : Gv tl ρ pvs) (hf : ∀ Q : PV → Prop, (∀ d, R d → Q (.imm d)) → tf dl pvs Q) : Gs (xCall tf dl tl) ρ R := fun Q q => h _ (hf _ fun d hd => q d hd)
theorem gs_callA {tf : PF} {dl : Dl} {tl : TX (List PV)} {A : List PV → Prop} {R : D → Prop} (h : Gs tl ρ A) (hf : ∀ pvs, A pvs → ∀ Q : PV → Prop, (∀ d, R d → Q (.imm d)) → tf dl pvs Q) : Gs (xCall tf dl tl) ρ R := fun Q q => h _ fun pvs hp => hf pvs hp _ fun d hd => q d hd
theorem gs_vc {f : α → PV} {t : TX α} {r : TX (List PV)} {R : α → Prop} {S : List PV → Prop} (h : Gs t ρ R) (h2 : Gs r ρ S) : Gs (vCons f t r) ρ fun l => ∃ a l', l = f a :: l' ∧ R a ∧ S l' := fun Q q => h _ fun a ha => h2 _ fun l hl => q _ ⟨a, l, rfl, ha, hl⟩
theorem gs_nq {R : List D → Prop} (h : Gs tn ρ fun o => ∃ xs, o = .lst xs ∧ R xs) : Gs (xNQ tn) ρ fun x => x.1 = false ∧ R x.2 := fun Q q => h _ fun o ⟨xs, e, hx⟩ => by
  subst e
  exact q _ ⟨rfl, hx⟩
theorem gs_nd {R : List D → Prop} (h : Gs tn ρ fun o => ∃ xs, o = .lst xs ∧ R xs) : Gs (xND tn) ρ fun d => ∃ xs, d = .list xs ∧ R xs := fun Q q => h _ fun o ⟨xs, e, hx⟩ => by
  subst e
  exact q _ ⟨xs, rfl, hx⟩
theorem gs_iT {R : List D → Prop} (h : Gs ta ρ fun d => ∃ xs, d = .tuple xs ∧ R xs) : Gs (iT ta) ρ R := fun Q q => h _ fun d ⟨xs, e, hx⟩ => by
  subst e
  exact q _ hx
theorem gs_qt {R : List D → Prop} (h : Gs ta ρ fun d => ∃ xs, d = .tuple xs ∧ R xs) : Gs (xQ ta) ρ fun x => x.1 = true ∧ R x.2 := fun Q q => h _ fun d ⟨xs, e, hx⟩ => by
  subst e
  exact q _ ⟨rfl, hx⟩
theorem gs_lc {tl : TX (List D)} {g : D → Ev → (Ev → Prop) → Prop} {tt : TX Bool} {te : TX D} {vs : List Nat} {R S : List D → Prop} (h : Gs tl ρ R) (hc : ∀ xs, R xs → ∀ Q : List D → Prop, (∀ ys, S ys → Q ys) → compT g tt te (wipeE ρ vs) xs [] Q) :
    Gs (xLc tl g tt te vs) ρ fun o => ∃ ys, o = .lst ys ∧ S ys := fun Q q => h _ fun xs hx => hc xs hx _ fun ys hy => q _ ⟨ys, rfl, hy⟩
theorem gs_cons {t : TX (List D)} {R : D → Prop} {S : List D → Prop} (h : Gs ta ρ R) (h2 : Gs t ρ S) : Gs (xCons ta t) ρ fun l => ∃ d ds, l = d :: ds ∧ R d ∧ S ds := fun Q q => h _ fun d hd => h2 _ fun ds hds => q _ ⟨d, ds, rfl, hd, hds⟩
theorem gs_tup {t : TX (List D)} {S : List D → Prop} (h : Gs t ρ S) (hl : ∀ ds, S ds → ds.length ≤ sizeLine) : Gs (xTup t) ρ fun d => ∃ ds, d = .tuple ds ∧ S ds := fun Q q => h _ fun ds hds => ⟨hl ds hds, q _ ⟨ds, rfl, hds⟩⟩
theorem gs_lst {t : TX (List D)} {S : List D → Prop} (h : Gs t ρ S) (hl : ∀ ds, S ds → ds.length ≤ sizeLine) : Gs (xLst t) ρ fun o => ∃ ds, o = .lst ds ∧ S ds := fun Q q => h _ fun ds hds => ⟨hl ds hds, q _ ⟨ds, rfl, hds⟩⟩
theorem gs_tuple {R : List D → Prop} (h : Gs tq ρ fun x => x.1 = false ∧ R x.2) : Gs (xUn rdTuple tq) ρ fun d => ∃ xs, d = .tuple xs ∧ R xs := fun Q q => h _ fun x ⟨e, hx⟩ => ⟨e, q _ ⟨x.2, rfl, hx⟩⟩
theorem gs_ix {R : List D → Prop} {S : Int → Prop} {U : D → Prop} (h : Gs tq ρ fun x => R x.2) (h2 : Gs ta ρ fun d => ∃ n, d = .int n ∧ S n) (e : ∀ xs n, R xs → S n → ∃ d, atI xs n = some d ∧ U d) : Gs (xBin rdIx tq ta) ρ U := fun Q q => h _ fun x hx => h2 _ fun d ⟨n, en, hn⟩ => by
  subst en
  obtain ⟨d, h1, hU⟩ := e x.2 n hx hn
  exact ixTo h1 (q d hU)
theorem st_setS {e : TX D} {R : D → Prop} (h : Gs e ρ R) (q : ∀ d, R d → P.nx (ρ.set i (some (.imm d)))) : zSet PV.imm i e P ρ := h _ q
theorem sq_setS {e : TX D} {u : TSt} {R : D → Prop} (h : Gs e ρ R) (q : ∀ d, R d → u P (ρ.set i (some (.imm d)))) : zSeq (zSet PV.imm i e) u P ρ := h _ q
theorem st_retS {e : TX D} {R : D → Prop} (h : Gs e ρ R) (q : ∀ d, R d → P.rt (.imm d)) : zRet PV.imm e P ρ := h _ q
end
end PL
set_option Elab.async false
set_option linter.all false
set_option maxRecDepth 100000
set_option maxHeartbeats 8000000
set_option pp.maxSteps 900
namespace K5
open PySem PySem.Spec PyProof.Rows L2 PL
-- parts: topS 2; slots [(0, 'tree'), (1, 'sort')]; own []
abbrev s_parts : Stmt := topS 2
abbrev N_parts : List Str := ["tree", "sort"]
theorem sc_parts : FnScope N_parts ["tree"] (defScope s_parts) := ⟨rfl, rfl, rfl, by decide +kernel, rfl, by decide +kernel, by decide +kernel⟩
-- with_parts: topS 3; slots [(0, 'tree'), (1, 'some'), (2, 'sort')]; own []
abbrev s_with_parts : Stmt := topS 3
abbrev N_with_parts : List Str := ["tree", "some", "sort"]
theorem sc_with_parts : FnScope N_with_parts ["tree", "some"] (defScope s_with_parts) := ⟨rfl, rfl, rfl, by decide +kernel, rfl, by decide +kernel, by decide +kernel⟩
-- bound_in: topS 5; slots [(0, 'tree'), (1, 'at'), (2, 'name'), (3, '_')]; own []
abbrev s_bound_in : Stmt := topS 5
abbrev N_bound_in : List Str := ["tree", "at", "name", "_"]
theorem sc_bound_in : FnScope N_bound_in ["tree", "at"] (defScope s_bound_in) := ⟨rfl, rfl, rfl, by decide +kernel, rfl, by decide +kernel, by decide +kernel⟩
theorem ix0 {b : Bool} {x : D} {r : List D} {Q : D → Prop} (q : Q x) : rdIx (b, x :: r) (.int 0) Q := ixTo (atI_nat (j := 0) rfl) q
theorem ix1 {b : Bool} {x y : D} {r : List D} {Q : D → Prop} (q : Q y) : rdIx (b, x :: y :: r) (.int 1) Q := ixTo (atI_nat (j := 1) rfl) q
theorem ix2 {b : Bool} {x y z : D} {r : List D} {Q : D → Prop} (q : Q z) : rdIx (b, x :: y :: z :: r) (.int 2) Q := ixTo (atI_nat (j := 2) rfl) q
theorem ix3 {b : Bool} {x y z u : D} {r : List D} {Q : D → Prop} (q : Q u) : rdIx (b, x :: y :: z :: u :: r) (.int 3) Q := ixTo (atI_nat (j := 3) rfl) q
theorem kids_le (t : T) : t.kids.length ≤ 3 := by cases t <;> exact Nat.le_of_ble_eq_true rfl
theorem cut1 (x : D) (r : List D) : PL.cutD (x :: r) (some 1) none = r := by
  unfold PL.cutD
  rw [HT.sIx_none, show HT.sIx (x :: r).length 0 (some (1 : Int)) = 1 from by rw [show (1 : Int) = ((1 : Nat) : Int) from rfl, HT.sIx_nat, List.length_cons]; omega]
  rw [List.drop_succ_cons, List.drop_zero, List.length_cons, Nat.add_sub_cancel, List.take_length]
theorem fn_shape (t : T) (h : sortOf t = "fn") : ∃ (ps : List (Pq × Ty)) (a : D), rest t = [.tuple (ps.map parD), a] := by
  match t with
  | .n0 q => cases q <;> exact absurd h (of_decide_eq_false rfl)
  | .n3 q a b c => cases q <;> exact absurd h (of_decide_eq_false rfl)
  | .n2 q a b => cases q <;> exact absurd h (of_decide_eq_false rfl)
  | .n1 q a =>
    cases q with
    | fn ps => exact ⟨ps, a.d, rfl⟩
    | _ => exact absurd h (of_decide_eq_false rfl)
def tfParts : PF := fun _ pvs Q => ∃ t : T, pvs = [.imm t.d] ∧ Q (.imm (.tuple (t.kids.map T.d)))
theorem M_parts : MonoF tfParts := fun _ _ _ _ h ⟨t, e, q⟩ => ⟨t, e, h _ q⟩
section
variable {P : Program} {w : World} {K : PySem.W.Frag} {mg : Str → Option Value} {base : Heap} {f aP fp : Addr} {fd fdp : FuncData}
theorem ok_parts (F : Fun K "parts" "parts" s_parts f fd) (g_PLAIN : mg "PLAIN" = some (.ref aP)) (hPLAIN : ∀ F, Dp K F (.ref aP) (.tuple PLN)) : FnOk P w K mg base CX0 1 f fd ["tree"] (Prm K tfParts) := by
  refine okP F sc_parts (fun _ _ _ ⟨_, e, _⟩ => by rw [e] <;> rfl) fun cdv A outer s H E e hr => ?_
  refine ⟨_, (zs_cons (z_set (i := 1) kvD sc_parts.nd rfl (.inl rfl) (pd_ix (pq_d (pd_v (pv 0))) pd_int (fun _ _ => rfl)))
  (zs_cons (z_if (pb_c (pc_in (pd_v (pv 1)) (pq_d (pd_k (pe_glob (v := .ref aP) rfl g_PLAIN rfl) hPLAIN))) rfl)
    (zs_one (z_ret kvD (pd_tup pad_nil)))
    zs_nil)
  (zs_cons (z_if (pb_c (pc_eq (pd_v (pv 1)) pd_str) (nomark _))
    (zs_one (z_ret kvD (pd_cat (pd_tup (pad_cons (pd_ix (pq_d (pd_v (pv 0))) pd_int (fun _ _ => rfl)) pad_nil)) (pd_ix (pq_d (pd_v (pv 0))) pd_int (fun _ _ => rfl)))))
    zs_nil)
  (zs_cons (z_if (pb_c (pc_eq (pd_v (pv 1)) pd_str) (nomark _))
    (zs_one (z_ret kvD (pd_tup (pad_cons (pd_ix (pq_d (pd_v (pv 0))) pd_int (fun _ _ => rfl)) pad_nil))))
    zs_nil)
  (zs_cons (z_if (pb_c (pc_eq (pd_v (pv 1)) pd_str) (nomark _))
    (zs_one (z_ret kvD (pd_tup (pad_cons (pd_ix (pq_d (pd_v (pv 0))) pd_int (fun _ _ => rfl)) (pad_cons (pd_ix (pq_d (pd_v (pv 0))) pd_int (fun _ _ => rfl)) pad_nil)))))
    zs_nil)
  (zs_cons (z_if (pb_c (pc_in (pd_v (pv 1)) (pq_d (pd_tup (pad_cons pd_str (pad_cons pd_str pad_nil))))) rfl)
    (zs_one (z_ret kvD (pd_tup (pad_cons (pd_ix (pq_d (pd_v (pv 0))) pd_int (fun _ _ => rfl)) (pad_cons (pd_ix (pq_d (pd_v (pv 0))) pd_int (fun _ _ => rfl)) pad_nil)))))
    zs_nil)
  (zs_one (z_ret kvD (pd_slT (pd_v (pv 0)) (pod_some pd_int) pod_none))))))))), ?_⟩
  rintro pvs Q ⟨t, rfl, q⟩
  have hp := parts_ok t
  rw [T.shape]
  generalize sortOf t = s at hp ⊢
  generalize rest t = r at hp ⊢
  have hl : (t.kids.map T.d).length ≤ 10 := by rw [List.length_map]; have := kids_le t; omega
  generalize t.kids.map T.d = ks at hp q hl
  unfold partsF at hp
  refine sq_set (gv_t0 (gv_qt (gv_v 0 rfl))) ?_
  refine sq_if (gv_b (gv_in (gv_v 1 rfl) (gv_qt (gv_c (d := PyData.tuple PLN))) rfl rfl)) (fun h => ?_) fun h => ?_
  · rw [if_pos (show inF (.str s) PLN = true from h)] at hp
    cases hp
    exact st_ret (gv_tup gv_nil) q
  rw [if_neg (by rw [show inF (.str s) PLN = false from h]; decide)] at hp
  refine sq_if (gv_b (gv_eq (gv_v 1 rfl) gv_c rfl)) (fun h => ?_) fun h => ?_
  · rw [if_pos (of_decide_eq_true h)] at hp
    split at hp
    · cases hp
      refine st_ret (gv_catT (gv_tup (gv_cons (gv_t1 (gv_qt (gv_v 0 rfl))) gv_nil)) (gv_t2 (gv_qt (gv_v 0 rfl))) ?_) q
      show 1 + _ ≤ _
      rw [List.length_cons] at hl
      exact line3 (by omega)
    · cases hp
  rw [if_neg (of_decide_eq_false h)] at hp
  refine sq_if (gv_b (gv_eq (gv_v 1 rfl) gv_c rfl)) (fun h => ?_) fun h => ?_
  · rw [if_pos (of_decide_eq_true h)] at hp
    split at hp
    · cases hp
      exact st_ret (gv_tup (gv_cons (gv_t2 (gv_qt (gv_v 0 rfl))) gv_nil)) q
    · cases hp
  rw [if_neg (of_decide_eq_false h)] at hp
  refine sq_if (gv_b (gv_eq (gv_v 1 rfl) gv_c rfl)) (fun h => ?_) fun h => ?_
  · rw [if_pos (of_decide_eq_true h)] at hp
    split at hp
    · cases hp
      exact st_ret (gv_tup (gv_cons (gv_t1 (gv_qt (gv_v 0 rfl))) (gv_cons (gv_t3 (gv_qt (gv_v 0 rfl))) gv_nil))) q
    · cases hp
  rw [if_neg (of_decide_eq_false h)] at hp
  refine sq_if (gv_b (gv_in (gv_v 1 rfl) (gv_qt (gv_tup (gv_cons gv_c (gv_cons gv_c gv_nil)))) rfl rfl)) (fun h => ?_) fun h => ?_
  · rw [if_pos (show inF (.str s) LOP = true from h)] at hp
    split at hp
    · cases hp
      exact st_ret (gv_tup (gv_cons (gv_t2 (gv_qt (gv_v 0 rfl))) (gv_cons (gv_t3 (gv_qt (gv_v 0 rfl))) gv_nil))) q
    · cases hp
  rw [if_neg (by rw [show inF (.str s) LOP = false from h]; decide)] at hp
  cases hp
  refine st_ret (d := .tuple r) ?_ q
  have g := gv_slT (ρ := (startE N_parts.length [.imm (tg s r)]).set 1 (some (.imm (.str s)))) (gv_v 0 rfl) (gv_part (gv_c (d := PyData.int 1))) (gv_c (d := none))
  rw [cut1] at g
  exact g
def tfWith : PF := fun _ pvs Q => ∃ (t : T) (us : List T), pvs = [.imm t.d, .imm (.tuple (us.map T.d))] ∧ us.length = t.kids.length ∧ Q (.imm (t.put us).d)
theorem M_with_parts : MonoF tfWith := fun _ _ _ _ h ⟨t, us, e, l, q⟩ => ⟨t, us, e, l, h _ q⟩
theorem ok_with_parts (F : Fun K "with_parts" "with_parts" s_with_parts f fd) (g_PLAIN : mg "PLAIN" = some (.ref aP)) (hPLAIN : ∀ F, Dp K F (.ref aP) (.tuple PLN)) (m_tuple : mg "tuple" = none) : FnOk P w K mg base CX0 1 f fd ["tree", "some"] (Prm K tfWith) := by
  refine okP F sc_with_parts (fun _ _ _ ⟨_, _, e, _⟩ => by rw [e] <;> rfl) fun cdv A outer s H E e hr => ?_
  refine ⟨_, (zs_cons (z_set (i := 2) kvD sc_with_parts.nd rfl (.inl rfl) (pd_ix (pq_d (pd_v (pv 0))) pd_int (fun _ _ => rfl)))
  (zs_cons (z_if (pb_c (pc_in (pd_v (pv 2)) (pq_d (pd_k (pe_glob (v := .ref aP) rfl g_PLAIN rfl) hPLAIN))) rfl)
    (zs_one (z_ret kvD (pd_v (pv 0))))
    zs_nil)
  (zs_cons (z_if (pb_c (pc_eq (pd_v (pv 2)) pd_str) (nomark _))
    (zs_one (z_ret kvD (pd_tup (pad_cons pd_str (pad_cons (pd_ix (pq_d (pd_v (pv 1))) pd_int (fun _ _ => rfl)) (pad_cons (pd_tupleD (by rfl) m_tuple (pd_slT (pd_v (pv 1)) (pod_some pd_int) pod_none)) pad_nil))))))
    zs_nil)
  (zs_cons (z_if (pb_c (pc_eq (pd_v (pv 2)) pd_str) (nomark _))
    (zs_one (z_ret kvD (pd_tup (pad_cons pd_str (pad_cons (pd_ix (pq_d (pd_v (pv 0))) pd_int (fun _ _ => rfl)) (pad_cons (pd_ix (pq_d (pd_v (pv 1))) pd_int (fun _ _ => rfl)) pad_nil))))))
    zs_nil)
  (zs_cons (z_if (pb_c (pc_eq (pd_v (pv 2)) pd_str) (nomark _))
    (zs_one (z_ret kvD (pd_tup (pad_cons pd_str (pad_cons (pd_ix (pq_d (pd_v (pv 1))) pd_int (fun _ _ => rfl)) (pad_cons (pd_ix (pq_d (pd_v (pv 0))) pd_int (fun _ _ => rfl)) (pad_cons (pd_ix (pq_d (pd_v (pv 1))) pd_int (fun _ _ => rfl)) pad_nil)))))))
    zs_nil)
  (zs_cons (z_if (pb_c (pc_in (pd_v (pv 2)) (pq_d (pd_tup (pad_cons pd_str (pad_cons pd_str pad_nil))))) rfl)
    (zs_one (z_ret kvD (pd_tup (pad_cons (pd_v (pv 2)) (pad_cons (pd_ix (pq_d (pd_v (pv 0))) pd_int (fun _ _ => rfl)) (pad_cons (pd_ix (pq_d (pd_v (pv 1))) pd_int (fun _ _ => rfl)) (pad_cons (pd_ix (pq_d (pd_v (pv 1))) pd_int (fun _ _ => rfl)) pad_nil)))))))
    zs_nil)
  (zs_one (z_ret kvD (pd_cat (pd_tup (pad_cons (pd_v (pv 2)) pad_nil)) (pd_tupleD (by rfl) m_tuple (pd_v (pv 1)))))))))))), ?_⟩
  rintro pvs Q ⟨t, us, rfl, hl, q⟩
  have hp := (with_ok t us hl).1
  have hk := kids_le t
  rw [← hl] at hk
  rw [T.shape]
  have hk : (us.map T.d).length ≤ 3 := by rw [List.length_map]; exact hk
  generalize sortOf t = s at hp ⊢
  generalize rest t = r at hp ⊢
  generalize us.map T.d = ss at hp hk ⊢
  generalize (t.put us).d = res at hp q
  unfold withF at hp
  refine sq_set (gv_t0 (gv_qt (gv_v 0 rfl))) ?_
  refine sq_if (gv_b (gv_in (gv_v 2 rfl) (gv_qt (gv_c (d := PyData.tuple PLN))) rfl rfl)) (fun h => ?_) fun h => ?_
  · rw [if_pos (show inF (.str s) PLN = true from h)] at hp
    cases hp
    exact st_ret (gv_v 0 rfl) q
  rw [if_neg (by rw [show inF (.str s) PLN = false from h]; decide)] at hp
  refine sq_if (gv_b (gv_eq (gv_v 2 rfl) gv_c rfl)) (fun h => ?_) fun h => ?_
  · rw [if_pos (of_decide_eq_true h)] at hp
    split at hp
    · rename_i a bs
      cases hp
      have g := gv_slT (ρ := (startE N_with_parts.length [.imm (tg s r), .imm (.tuple (a :: bs))]).set 2 (some (.imm (.str s)))) (gv_v 1 rfl) (gv_part (gv_c (d := PyData.int 1))) (gv_c (d := none))
      rw [cut1] at g
      exact st_ret (gv_tup (gv_cons gv_c (gv_cons (gv_t0 (gv_qt (gv_v 1 rfl))) (gv_cons (gv_tupleD g) gv_nil)))) q
    · cases hp
  rw [if_neg (of_decide_eq_false h)] at hp
  refine sq_if (gv_b (gv_eq (gv_v 2 rfl) gv_c rfl)) (fun h => ?_) fun h => ?_
  · rw [if_pos (of_decide_eq_true h)] at hp
    split at hp
    · cases hp
      exact st_ret (gv_tup (gv_cons gv_c (gv_cons (gv_t1 (gv_qt (gv_v 0 rfl))) (gv_cons (gv_t0 (gv_qt (gv_v 1 rfl))) gv_nil)))) q
    · cases hp
  rw [if_neg (of_decide_eq_false h)] at hp
  refine sq_if (gv_b (gv_eq (gv_v 2 rfl) gv_c rfl)) (fun h => ?_) fun h => ?_
  · rw [if_pos (of_decide_eq_true h)] at hp
    split at hp
    · cases hp
      exact st_ret (gv_tup (gv_cons gv_c (gv_cons (gv_t0 (gv_qt (gv_v 1 rfl))) (gv_cons (gv_t2 (gv_qt (gv_v 0 rfl))) (gv_cons (gv_t1 (gv_qt (gv_v 1 rfl))) gv_nil))))) q
    · cases hp
  rw [if_neg (of_decide_eq_false h)] at hp
  refine sq_if (gv_b (gv_in (gv_v 2 rfl) (gv_qt (gv_tup (gv_cons gv_c (gv_cons gv_c gv_nil)))) rfl rfl)) (fun h => ?_) fun h => ?_
  · rw [if_pos (show inF (.str s) LOP = true from h)] at hp
    split at hp
    · cases hp
      exact st_ret (gv_tup (gv_cons (gv_v 2 rfl) (gv_cons (gv_t1 (gv_qt (gv_v 0 rfl))) (gv_cons (gv_t0 (gv_qt (gv_v 1 rfl))) (gv_cons (gv_t1 (gv_qt (gv_v 1 rfl))) gv_nil))))) q
    · cases hp
  rw [if_neg (by rw [show inF (.str s) LOP = false from h]; decide)] at hp
  cases hp
  refine st_ret (gv_catT (gv_tup (gv_cons (gv_v 2 rfl) gv_nil)) (gv_tupleD (gv_v 1 rfl)) ?_) q
  show 1 + _ ≤ _
  exact line3 (by omega)
def tfBound : PF := fun _ pvs Q => ∃ (t : T) (i : Nat), pvs = [.imm t.d, .imm (.int (i : Nat))] ∧ (t.bnd i).length ≤ 10 ∧ Q (.imm (.tuple ((t.bnd i).map PyData.str)))
theorem M_bound_in : MonoF tfBound := fun _ _ _ _ h ⟨t, i, e, l, q⟩ => ⟨t, i, e, l, h _ q⟩
theorem ok_bound_in (F : Fun K "bound_in" "bound_in" s_bound_in f fd) (m_tuple : mg "tuple" = none) : FnOk P w K mg base CX0 1 f fd ["tree", "at"] (Prm K tfBound) := by
  refine okP F sc_bound_in (fun _ _ _ ⟨_, _, e, _⟩ => by rw [e] <;> rfl) fun cdv A outer s H E e hr => ?_
  refine ⟨_, (zs_cons (z_if (pb_c (pc_eq (pd_ix (pq_d (pd_v (pv 0))) pd_int (fun _ _ => rfl)) pd_str) (nomark _))
    (zs_one (z_ret kvD (pd_tuple (by rfl) m_tuple (pq_n (pn_lc (own := [("name", 2), ("_", 3)]) rfl sc_bound_in.nd (pi_t (pd_ix (pq_d (pd_v (pv 0))) pd_int (fun _ _ => rfl))) (blkOk_by (own := [("name", 2), ("_", 3)]) (N := N_bound_in) (sc := defScope s_bound_in) (by decide +kernel)) (fun _ _ _ _ _ => (y_tup (n := 2) (by rfl) (ys_cons (y_name (pg_name (i := 2) sc_bound_in.nd rfl (.inl rfl))) (ys_cons (y_name (pg_name (i := 3) sc_bound_in.nd rfl (.inl rfl))) ys_nil)))) (fun _ _ _ _ _ => px_yes) (fun _ _ _ _ _ => (pd_v (pv 2))) (by decide))))))
    zs_nil)
  (zs_cons (z_if (pb_w (pw_a (pb_c (pc_eq (pd_ix (pq_d (pd_v (pv 0))) pd_int (fun _ _ => rfl)) pd_str) (nomark _)) (pw_a1 (pb_c (pc_eq (pd_v (pv 1)) pd_int) (nomark _)))))
    (zs_one (z_ret kvD (pd_tup (pad_cons (pd_ix (pq_d (pd_v (pv 0))) pd_int (fun _ _ => rfl)) pad_nil))))
    zs_nil)
  (zs_cons (z_if (pb_w (pw_a (pb_c (pc_eq (pd_ix (pq_d (pd_v (pv 0))) pd_int (fun _ _ => rfl)) pd_str) (nomark _)) (pw_a1 (pb_c (pc_eq (pd_v (pv 1)) pd_int) (nomark _)))))
    (zs_one (z_ret kvD (pd_tup (pad_cons (pd_ix (pq_d (pd_v (pv 0))) pd_int (fun _ _ => rfl)) pad_nil))))
    zs_nil)
  (zs_one (z_ret kvD (pd_tup pad_nil)))))), ?_⟩
  rintro pvs Q ⟨t, i, rfl, hl, q⟩
  have hb := bnd_ok t i
  have hps := fn_shape t
  rw [T.shape]
  have hl : ((t.bnd i).map PyData.str).length ≤ 10 := by rw [List.length_map]; exact hl
  generalize sortOf t = s at hb hps ⊢
  generalize rest t = r at hb hps ⊢
  generalize (t.bnd i).map PyData.str = res at hb q hl
  unfold bndF at hb
  refine sq_if (gv_b (gv_eq (gv_t0 (gv_qt (gv_v 0 rfl))) gv_c rfl)) (fun h => ?_) fun h => ?_
  · obtain ⟨ps, a, rfl⟩ := hps (of_decide_eq_true h)
    rw [if_pos (of_decide_eq_true h)] at hb
    have hb := Option.some.inj hb
    have g := gv_lcM (ρ := startE N_bound_in.length [.imm (tg s [.tuple (ps.map parD), a]), .imm (.int (i : Nat))]) (g := yTup 2 (yCons (yName 2) (yCons (yName 3) yNil))) (te := xV 2) (vs := [2, 3]) fstD (gv_iT (gv_t1 (gv_qt (gv_v 0 rfl)))) (line3 (by rw [← hb, List.length_map] at hl; omega)) fun j d hd => by
      rw [List.getElem?_map] at hd
      obtain ⟨p, _, rfl⟩ := Option.map_eq_some_iff.mp hd
      exact ⟨_, gt_tup2, gv_v 2 rfl⟩
    rw [hb] at g
    exact st_ret (gv_tuple (gv_nq g)) q
  rw [if_neg (of_decide_eq_false h)] at hb
  refine sq_if (gv_and (gv_b (gv_eq (gv_t0 (gv_qt (gv_v 0 rfl))) gv_c rfl)) (fun _ => gv_b (gv_eq (gv_v 1 rfl) gv_c rfl))) (fun h => ?_) fun h => ?_
  · obtain ⟨h1, h2⟩ := Bool.and_eq_true_iff.mp h
    rw [if_pos ⟨of_decide_eq_true h1, of_decide_eq_true h2⟩] at hb
    split at hb
    · cases hb
      exact st_ret (gv_tup (gv_cons (gv_t1 (gv_qt (gv_v 0 rfl))) gv_nil)) q
    · cases hb
  rw [if_neg (fun z => by
    have h : (decide (s = _) && decide ((i : Int) = 1)) = false := h
    rw [decide_eq_true z.1, decide_eq_true z.2] at h
    cases h)] at hb
  refine sq_if (gv_and (gv_b (gv_eq (gv_t0 (gv_qt (gv_v 0 rfl))) gv_c rfl)) (fun _ => gv_b (gv_eq (gv_v 1 rfl) gv_c rfl))) (fun h => ?_) fun h => ?_
  · obtain ⟨h1, h2⟩ := Bool.and_eq_true_iff.mp h
    rw [if_pos ⟨of_decide_eq_true h1, of_decide_eq_true h2⟩] at hb
    split at hb
    · cases hb
      exact st_ret (gv_tup (gv_cons (gv_t2 (gv_qt (gv_v 0 rfl))) gv_nil)) q
    · cases hb
  rw [if_neg (fun z => by
    have h : (decide (s = _) && decide ((i : Int) = 1)) = false := h
    rw [decide_eq_true z.1, decide_eq_true z.2] at h
    cases h)] at hb
  cases hb
  exact st_ret (gv_tup gv_nil) q
end
end K5
set_option Elab.async false
set_option linter.all false
set_option maxRecDepth 100000
set_option maxHeartbeats 8000000
set_option pp.maxSteps 900
namespace K5
open PySem PySem.Spec PyProof.Rows L2 PL
-- _law_parts: topS 18; slots [(0, 'tree'), (1, 'where'), (2, 'k')]; own ['where']
abbrev s__law_parts : Stmt := topS 18
abbrev N__law_parts : List Str := ["tree", "where", "k"]
theorem sc__law_parts : FnScope N__law_parts ["tree"] (defScope s__law_parts) := ⟨rfl, rfl, rfl, by decide +kernel, rfl, by decide +kernel, by decide +kernel⟩
-- tree_at: topS 4; slots [(0, 'program'), (1, 'address'), (2, 'tree'), (3, 'at')]; own []
abbrev s_tree_at : Stmt := topS 4
abbrev N_tree_at : List Str := ["program", "address", "tree", "at"]
theorem sc_tree_at : FnScope N_tree_at ["program", "address"] (defScope s_tree_at) := ⟨rfl, rfl, rfl, by decide +kernel, rfl, by decide +kernel, by decide +kernel⟩
-- size_of: topS 8; slots [(0, 'tree'), (1, 'told'), (2, 'wait'), (3, 'one')]; own ['wait']
abbrev s_size_of : Stmt := topS 8
abbrev N_size_of : List Str := ["tree", "told", "wait", "one"]
theorem sc_size_of : FnScope N_size_of ["tree"] (defScope s_size_of) := ⟨rfl, rfl, rfl, by decide +kernel, rfl, by decide +kernel, by decide +kernel⟩
abbrev il (l : List Nat) : D := .list (l.map fun (k : Nat) => PyData.int (k : Nat))
abbrev WH0 : List (Key × D) := [(.inr "op", il [2, 3]), (.inr "and", il [1, 2]), (.inr "or", il [1, 2]), (.inr "not", il [1]), (.inr "raise", il [1]), (.inr "len", il [1]), (.inr "print", il [1]), (.inr "if", il [1, 2, 3]), (.inr "let", il [2, 3])]
abbrev WH : List (Key × D) := putAll (mergeD [] WH0) ["try", "fn", "array", "get", "set", "seq"] [il [1, 3], il [2], il [1, 2], il [1, 2], il [1, 2, 3], il [1, 2]]
def pickD (l : List D) : D → D
  | .int k => l.getD k.toNat .none
  | _ => .none
theorem pick_all (l : List D) (is : List Nat) : (is.map fun (k : Nat) => PyData.int (k : Nat)).map (pickD l) = is.map fun k => l.getD k .none := by
  rw [List.map_map]
  rfl
def ixsOf : T → List Nat
  | .n0 _ => []
  | .n1 (.fn _) _ => [2] | .n1 _ _ => [1]
  | .n2 (.op _) _ _ => [2, 3] | .n2 (.let _) _ _ => [2, 3] | .n2 (.try _) _ _ => [1, 3] | .n2 _ _ _ => [1, 2]
  | .n3 _ _ _ _ => [1, 2, 3]
theorem where_ok (t : T) (h : sortOf t ≠ "call") : (valD WH (.inr (sortOf t))).getD (.list []) = il (ixsOf t) := by
  match t with
  | .n0 q => cases q <;> rfl
  | .n1 q a => cases q <;> first | rfl | exact absurd rfl h
  | .n2 q a b => cases q <;> first | rfl | exact absurd rfl h
  | .n3 q a b c => cases q <;> first | rfl | exact absurd rfl h
theorem ixs_ok (t : T) (h : sortOf t ≠ "call") : (ixsOf t).map (fun k => (PyData.str (sortOf t) :: rest t).getD k .none) = t.kids.map T.d ∧ ∀ k ∈ ixsOf t, k < (PyData.str (sortOf t) :: rest t).length := by
  match t with
  | .n0 q => cases q <;> exact ⟨rfl, fun k hk => by cases hk⟩
  | .n1 q a => cases q <;> first | exact absurd rfl h | exact ⟨rfl, of_decide_eq_true rfl⟩
  | .n2 q a b => cases q <;> first | exact absurd rfl h | exact ⟨rfl, of_decide_eq_true rfl⟩
  | .n3 q a b c => cases q <;> first | exact absurd rfl h | exact ⟨rfl, of_decide_eq_true rfl⟩
theorem call_ok (t : T) (h : sortOf t = "call") : ∃ a bs, rest t = [a, .tuple bs] ∧ t.kids.map T.d = a :: bs := by
  match t with
  | .n0 q => cases q <;> exact absurd h (of_decide_eq_false rfl)
  | .n1 q a => cases q <;> first | exact ⟨_, _, rfl, rfl⟩ | exact absurd h (of_decide_eq_false rfl)
  | .n2 q a b => cases q <;> first | exact ⟨_, _, rfl, rfl⟩ | exact absurd h (of_decide_eq_false rfl)
  | .n3 q a b c => cases q <;> first | exact ⟨_, _, rfl, rfl⟩ | exact absurd h (of_decide_eq_false rfl)
section
variable {P : Program} {w : World} {K : PySem.W.Frag} {mg : Str → Option Value} {base : Heap} {f aP fp : Addr} {fd fdp : FuncData}
theorem M__law_parts : MonoF tfParts := M_parts
theorem ok__law_parts (F : Fun K "_law_parts" "_law_parts" s__law_parts f fd) (m_tuple : mg "tuple" = none) : FnOk P w K mg base CX0 1 f fd ["tree"] (Prm K tfParts) := by
  refine okP F sc__law_parts (fun _ _ _ ⟨_, e, _⟩ => by rw [e] <;> rfl) fun cdv A outer s H E e hr => ?_
  refine ⟨_, (zs_cons (z_set (i := 1) kvN sc__law_parts.nd rfl (.inl rfl) (pn_disp (pp_cons pd_str (pd_n (pn_lst (pad_cons pd_int (pad_cons pd_int pad_nil)))) (pp_cons pd_str (pd_n (pn_lst (pad_cons pd_int (pad_cons pd_int pad_nil)))) (pp_cons pd_str (pd_n (pn_lst (pad_cons pd_int (pad_cons pd_int pad_nil)))) (pp_cons pd_str (pd_n (pn_lst (pad_cons pd_int pad_nil))) (pp_cons pd_str (pd_n (pn_lst (pad_cons pd_int pad_nil))) (pp_cons pd_str (pd_n (pn_lst (pad_cons pd_int pad_nil))) (pp_cons pd_str (pd_n (pn_lst (pad_cons pd_int pad_nil))) (pp_cons pd_str (pd_n (pn_lst (pad_cons pd_int (pad_cons pd_int (pad_cons pd_int pad_nil))))) (pp_cons pd_str (pd_n (pn_lst (pad_cons pd_int (pad_cons pd_int pad_nil)))) pp_nil))))))))) rfl rfl nofun (by decide)))
  (zs_cons (z_puts (ks := ["try", "fn", "array", "get", "set", "seq"]) rfl (pd_tup (pad_cons (pd_n (pn_lst (pad_cons pd_int (pad_cons pd_int pad_nil)))) (pad_cons (pd_n (pn_lst (pad_cons pd_int pad_nil))) (pad_cons (pd_n (pn_lst (pad_cons pd_int (pad_cons pd_int pad_nil)))) (pad_cons (pd_n (pn_lst (pad_cons pd_int (pad_cons pd_int pad_nil)))) (pad_cons (pd_n (pn_lst (pad_cons pd_int (pad_cons pd_int (pad_cons pd_int pad_nil))))) (pad_cons (pd_n (pn_lst (pad_cons pd_int (pad_cons pd_int pad_nil)))) pad_nil))))))) (gd_cons hr.units (pv 1) (gd_cons hr.units (pv 1) (gd_cons hr.units (pv 1) (gd_cons hr.units (pv 1) (gd_cons hr.units (pv 1) (gd_cons hr.units (pv 1) gd_nil)))))))
  (zs_cons (z_if (pb_c (pc_eq (pd_ix (pq_d (pd_v (pv 0))) pd_int (fun _ _ => rfl)) pd_str) (nomark _))
    (zs_one (z_ret kvD (pd_cat (pd_tup (pad_cons (pd_ix (pq_d (pd_v (pv 0))) pd_int (fun _ _ => rfl)) pad_nil)) (pd_ix (pq_d (pd_v (pv 0))) pd_int (fun _ _ => rfl)))))
    zs_nil)
  (zs_one (z_ret kvD (pd_tuple (by rfl) m_tuple (pq_n (pn_lc (own := [("k", 2)]) rfl sc__law_parts.nd (pi_l (pd_dget2_v hr.units (pv 1) (pd_ix (pq_d (pd_v (pv 0))) pd_int (fun _ _ => rfl)) (pd_n (pn_lst pad_nil)) ⟨rfl, rfl, rfl, rfl⟩)) (blkOk_by (own := [("k", 2)]) (N := N__law_parts) (sc := defScope s__law_parts) (by decide +kernel)) (fun _ _ _ _ _ => (y_name (pg_name (i := 2) sc__law_parts.nd rfl (.inl rfl)))) (fun _ _ _ _ _ => px_yes) (fun _ _ _ _ _ => (pd_ix (pq_d (pd_v (pv 0))) (pd_v (pv 2)) (fun _ _ => rfl))) (by decide))))))))), ?_⟩
  rintro pvs Q ⟨t, rfl, q⟩
  have hw := where_ok t
  have hi := ixs_ok t
  have hc := call_ok t
  have hl : (t.kids.map T.d).length ≤ 10 := by rw [List.length_map]; have := kids_le t; omega
  have hil : (ixsOf t).length ≤ 10 := by
    match t with
    | .n0 _ => exact Nat.le_of_ble_eq_true rfl
    | .n1 q _ => cases q <;> exact Nat.le_of_ble_eq_true rfl
    | .n2 q _ _ => cases q <;> exact Nat.le_of_ble_eq_true rfl
    | .n3 q _ _ _ => exact Nat.le_of_ble_eq_true rfl
  rw [T.shape]
  generalize sortOf t = s at hw hi hc ⊢
  generalize rest t = r at hi hc ⊢
  generalize t.kids.map T.d = ks at hi hc q hl
  generalize ixsOf t = is at hw hi hil
  refine sq_setO (gv_disp (kvs := WH0) ?_) ?_
  · have g : ∀ {ρ : Ev} {m n : Int}, Gv (xND (xLst (xCons (xC (PyData.int m)) (xCons (xC (PyData.int n)) (xC []))))) ρ (.list [.int m, .int n]) := gv_nd (gv_lst (gv_cons gv_c (gv_cons gv_c gv_nil)))
    have g1 : ∀ {ρ : Ev} {m : Int}, Gv (xND (xLst (xCons (xC (PyData.int m)) (xC [])))) ρ (.list [.int m]) := gv_nd (gv_lst (gv_cons gv_c gv_nil))
    exact gp_cons gv_c g (gp_cons gv_c g (gp_cons gv_c g (gp_cons gv_c g1 (gp_cons gv_c g1 (gp_cons gv_c g1 (gp_cons gv_c g1 (gp_cons gv_c (gv_nd (gv_lst (gv_cons gv_c (gv_cons gv_c (gv_cons gv_c gv_nil))))) (gp_cons gv_c g gp_nil))))))))
  refine sq_puts (kvs := mergeD [] WH0) (ds := [il [1, 3], il [2], il [1, 2], il [1, 2], il [1, 2, 3], il [1, 2]]) ?_ rfl rfl (by decide +kernel) ?_
  · have g : ∀ {ρ : Ev} {m n : Int}, Gv (xND (xLst (xCons (xC (PyData.int m)) (xCons (xC (PyData.int n)) (xC []))))) ρ (.list [.int m, .int n]) := gv_nd (gv_lst (gv_cons gv_c (gv_cons gv_c gv_nil)))
    exact gv_tup (gv_cons g (gv_cons (gv_nd (gv_lst (gv_cons gv_c gv_nil))) (gv_cons g (gv_cons g (gv_cons (gv_nd (gv_lst (gv_cons gv_c (gv_cons gv_c (gv_cons gv_c gv_nil))))) (gv_cons g gv_nil))))))
  refine sq_if (gv_b (gv_eq (gv_t0 (gv_qt (gv_v 0 rfl))) gv_c rfl)) (fun h => ?_) fun h => ?_
  · obtain ⟨a, bs, rfl, rfl⟩ := hc (of_decide_eq_true h)
    refine st_ret (gv_catT (gv_tup (gv_cons (gv_t1 (gv_qt (gv_v 0 rfl))) gv_nil)) (gv_t2 (gv_qt (gv_v 0 rfl))) ?_) q
    show 1 + _ ≤ _
    rw [List.length_cons] at hl
    exact line3 (by omega)
  have hn : s ≠ "call" := of_decide_eq_false h
  obtain ⟨h1, h2⟩ := hi hn
  refine st_ret (d := .tuple ks) (gv_tuple (gv_nq ?_)) q
  have gd := gv_dget2 (ρ := ((startE N__law_parts.length [.imm (tg s r)]).set 1 (some (.own (.dic WH))))) (kk := .inr s) 1 rfl (gv_t0 (gv_qt (gv_v 0 rfl))) (gv_nd (gv_lst gv_nil))
  rw [hw hn] at gd
  have g := gv_lcM (g := yName 2) (te := xBin rdIx (xQ (xV 0)) (xV 2)) (vs := [2]) (pickD (PyData.str s :: r)) (gv_iL gd) (line3 (by rw [List.length_map]; omega)) fun j d hd => by
    rw [List.getElem?_map] at hd
    obtain ⟨k, hk, rfl⟩ := Option.map_eq_some_iff.mp hd
    refine ⟨_, gt_name, gv_ix (gv_qt (gv_v 0 rfl)) (gv_v 2 rfl) (atI_nat (j := k) ?_)⟩
    have hlt := h2 k (List.mem_of_getElem? hk)
    rw [List.getElem?_eq_getElem hlt]
    show some _ = some ((PyData.str s :: r).getD k .none)
    rw [List.getD_eq_getElem?_getD, List.getElem?_eq_getElem hlt]
    rfl
  rw [pick_all, h1] at g
  exact g
end
end K5
set_option Elab.async false
set_option linter.all false
set_option maxRecDepth 100000
set_option maxHeartbeats 8000000
set_option pp.maxSteps 900
namespace K5
open PySem PySem.Spec PyProof.Rows L2 PL
def defD (p : Str × T) : D := .tuple [.str p.1, .tuple [], .str "int", p.2.d]
def prD (ps : List (Str × T)) : D := .tuple (ps.map defD)
def T.at : T → List Nat → Option T
  | t, [] => some t
  | t, i :: r => match t.kids[i]? with | some c => c.at r | none => none
def szs (l : List T) : Nat := (l.map T.sz).sum
theorem sz_kids (t : T) : t.sz = 1 + szs t.kids := by
  cases t <;> simp [T.sz, T.kids, szs] <;> omega
theorem szs_app (l m : List T) : szs (l ++ m) = szs l + szs m := by simp [szs]
theorem sz_pos (t : T) : 1 ≤ t.sz := by rw [sz_kids]; omega
theorem szs_len (l : List T) : l.length ≤ szs l := by
  induction l with
  | nil => exact Nat.le_refl _
  | cons t l ih =>
    have := sz_pos t
    show l.length + 1 ≤ (t.sz :: l.map T.sz).sum
    rw [List.sum_cons]
    show l.length + 1 ≤ t.sz + szs l
    omega
section
variable {P : Program} {w : World} {K : PySem.W.Frag} {mg : Str → Option Value} {base : Heap} {f aP fp : Addr} {fd fdp : FuncData}
def tfTreeAt : PF := fun _ pvs Q => ∃ (ps : List (Str × T)) (i : Nat) (r : List Nat) (n : Str) (t u : T), pvs = [.imm (prD ps), .imm (adD (i :: r))] ∧ ps[i]? = some (n, t) ∧ t.at r = some u ∧ r.length ≤ 1000000 ∧ Q (.imm u.d)
theorem M_tree_at : MonoF tfTreeAt := fun _ _ _ _ h ⟨ps, i, r, n, t, u, e, a, b, c, q⟩ => ⟨ps, i, r, n, t, u, e, a, b, c, h _ q⟩
theorem ok_tree_at (F : Fun K "tree_at" "tree_at" s_tree_at f fd) (G_parts : FnOk P w K mg base CX0 1 fp fdp ["tree"] (Prm K tfParts)) (g_parts : mg "parts" = some (.ref fp)) (F_parts : Fun K "parts" "parts" s_parts fp fdp) (b_parts : Binds K fdp ["tree"] []) : FnOk P w K mg base CX0 2 f fd ["program", "address"] (Prm K tfTreeAt) := by
  refine okP F sc_tree_at (fun _ _ _ ⟨_, _, _, _, _, _, e, _⟩ => by rw [e] <;> rfl) fun cdv A outer s H E e hr => ?_
  refine ⟨_, (zs_cons (z_set (i := 2) kvD sc_tree_at.nd rfl (.inl rfl) (pd_ix (pq_d (pd_ix (pq_d (pd_v (pv 0))) (pd_ix (pq_d (pd_v (pv 1))) pd_int (fun _ _ => rfl)) (fun _ _ => rfl))) pd_int (fun _ _ => rfl)))
  (zs_cons (z_for PassesOwn.never rfl (pi_t (pd_slT (pd_v (pv 1)) (pod_some pd_int) pod_none)) (y_name (pg_name (i := 3) sc_tree_at.nd rfl (.inl rfl)))
    (zs_one (z_set (i := 2) kvD sc_tree_at.nd rfl (.inl rfl) (pd_ix (pq_d (pd_call M_parts G_parts (hr.mono (by omega)) (by rfl) g_parts F_parts.kp b_parts pass0 (pav_d (pd_v (pv 2)) pav_nil))) (pd_v (pv 3)) (fun _ _ => rfl)))))
  (zs_one (z_ret kvD (pd_v (pv 2)))))), ?_⟩
  rintro pvs Q ⟨ps, i, r, n, t, u, rfl, hi, ha, hl, q⟩
  have hip : (ps.map defD)[i]? = some (defD (n, t)) := by rw [List.getElem?_map, hi] <;> rfl
  refine sq_set (gv_t3 (gv_qt (gv_ix (gv_qt (gv_v 0 rfl)) (gv_t0 (gv_qt (gv_v 1 rfl))) (atI_nat hip)))) ?_
  refine sq_forI (it := r.map nat) (fun k ρ => ∃ (v : T) (x : Option PV), ρ = [some (.imm (prD ps)), some (.imm (adD (i :: r))), some (.imm v.d), x] ∧ v.at (r.drop k) = some u) (gv_iT ?_) ⟨t, none, rfl, ha⟩ (fun k d ρ R hk hI hR => ?_) fun ρ hI => ?_
  · have g := gv_slT (ρ := (startE N_tree_at.length [.imm (prD ps), .imm (adD (i :: r))]).set 2 (some (.imm t.d))) (gv_v 1 rfl) (gv_part (gv_c (d := PyData.int 1))) (gv_c (d := none))
    rw [List.map_cons, cut1] at g
    exact g
  · obtain ⟨v, x, rfl, hv⟩ := hI
    rw [List.getElem?_map] at hk
    obtain ⟨j, hj, rfl⟩ := Option.map_eq_some_iff.mp hk
    have hdr : r.drop k = j :: r.drop (k + 1) := by
      have hlt := (List.getElem?_eq_some_iff.mp hj).1
      rw [List.drop_eq_getElem_cons hlt, (List.getElem?_eq_some_iff.mp hj).2]
    rw [hdr] at hv
    unfold T.at at hv
    split at hv
    · rename_i c hc
      refine ⟨_, gt_name, ?_⟩
      refine st_set (gv_ix (gv_qt (gv_call (gv_vc (gv_v 2 rfl) gv_v0) fun Q q => ⟨v, rfl, q⟩)) (gv_v 3 rfl) (atI_nat (j := j) (by rw [List.getElem?_map, hc] <;> rfl))) ?_
      exact hR _ ⟨c, _, rfl, hv⟩
    · cases hv
  · obtain ⟨v, x, rfl, hv⟩ := hI
    rw [List.length_map, List.drop_length] at hv
    unfold T.at at hv
    cases hv
    exact st_ret (gv_v 2 rfl) q
def tfSize : PF := fun _ pvs Q => ∃ t : T, pvs = [.imm t.d] ∧ t.sz ≤ 1000000 ∧ Q (.imm (nat t.sz))
theorem M_size_of : MonoF tfSize := fun _ _ _ _ h ⟨t, e, a, q⟩ => ⟨t, e, a, h _ q⟩
theorem ok_size_of (F : Fun K "size_of" "size_of" s_size_of f fd) (m_list : mg "list" = none) (G_parts : FnOk P w K mg base CX0 1 fp fdp ["tree"] (Prm K tfParts)) (g_parts : mg "parts" = some (.ref fp)) (F_parts : Fun K "parts" "parts" s_parts fp fdp) (b_parts : Binds K fdp ["tree"] []) : FnOk P w K mg base CX0 2 f fd ["tree"] (Prm K tfSize) := by
  refine okP F sc_size_of (fun _ _ _ ⟨_, e, _⟩ => by rw [e] <;> rfl) fun cdv A outer s H E e hr => ?_
  refine ⟨_, (zs_cons (z_par (i := 1) (j := 2) kvD kvN (by rfl) sc_size_of.nd rfl rfl (by decide) rfl rfl pd_int (pn_lst (pad_cons (pd_v (pv 0)) pad_nil)) (by rfl))
  (zs_cons (z_while PassesOwn.never (pb_trq (pq_v (pv 2)) (by intro _; rfl))
    (zs_cons (z_popN (g := yName 0) (j := 3) sc_size_of.nd rfl (.inl rfl) (pv 2))
    (zs_cons (z_set (i := 1) kvD sc_size_of.nd rfl (.inl rfl) (pd_add (pd_v (pv 1)) pd_int))
    (zs_one (z_set (i := 2) kvN sc_size_of.nd rfl (.inl rfl) (pn_cat (pq_v (pv 2)) (pq_n (pn_list (by rfl) m_list (pq_d (pd_call M_parts G_parts (hr.mono (by omega)) (by rfl) g_parts F_parts.kp b_parts pass0 (pav_d (pd_v (pv 3)) pav_nil)))))))))))
  (zs_one (z_ret kvD (pd_v (pv 1)))))), ?_⟩
  rintro pvs Q ⟨t, rfl, hl, q⟩
  refine sq_par gv_c (gv_lst (gv_cons (gv_v 0 rfl) gv_nil)) ?_
  refine sq_while (fun m ρ => ∃ (n : Nat) (l : List T) (x : Option PV), ρ = [some (.imm t.d), some (.imm (nat n)), some (.own (.lst (l.map T.d))), x] ∧ m = szs l ∧ n + m = t.sz) ⟨0, [t], none, rfl, rfl, by simp [szs]⟩ fun m ρ hW => ?_
  obtain ⟨n, l, x, rfl, rfl, hn⟩ := hW
  refine ⟨_, gv_trq (gv_vq 2 rfl), fun h => ?_, fun h => ?_⟩
  · obtain ⟨l', u, rfl⟩ : ∃ l' u, l = l' ++ [u] := by
      rcases List.eq_nil_or_concat l with rfl | ⟨l', u, e⟩
      · cases h
      · exact ⟨l', u, by rw [e, List.concat_eq_append]⟩
    rw [List.map_append]
    refine sq_pop rfl ?_
    refine sq_set (gv_i0 (gv_v 1 rfl) gv_c) ?_
    rw [szs_app] at hn ⊢
    have hu : szs [u] = 1 + szs u.kids := by rw [← sz_kids]; simp [szs]
    have hl2 := szs_len (l' ++ u.kids)
    rw [szs_app, List.length_append] at hl2
    refine st_setO (gv_catL (gv_vq 2 rfl) (gv_nq (gv_list (gv_qt (gv_call (gv_vc (gv_v 3 rfl) gv_v0) fun Q q => ⟨u, rfl, q⟩)))) (line3 (by simp only [List.length_map]; omega))) ?_
    refine ⟨szs (l' ++ u.kids), by rw [szs_app]; omega, n + 1, l' ++ u.kids, some (.imm u.d), ?_, rfl, by rw [szs_app]; omega⟩
    rw [List.map_append]
    rfl
  · obtain rfl : l = [] := by
      cases l with
      | nil => rfl
      | cons _ _ => cases h
    have e : n = t.sz := by simpa [szs] using hn
    rw [← e] at q
    exact st_ret (gv_v 1 rfl) q
end
end K5
set_option Elab.async false
set_option linter.all false
set_option maxRecDepth 100000
set_option maxHeartbeats 8000000
set_option pp.maxSteps 900
namespace K5
open PySem PySem.Spec PyProof.Rows L2 PL
-- addresses: topS 7; slots [(0, 'program'), (1, 'told'), (2, 'wait'), (3, 'address'), (4, 'tree'), (5, 'at'), (6, 'one'), (7, 'part')]; own ['told', 'wait']
abbrev s_addresses : Stmt := topS 7
abbrev N_addresses : List Str := ["program", "told", "wait", "address", "tree", "at", "one", "part"]
theorem sc_addresses : FnScope N_addresses ["program"] (defScope s_addresses) := ⟨rfl, rfl, rfl, by decide +kernel, rfl, by decide +kernel, by decide +kernel⟩
-- free_names: topS 6; slots [(0, 'tree'), (1, 'found'), (2, 'at'), (3, 'part'), (4, 'bound'), (5, 'name')]; own []
abbrev s_free_names : Stmt := topS 6
abbrev N_free_names : List Str := ["tree", "found", "at", "part", "bound", "name"]
theorem sc_free_names : FnScope N_free_names ["tree"] (defScope s_free_names) := ⟨rfl, rfl, rfl, by decide +kernel, rfl, by decide +kernel, by decide +kernel⟩
theorem le_szs {t : T} : ∀ {l : List T}, t ∈ l → t.sz ≤ szs l
  | u :: l, h => by
    have e : szs (u :: l) = u.sz + szs l := by simp [szs]
    rcases List.mem_cons.mp h with rfl | h
    · omega
    · have := le_szs h
      omega
/-! depth first -/
abbrev Pt := List Nat × T
def pD (p : Pt) : D := .tuple [adD p.1, p.2.d]
def kw (p : Pt) : List Pt := p.2.kids.zipIdx.map fun c => (p.1 ++ [c.2], c.1)
def ad : List Nat → T → List (List Nat)
  | a, .n0 _ => [a]
  | a, .n1 _ b => a :: ad (a ++ [0]) b
  | a, .n2 _ b c => a :: (ad (a ++ [1]) c ++ ad (a ++ [0]) b)
  | a, .n3 _ b c d => a :: (ad (a ++ [2]) d ++ (ad (a ++ [1]) c ++ ad (a ++ [0]) b))
def ads (l : List Pt) : List (List Nat) := l.reverse.flatMap fun p => ad p.1 p.2
theorem ads_app (l m : List Pt) : ads (l ++ m) = ads m ++ ads l := by
  unfold ads
  rw [List.reverse_append, List.flatMap_append]
theorem ad_kw (a : List Nat) (t : T) : ad a t = a :: ads (kw (a, t)) := by
  cases t <;> simp [ad, kw, ads, T.kids]
theorem ads_one (p : Pt) : ads [p] = ad p.1 p.2 := by simp [ads]
theorem ads_pop (l : List Pt) (p : Pt) : ads (l ++ [p]) = p.1 :: ads (l ++ kw p) := by
  rw [ads_app, ads_one, ads_app]
  obtain ⟨a, t⟩ := p
  rw [ad_kw, List.cons_append]
def szp (l : List Pt) : Nat := szs (l.map (·.2))
theorem szp_app (l m : List Pt) : szp (l ++ m) = szp l + szp m := by
  unfold szp
  rw [List.map_append, szs_app]
theorem kw_snd (p : Pt) : (kw p).map (·.2) = p.2.kids := by
  unfold kw
  rw [List.map_map]
  exact List.zipIdx_map_fst _ _
theorem szp_kw (p : Pt) : szp [p] = 1 + szp (kw p) := by
  unfold szp
  rw [kw_snd, ← sz_kids]
  simp [szs]
theorem szp_len (l : List Pt) : l.length ≤ szp l := by
  have := szs_len (l.map (·.2))
  rwa [List.length_map] at this
/-- the way to a thing is not long -/
def Rm (B : Nat) (p : Pt) : Prop := p.1.length + p.2.sz ≤ B ∧ p.1 ≠ []
theorem rm_kw {B : Nat} {p : Pt} (h : Rm B p) : ∀ c ∈ kw p, Rm B c := fun c hc => by
  unfold kw at hc
  obtain ⟨x, hx, rfl⟩ := List.mem_map.mp hc
  have hk : x.1 ∈ p.2.kids := by
    have := List.mem_map_of_mem (f := Prod.fst) hx
    rwa [List.zipIdx_map_fst] at this
  have h1 := sz_kids p.2
  have h2 : x.1.sz ≤ szs p.2.kids := le_szs hk
  refine ⟨?_, by simp⟩
  have h3 := h.1
  show (p.1 ++ [x.2]).length + x.1.sz ≤ B
  rw [List.length_append, List.length_singleton]
  omega
theorem enumD_zip {α : Type} (h : α → D) (l : List α) : enumD (l.map h) = l.zipIdx.map fun p => .tuple [nat p.2, h p.1] := by
  apply List.ext_getElem?
  intro i
  unfold enumD
  rw [List.getElem?_map, List.getElem?_map, List.length_map, List.getElem?_zipIdx]
  cases hi : l[i]? with
  | none =>
    have : l.length ≤ i := List.getElem?_eq_none_iff.mp hi
    rw [List.getElem?_eq_none (by rw [List.length_range]; exact this)]
    rfl
  | some x =>
    have hlt := (List.getElem?_eq_some_iff.mp hi).1
    rw [List.getElem?_range hlt]
    show some (PyData.tuple [.int (i : Nat), (l.map h).getD i .none]) = some (.tuple [.int ((0 + i : Nat) : Int), h x])
    rw [List.getD_eq_getElem?_getD, List.getElem?_map, hi, Nat.zero_add]
    rfl
def stepD (a : List Nat) : D → D
  | .tuple [i, x] => .tuple [.tuple (a.map nat ++ [i]), x]
  | _ => .none
def initD : D → D
  | .tuple [i, .tuple [_, _, _, x]] => .tuple [.tuple [i], x]
  | _ => .none
theorem step_all (p : Pt) : (enumD (p.2.kids.map T.d)).map (stepD p.1) = (kw p).map pD := by
  rw [enumD_zip, List.map_map]
  unfold kw
  rw [List.map_map]
  apply List.map_congr_left
  intro c _
  show PyData.tuple [.tuple (p.1.map nat ++ [nat c.2]), c.1.d] = .tuple [.tuple ((p.1 ++ [c.2]).map nat), c.1.d]
  rw [List.map_append]
  rfl
def init (ps : List (Str × T)) : List Pt := ps.zipIdx.map fun c => ([c.2], c.1.2)
theorem init_all (ps : List (Str × T)) : (enumD (ps.map defD)).map initD = (init ps).map pD := by
  rw [enumD_zip, List.map_map]
  unfold init
  rw [List.map_map]
  rfl
theorem init_szp (ps : List (Str × T)) : szp (init ps) = szs (ps.map (·.2)) := by
  unfold szp init
  rw [List.map_map]
  congr 1
  show ps.zipIdx.map ((fun p : Str × T => p.2) ∘ Prod.fst) = _
  rw [← List.map_map, List.zipIdx_map_fst]
section
variable {P : Program} {w : World} {K : PySem.W.Frag} {mg : Str → Option Value} {base : Heap} {f aP fp fb : Addr} {fd fdp fdb : FuncData}
theorem inF_texts (x : Str) : ∀ l : List Str, inF (.str x) (l.map PyData.str) = decide (x ∈ l)
  | [] => rfl
  | y :: l => by
    have ih := inF_texts x l
    unfold inF at ih ⊢
    rw [List.map_cons, List.any_cons, ih]
    show (_ || _) = _
    by_cases h : x = y
    · subst h
      simp [eqF]
    · simp [eqF, h, Ne.symm h]
theorem flat_texts (l : List Str) : (l.map PyData.str).all flatD = true := by
  rw [List.all_map, List.all_eq_true]
  intro x _
  rfl
def tfAddr : PF := fun _ pvs Q => ∃ ps : List (Str × T), pvs = [.imm (prD ps)] ∧ szs (ps.map (·.2)) ≤ 100000 ∧ Q (.own (.lst (((ads (init ps)).map adD).mergeSort leD)))
theorem M_addresses : MonoF tfAddr := fun _ _ _ _ h ⟨ps, e, a, q⟩ => ⟨ps, e, a, h _ q⟩
theorem ok_addresses (F : Fun K "addresses" "addresses" s_addresses f fd) (m_enumerate : mg "enumerate" = none) (m_sorted : mg "sorted" = none) (G_parts : FnOk P w K mg base CX0 1 fp fdp ["tree"] (Prm K tfParts)) (g_parts : mg "parts" = some (.ref fp)) (F_parts : Fun K "parts" "parts" s_parts fp fdp) (b_parts : Binds K fdp ["tree"] []) : FnOk P w K mg base CX0 2 f fd ["program"] (Prm K tfAddr) := by
  refine okP F sc_addresses (fun _ _ _ ⟨_, e, _⟩ => by rw [e] <;> rfl) fun cdv A outer s H E e hr => ?_
  refine ⟨_, (zs_cons (z_set (i := 1) kvN sc_addresses.nd rfl (.inl rfl) (pn_lst pad_nil))
  (zs_cons (z_setLc (k1 := kD K e) (pv := PV.imm) (tx := xC PyData.none) (i := 2) (own := [("at", 5), ("one", 6)]) rfl sc_addresses.nd rfl rfl (sw_true rfl rfl rfl (by decide +kernel)) (pi_eT (by rfl) m_enumerate (pd_v (pv 0))) (blkOk_by (own := [("at", 5), ("one", 6)]) (N := N_addresses) (sc := defScope s_addresses) (by decide +kernel)) (fun _ _ _ _ _ => (y_tup (n := 2) (by rfl) (ys_cons (y_name (pg_name (i := 5) sc_addresses.nd rfl (.inl rfl))) (ys_cons (y_name (pg_name (i := 6) sc_addresses.nd rfl (.inl rfl))) ys_nil)))) (fun _ _ _ _ _ => px_yes) (fun _ _ _ _ _ => (pd_tup (pad_cons (pd_tup (pad_cons (pd_v (pv 5)) pad_nil)) (pad_cons (pd_ix (pq_d (pd_v (pv 6))) pd_int (fun _ _ => rfl)) pad_nil)))) (by decide))
  (zs_cons (z_while PassesOwn.never (pb_trq (pq_v (pv 2)) (by intro _; rfl))
    (zs_cons (z_pop (pv 2) (y_tup (n := 2) (by rfl) (ys_cons (y_name (pg_name (i := 3) sc_addresses.nd rfl (.inr rfl))) (ys_cons (y_name (pg_name (i := 4) sc_addresses.nd rfl (.inl rfl))) ys_nil))))
    (zs_cons (z_app (pv 1) (pd_v (pv 3)))
    (zs_one (z_set (i := 2) kvN sc_addresses.nd rfl (.inl rfl) (pn_cat (pq_v (pv 2)) (pq_n (pn_lc (own := [("at", 5), ("part", 7)]) rfl sc_addresses.nd (pi_eT (by rfl) m_enumerate (pd_call M_parts G_parts (hr.mono (by omega)) (by rfl) g_parts F_parts.kp b_parts pass0 (pav_d (pd_v (pv 4)) pav_nil))) (blkOk_by (own := [("at", 5), ("part", 7)]) (N := N_addresses) (sc := defScope s_addresses) (by decide +kernel)) (fun _ _ _ _ _ => (y_tup (n := 2) (by rfl) (ys_cons (y_name (pg_name (i := 5) sc_addresses.nd rfl (.inl rfl))) (ys_cons (y_name (pg_name (i := 7) sc_addresses.nd rfl (.inl rfl))) ys_nil)))) (fun _ _ _ _ _ => px_yes) (fun _ _ _ _ _ => (pd_tup (pad_cons (pd_cat (pd_v (pv 3)) (pd_tup (pad_cons (pd_v (pv 5)) pad_nil))) (pad_cons (pd_v (pv 7)) pad_nil)))) (by decide)))))))))
  (zs_one (z_ret kvN (pn_sorted hr.units (by rfl) m_sorted (by decide +kernel) (pq_v (pv 1)))))))), ?_⟩
  rintro pvs Q ⟨ps, rfl, hl, q⟩
  have hz := init_szp ps
  have hlen := szp_len (init ps)
  have hpl : (init ps).length = ps.length := by unfold init; rw [List.length_map, List.length_zipIdx]
  refine sq_setO (gv_lst gv_nil) ?_
  refine sq_setO (gv_lcM (g := yTup 2 (yCons (yName 5) (yCons (yName 6) yNil))) (te := xTup (xCons (xTup (xCons (xV 5) (xC []))) (xCons (xBin rdIx (xQ (xV 6)) (xC (.int 3))) (xC [])))) (vs := [5, 6]) initD (gv_enT (gv_v 0 rfl)) (line3 (by rw [enumD_len, List.length_map]; omega)) fun i d hd => ?_) ?_
  · obtain ⟨x, hx, rfl⟩ := enumD_get hd
    rw [List.getElem?_map] at hx
    obtain ⟨p, hp, rfl⟩ := Option.map_eq_some_iff.mp hx
    exact ⟨_, gt_tup2, gv_tup (gv_cons (gv_tup (gv_cons (gv_v 5 rfl) gv_nil)) (gv_cons (gv_t3 (gv_qt (gv_v 6 rfl))) gv_nil))⟩
  rw [init_all]
  refine sq_while (fun m ρ => ∃ (done : List (List Nat)) (l : List Pt) (x3 x4 x5 x6 x7 : Option PV), ρ = [some (.imm (prD ps)), some (.own (.lst (done.map adD))), some (.own (.lst (l.map pD))), x3, x4, x5, x6, x7] ∧ m = szp l ∧ done ++ ads l = ads (init ps) ∧ done.length + m = szp (init ps) ∧ (∀ p ∈ l, Rm 200000 p) ∧ ∀ a ∈ done, a ≠ [])
    ⟨[], init ps, none, none, none, none, none, rfl, rfl, rfl, by simp, fun p hp => ?_, fun a ha => by cases ha⟩ fun m ρ hW => ?_
  · unfold init at hp
    obtain ⟨c, hc, rfl⟩ := List.mem_map.mp hp
    have h1 : c.1 ∈ ps := by
      have := List.mem_map_of_mem (f := Prod.fst) hc
      rwa [List.zipIdx_map_fst] at this
    have h2 : c.1.2.sz ≤ szs (ps.map (·.2)) := le_szs (List.mem_map_of_mem h1)
    exact ⟨by show 1 + c.1.2.sz ≤ _; omega, by simp⟩
  obtain ⟨done, l, x3, x4, x5, x6, x7, rfl, rfl, hd, hn, hrm, hne⟩ := hW
  refine ⟨_, gv_trq (gv_vq 2 rfl), fun h => ?_, fun h => ?_⟩
  · obtain ⟨l', p, rfl⟩ : ∃ l' p, l = l' ++ [p] := by
      rcases List.eq_nil_or_concat l with rfl | ⟨l', u, e⟩
      · cases h
      · exact ⟨l', u, by rw [e, List.concat_eq_append]⟩
    have hp := hrm p (List.mem_append_right _ (List.mem_singleton.mpr rfl))
    rw [szp_app, szp_kw] at hn
    have hl2 := szp_len (l' ++ kw p)
    rw [szp_app, List.length_append] at hl2
    have hkl : (kw p).length = p.2.kids.length := by unfold kw; rw [List.length_map, List.length_zipIdx]
    rw [List.map_append]
    refine sq_popG (d := pD p) rfl gt_tup2 ?_
    refine sq_app (xs := done.map adD) (d := adD p.1) rfl (gv_v 3 rfl) (lineL (by rw [List.length_map]; omega)) ?_
    refine st_setO (gv_catL (gv_vq 2 rfl) (gv_nq (gv_lcM (g := yTup 2 (yCons (yName 5) (yCons (yName 7) yNil))) (te := xTup (xCons (xBin rdCatT (xV 3) (xTup (xCons (xV 5) (xC [])))) (xCons (xV 7) (xC [])))) (vs := [5, 7]) (stepD p.1) (gv_enT (gv_call (gv_vc (gv_v 4 rfl) gv_v0) fun Q q => ⟨p.2, rfl, q⟩)) (line3 (by rw [enumD_len, List.length_map]; have := kids_le p.2; omega)) fun i d hd => ?_)) ?_) ?_
    · obtain ⟨x, hx, rfl⟩ := enumD_get hd
      have h3 := hp.1
      exact ⟨_, gt_tup2, gv_tup (gv_cons (gv_catT (gv_v 3 rfl) (gv_tup (gv_cons (gv_v 5 rfl) gv_nil)) (by show (p.1.map nat).length + 1 ≤ _; rw [List.length_map]; exact line3 (by omega))) (gv_cons (gv_v 7 rfl) gv_nil))⟩
    · rw [step_all, List.length_map, List.length_map]
      exact line3 (by omega)
    rw [step_all, ← List.map_append]
    refine ⟨szp (l' ++ kw p), by rw [szp_app, szp_app, szp_kw]; omega, done ++ [p.1], l' ++ kw p, some (.imm (adD p.1)), some (.imm p.2.d), x5, x6, x7, ?_, rfl, ?_, ?_, ?_, ?_⟩
    · simp only [List.map_append]
      rfl
    · rw [← hd, ads_pop, List.append_assoc]
      rfl
    · rw [szp_app, List.length_append, List.length_singleton]
      omega
    · intro c hc
      rcases List.mem_append.mp hc with hc | hc
      · exact hrm c (List.mem_append_left _ hc)
      · exact rm_kw hp c hc
    · intro a ha
      rcases List.mem_append.mp ha with ha | ha
      · exact hne a ha
      · rw [List.mem_singleton.mp ha]
        exact hp.2
  · obtain rfl : l = [] := by
      cases l with
      | nil => rfl
      | cons _ _ => cases h
    have e : done = ads (init ps) := by
      rw [← hd]
      exact (List.append_nil done).symm
    rw [← e] at q
    exact st_retO (fun Q q => gv_vq 1 rfl _ ⟨rfl, ad_alike done, ad_sortable done hne, ad_depth done, q⟩) q
theorem NMS_len : NMS.length = 4 := rfl
def T.few : T → Prop
  | .n0 _ => True
  | .n1 (.fn ps) a => ps.length ≤ 10 ∧ a.few
  | .n1 _ a => a.few
  | .n2 _ a b => a.few ∧ b.few
  | .n3 _ a b c => a.few ∧ b.few ∧ c.few
theorem few_kids {t : T} (h : t.few) : ∀ c ∈ t.kids, c.few := fun c hc => by
  match t, h, hc with
  | .n1 q a, h, hc =>
    obtain rfl := List.mem_singleton.mp hc
    cases q <;> first | exact h | exact h.2
  | .n2 q a b, h, hc =>
    rcases List.mem_cons.mp hc with rfl | hc
    · exact h.1
    · obtain rfl := List.mem_singleton.mp hc
      exact h.2
  | .n3 q a b d, h, hc =>
    rcases List.mem_cons.mp hc with rfl | hc
    · exact h.1
    · rcases List.mem_cons.mp hc with rfl | hc
      · exact h.2.1
      · obtain rfl := List.mem_singleton.mp hc
        exact h.2.2
theorem few_bnd {t : T} (h : t.few) (i : Nat) : (t.bnd i).length ≤ 10 := by
  unfold T.bnd
  split
  · rw [List.length_map]
    exact h.1
  · exact Nat.le_of_ble_eq_true rfl
  · exact Nat.le_of_ble_eq_true rfl
  · exact Nat.zero_le _
theorem dp_kids (t : T) : ∀ c ∈ t.kids, c.dp < t.dp := fun c hc => by
  match t, hc with
  | .n1 q a, hc =>
    obtain rfl := List.mem_singleton.mp hc
    show c.dp < 1 + c.dp
    omega
  | .n2 q a b, hc =>
    show c.dp < 1 + max a.dp b.dp
    rcases List.mem_cons.mp hc with rfl | hc
    · omega
    · obtain rfl := List.mem_singleton.mp hc
      omega
  | .n3 q a b d, hc =>
    show c.dp < 1 + max a.dp (max b.dp d.dp)
    rcases List.mem_cons.mp hc with rfl | hc
    · omega
    · rcases List.mem_cons.mp hc with rfl | hc
      · omega
      · obtain rfl := List.mem_singleton.mp hc
        omega
def Fre (t : T) (ns : List Str) : Prop := sortedS ns = true ∧ ns.Nodup ∧ ∀ x, x ∈ ns ↔ t.fr x = true
theorem fre_len {t : T} {ns : List Str} (h : Fre t ns) : ns.length ≤ 4 := nodup_few ns NMS h.2.1 fun k hk => fr_nm k t ((h.2.2 k).mp hk)
theorem fre_eq {t : T} {ns ms : List Str} (h : Fre t ns) (h2 : Fre t ms) : ns = ms := sortedS_eq h.1 h2.1 (same_perm h.2.1 h2.2.1 fun k => (h.2.2 k).trans (h2.2.2 k).symm)
def tfFree (n : Nat) : PF := fun _ pvs Q => ∃ t : T, pvs = [.imm t.d] ∧ t.dp ≤ n ∧ t.few ∧ ∀ ns, Fre t ns → Q (.imm (.tuple (ns.map PyData.str)))
theorem M_free_names {n : Nat} : MonoF (tfFree n) := fun _ _ _ _ h ⟨t, e, a, b, q⟩ => ⟨t, e, a, b, fun ns hn => h _ (q ns hn)⟩
theorem ok0_free_names {r : Nat} : FnOk P w K mg base CX0 r f fd ["tree"] (Prm K (tfFree 0)) :=
  ⟨fun vs H Q E ⟨F, dl, pvs, ok, st, ha, t, e, h, _⟩ => by cases t <;> simp [T.dp] at h, fun A outer s H args us vs Q E hr e0 hb r ⟨F, dl, pvs, ok, st, ha, t, e, h, _⟩ => by cases t <;> simp [T.dp] at h⟩
theorem okS_free_names {r : Nat} (n : Nat) (F_free_names : Fun K "free_names" "free_names" s_free_names f fd) (g_free_names : mg "free_names" = some (.ref f)) (b_free_names : Binds K fd ["tree"] []) (G_free_names : FnOk P w K mg base CX0 (r + 1) f fd ["tree"] (Prm K (tfFree n)))
    (m_enumerate : mg "enumerate" = none) (m_sorted : mg "sorted" = none) (m_set : mg "set" = none) (m_tuple : mg "tuple" = none) (G_parts : FnOk P w K mg base CX0 1 fp fdp ["tree"] (Prm K tfParts)) (g_parts : mg "parts" = some (.ref fp)) (F_parts : Fun K "parts" "parts" s_parts fp fdp) (b_parts : Binds K fdp ["tree"] [])
    (G_bound_in : FnOk P w K mg base CX0 1 fb fdb ["tree", "at"] (Prm K tfBound)) (g_bound_in : mg "bound_in" = some (.ref fb)) (F_bound_in : Fun K "bound_in" "bound_in" s_bound_in fb fdb) (b_bound_in : Binds K fdb ["tree", "at"] []) : FnOk P w K mg base CX0 (r + 2) f fd ["tree"] (Prm K (tfFree (n + 1))) := by
  refine okP F_free_names sc_free_names (fun _ _ _ ⟨_, e, _⟩ => by rw [e] <;> rfl) fun cdv A outer s H E e hr => ?_
  refine ⟨_, (zs_cons (z_if (pb_c (pc_eq (pd_ix (pq_d (pd_v (pv 0))) pd_int (fun _ _ => rfl)) pd_str) (nomark _))
    (zs_one (z_ret kvD (pd_tup (pad_cons (pd_ix (pq_d (pd_v (pv 0))) pd_int (fun _ _ => rfl)) pad_nil))))
    zs_nil)
  (zs_cons (z_set (i := 1) kvD sc_free_names.nd rfl (.inl rfl) (pd_n (pn_lst pad_nil)))
  (zs_cons (z_for PassesOwn.never rfl (pi_eT (by rfl) m_enumerate (pd_call M_parts G_parts (hr.mono (by omega)) (by rfl) g_parts F_parts.kp b_parts pass0 (pav_d (pd_v (pv 0)) pav_nil))) (y_tup (n := 2) (by rfl) (ys_cons (y_name (pg_name (i := 2) sc_free_names.nd rfl (.inl rfl))) (ys_cons (y_name (pg_name (i := 3) sc_free_names.nd rfl (.inl rfl))) ys_nil)))
    (zs_cons (z_set (i := 4) kvD sc_free_names.nd rfl (.inr rfl) (pd_call M_bound_in G_bound_in (hr.mono (by omega)) (by rfl) g_bound_in F_bound_in.kp b_bound_in pass0 (pav_d (pd_v (pv 0)) (pav_d (pd_v (pv 2)) pav_nil))))
    (zs_one (z_set (i := 1) kvD sc_free_names.nd rfl (.inl rfl) (pd_n (pn_cat (pq_d (pd_v (pv 1))) (pq_n (pn_lc (own := [("name", 5)]) rfl sc_free_names.nd (pi_t (pd_call M_free_names G_free_names (hr.mono (by omega)) (by rfl) g_free_names F_free_names.kp b_free_names pass0 (pav_d (pd_v (pv 3)) pav_nil))) (blkOk_by (own := [("name", 5)]) (N := N_free_names) (sc := defScope s_free_names) (by decide +kernel)) (fun _ _ _ _ _ => (y_name (pg_name (i := 5) sc_free_names.nd rfl (.inl rfl)))) (fun _ _ _ _ _ => (px_one (pb_c (pc_nin (pd_v (pv 5)) (pq_d (pd_v (pv 4)))) rfl))) (fun _ _ _ _ _ => (pd_v (pv 5))) (by decide)))))))))
  (zs_one (z_ret kvD (pd_tuple (by rfl) m_tuple (pq_n (pn_sortedSet rfl (by rfl) m_sorted (by rfl) m_set (pq_d (pd_v (pv 1))))))))))), ?_⟩
  rintro pvs Q ⟨t, rfl, hdp, hfew, q⟩
  have hnm : sortOf t = "name" → ∃ x : Nm, t = .n0 (.name x) := fun h => by
    match t with
    | .n0 z => cases z <;> first | exact ⟨_, rfl⟩ | exact absurd h (of_decide_eq_false rfl)
    | .n1 z a => cases z <;> exact absurd h (of_decide_eq_false rfl)
    | .n2 z a b => cases z <;> exact absurd h (of_decide_eq_false rfl)
    | .n3 z a b c => cases z <;> exact absurd h (of_decide_eq_false rfl)
  have ht0 : Gv (xBin rdIx (xQ (xV 0)) (xC (.int 0))) (startE N_free_names.length [.imm t.d]) (.str (sortOf t)) := by
    rw [T.shape]
    exact gv_t0 (gv_qt (gv_v 0 rfl))
  refine sq_if (gv_b (gv_eq ht0 gv_c rfl)) (fun h => ?_) fun h => ?_
  · obtain ⟨x, rfl⟩ := hnm (of_decide_eq_true h)
    refine st_ret (gv_tup (gv_cons (gv_t1 (gv_qt (gv_v 0 rfl))) gv_nil)) (q [x.t] ⟨rfl, List.nodup_cons.mpr ⟨List.not_mem_nil, List.nodup_nil⟩, fun y => ?_⟩)
    rw [List.mem_singleton]
    exact decide_eq_true_iff.symm
  have hn : sortOf t ≠ "name" := of_decide_eq_false h
  refine sq_set (gv_nd (gv_lst gv_nil)) ?_
  refine sq_forI (it := enumD (t.kids.map T.d)) (fun k ρ => ∃ (fs : List Str) (x2 x3 x4 x5 : Option PV), ρ = [some (.imm t.d), some (.imm (.list (fs.map PyData.str))), x2, x3, x4, x5] ∧ fs.length ≤ 4 * k ∧ ∀ x, x ∈ fs ↔ ∃ i c, i < k ∧ t.kids[i]? = some c ∧ c.fr x = true ∧ x ∉ t.bnd i)
    (gv_enT (gv_call (gv_vc (gv_v 0 rfl) gv_v0) fun Q q => ⟨t, rfl, q⟩)) ⟨[], none, none, none, none, rfl, by simp, fun x => ⟨fun z => (by cases z), fun ⟨i, c, z, _⟩ => (by omega)⟩⟩ (fun k d ρ R hk hI hR => ?_) fun ρ hI => ?_
  · obtain ⟨fs, x2, x3, x4, x5, rfl, hfl, hfs⟩ := hI
    obtain ⟨y, hy, rfl⟩ := enumD_get hk
    rw [List.getElem?_map] at hy
    obtain ⟨c, hc, rfl⟩ := Option.map_eq_some_iff.mp hy
    have hk3 : k < 3 := Nat.lt_of_lt_of_le (List.getElem?_eq_some_iff.mp hc).1 (kids_le t)
    have hcm := List.mem_of_getElem? hc
    have hcd := dp_kids t c hcm
    refine ⟨_, gt_tup2, ?_⟩
    refine sq_set (gv_call (gv_vc (gv_v 0 rfl) (gv_vc (gv_v 2 rfl) gv_v0)) fun Q q => ⟨t, k, rfl, few_bnd hfew k, q⟩) ?_
    have hin : ∀ x : Str, inF (.str x) ((t.bnd k).map PyData.str) = decide (x ∈ t.bnd k) := fun x => inF_texts x _
    refine st_setS (R := fun d => ∃ ns, Fre c ns ∧ d = .list ((fs ++ ns.filter fun x => decide (x ∉ t.bnd k)).map PyData.str)) (fun Q q => ?_) fun d ⟨ns, hns, e⟩ => ?_
    · refine gs_nd (R := fun xs => ∃ ns, Fre c ns ∧ xs = (fs ++ ns.filter fun x => decide (x ∉ t.bnd k)).map PyData.str) (gs_bin (R := fun x => x = (false, fs.map PyData.str)) (S := fun _ y => y.1 = false ∧ ∃ ns, Fre c ns ∧ y.2 = (ns.filter fun x => decide (x ∉ t.bnd k)).map PyData.str) (gs_v (gv_ql (gv_v 1 rfl))) (fun _ _ => gs_nq (R := fun l => ∃ ns, Fre c ns ∧ l = (ns.filter fun x => decide (x ∉ t.bnd k)).map PyData.str) (gs_lc (R := fun xs => ∃ ns, Fre c ns ∧ xs = ns.map PyData.str) (S := fun l => ∃ ns, Fre c ns ∧ l = (ns.filter fun x => decide (x ∉ t.bnd k)).map PyData.str) (gs_iT (R := fun xs => ∃ ns, Fre c ns ∧ xs = ns.map PyData.str) (gs_call (R := fun d => ∃ xs, d = .tuple xs ∧ ∃ ns, Fre c ns ∧ xs = ns.map PyData.str) (gv_vc (gv_v 3 rfl) gv_v0) fun Q q => ⟨c, rfl, by omega, few_kids hfew c hcm, fun ns hns => q _ ⟨_, rfl, ns, hns, rfl⟩⟩)) fun xs ⟨ns, hns, e⟩ Q q => ?_)) fun x y hx ⟨hy, ns, hns, e⟩ Q q => ?_) Q fun d ⟨xs, ed, ns, hns, ex⟩ => q d ⟨ns, hns, by rw [ed, ex]⟩
      · subst e
        refine compT_filter (fun d => match d with | .str x => decide (x ∉ t.bnd k) | _ => false) id _ _ (fun i d A B hd hA hB => ?_) (line3 (by rw [List.length_map]; have := fre_len hns; omega)) (q _ ⟨ns, hns, ?_⟩)
        · rw [List.getElem?_map] at hd
          obtain ⟨x, hx, rfl⟩ := Option.map_eq_some_iff.mp hd
          refine ⟨rfl, flat_texts _, ?_⟩
          show if (!inF (.str x) ((t.bnd k).map PyData.str)) = true then A (.str x) else B
          rw [hin]
          refine ifB (fun z => hA (by simpa using z)) fun z => hB (by simpa using z)
        · rw [List.map_id, List.filter_map]
          rfl
      · subst hx
        obtain ⟨b, ys⟩ := y
        simp only at hy e
        subst hy
        subst e
        have hl4 := fre_len hns
        have hfl2 : (ns.filter fun x => decide (x ∉ t.bnd k)).length ≤ 4 := Nat.le_trans (List.length_filter_le _ _) hl4
        exact ⟨rfl, rfl, line3 (by simp only [List.length_map]; omega), q _ ⟨_, rfl, ns, hns, by rw [List.map_append]⟩⟩
    · subst e
      have hl4 := fre_len hns
      have hfl2 : (ns.filter fun x => decide (x ∉ t.bnd k)).length ≤ 4 := Nat.le_trans (List.length_filter_le _ _) hl4
      refine hR _ ⟨fs ++ ns.filter fun x => decide (x ∉ t.bnd k), _, _, _, x5, rfl, by rw [List.length_append]; omega, fun x => ?_⟩
      rw [List.mem_append, hfs, List.mem_filter, hns.2.2, decide_eq_true_iff]
      constructor
      · rintro (⟨i, c', h1, h2⟩ | ⟨h1, h2⟩)
        · exact ⟨i, c', by omega, h2⟩
        · exact ⟨k, c, by omega, hc, h1, h2⟩
      · rintro ⟨i, c', h1, h2, h3⟩
        by_cases hik : i < k
        · exact .inl ⟨i, c', hik, h2, h3⟩
        · obtain rfl : i = k := by omega
          rw [hc] at h2
          cases h2
          exact .inr h3
  · obtain ⟨fs, x2, x3, x4, x5, rfl, hfl, hfs⟩ := hI
    rw [enumD_len, List.length_map] at hfl hfs
    have hk3 := kids_le t
    have hall : ∀ x, x ∈ fs ↔ t.fr x = true := fun x => by
      rw [hfs, fr_kids x t hn]
      constructor
      · rintro ⟨i, c, _, h2⟩
        exact ⟨i, c, h2⟩
      · rintro ⟨i, c, h2, h3⟩
        exact ⟨i, c, (List.getElem?_eq_some_iff.mp h2).1, h2, h3⟩
    have hsb : (100 : Nat) < scanBound := by decide
    refine st_retS (R := fun d => ∃ xs, d = .tuple xs ∧ ∃ ns, Fre t ns ∧ xs = ns.map PyData.str) (gs_tuple (R := fun xs => ∃ ns, Fre t ns ∧ xs = ns.map PyData.str) (gs_nq (R := fun xs => ∃ ns, Fre t ns ∧ xs = ns.map PyData.str) (gs_un (R := fun x => x = (false, fs.map PyData.str)) (U := fun o => ∃ xs, o = OC.lst xs ∧ ∃ ns, Fre t ns ∧ xs = ns.map PyData.str) (gs_v (gv_ql (gv_v 1 rfl))) fun x hx Q q => ?_))) fun d ⟨xs, e, ns, hns, ex⟩ => by
      rw [e, ex]
      exact q ns hns
    subst hx
    refine ⟨rfl, someTo (textsOf_map fs) ⟨by omega, fun ns h1 h2 => ?_, fun ns h1 h2 h3 => ?_⟩⟩
    · have := nodup_few ns NMS h1 fun k hk => fr_nm k t ((hall k).mp (h2 k hk))
      rw [NMS_len] at this
      omega
    · exact q _ ⟨_, rfl, ns, ⟨h1, h2, fun x => (h3 x).trans (hall x)⟩, rfl⟩
end
end K5
set_option Elab.async false
set_option linter.all false
set_option maxRecDepth 100000
set_option maxHeartbeats 8000000
set_option pp.maxSteps 900
namespace K5
open PySem PySem.Spec PyProof.Rows L2 PL
-- _law_type: topS 12; slots [(0, 'state'), (1, 'kinds')]; own []
abbrev s__law_type : Stmt := topS 12
abbrev N__law_type : List Str := ["state", "kinds"]
theorem sc__law_type : FnScope N__law_type ["state"] (defScope s__law_type) := ⟨rfl, rfl, rfl, by decide +kernel, rfl, by decide +kernel, by decide +kernel⟩
-- _law_node: topS 13; slots [(0, 'state'), (1, 'some'), (2, 'a'), (3, 'b'), (4, 'c'), (5, 'name'), (6, 'kind'), (7, 'k')]; own []
abbrev s__law_node : Stmt := topS 13
abbrev N__law_node : List Str := ["state", "some", "a", "b", "c", "name", "kind", "k"]
theorem sc__law_node : FnScope N__law_node ["state", "some"] (defScope s__law_node) := ⟨rfl, rfl, rfl, by decide +kernel, rfl, by decide +kernel, by decide +kernel⟩
theorem at_mem {xs : List D} {n : Int} (h0 : 0 ≤ n) (h1 : n < xs.length) : ∃ d, atI xs n = some d ∧ d ∈ xs := by
  obtain ⟨j, rfl⟩ : ∃ j : Nat, n = j := ⟨n.toNat, by omega⟩
  have hj : j < xs.length := by omega
  exact ⟨xs[j], atI_nat (List.getElem?_eq_getElem hj), List.getElem_mem hj⟩
section
variable {α : Type} {ρ : Ev} {dl : Dl} {st c : Addr} {ta : TX D} {tq : TX (Bool × List D)} {xs : List D} {U : D → Prop}
abbrev xDr (dl : Dl) (ta : TX D) : TX D := xCall tfDraw1 dl (vCons .raw (xVR 0) (vCons .imm ta (xC [])))
theorem gs_dr {n : Int} (h0 : ρ[0]? = some (some (.raw (.ref st)))) (S : St1In dl st c) (h : Gv ta ρ (.int n)) (hn : 0 < n) (hb : n.natAbs < 2 ^ 60) : Gs (xDr dl ta) ρ fun d => ∃ r : Int, d = .int r ∧ 0 ≤ r ∧ r < n :=
  gs_call (gv_vc (gv_vr 0 h0) (gv_vc h gv_v0)) fun Q q => ⟨st, c, n, rfl, S, hn, hb, fun r h1 h2 => q _ ⟨r, rfl, h1, h2⟩⟩
/-- a thing of a row, drawn -/
theorem gs_pick {b : Bool} {m : Nat} (h : Gv tq ρ (b, xs)) (hd : Gs ta ρ fun d => ∃ r : Int, d = .int r ∧ 0 ≤ r ∧ r < (m : Nat)) (hm : m ≤ xs.length) (hU : ∀ d ∈ xs, U d) : Gs (xBin rdIx tq ta) ρ U :=
  gs_ix (R := fun ys => ys = xs) (S := fun r => 0 ≤ r ∧ r < (m : Nat)) (gs_mono (gs_v h) fun x e => by rw [e]) hd fun ys n e ⟨h0, h1⟩ => by
    subst e
    obtain ⟨d, h2, h3⟩ := at_mem h0 (show n < ys.length by omega)
    exact ⟨d, h2, hU d h3⟩
theorem gs_lcR {tl : TX (List D)} {g : D → Ev → (Ev → Prop) → Prop} {te : TX D} {vs : List Nat} (R : Nat → D → Prop) (h : Gv tl ρ xs) (hl : xs.length ≤ sizeLine) (hel : ∀ (i : Nat) (d : D), xs[i]? = some d → ∃ ρ', Gt g d (wipeE ρ vs) ρ' ∧ Gs te ρ' (R i)) :
    Gs (xLc tl g (xC true) te vs) ρ fun o => ∃ ys, o = .lst ys ∧ ys.length = xs.length ∧ ∀ i y, ys[i]? = some y → R i y := fun Q q => h _ (by
  refine compT_rel (fun i _ o => ∃ y, o = some y ∧ R i y) xs _ (fun i d A B hd hA hB => ?_) hl fun os ho hr => ?_
  · obtain ⟨ρ', h1, h2⟩ := hel i d hd
    exact h1 _ (show (if true = true then te ρ' A else B) from iteT (h2 _ fun y hy => hA y ⟨y, rfl, hy⟩))
  · have key : ∀ (l : List (Option D)) (k : Nat), (∀ i o, l[i]? = some o → ∃ y, o = some y ∧ R (k + i) y) → (l.filterMap id).length = l.length ∧ ∀ i y, (l.filterMap id)[i]? = some y → R (k + i) y := fun l => by
      induction l with
      | nil => exact fun k _ => ⟨rfl, fun i y h => by simp at h⟩
      | cons o l ih =>
        intro k h
        obtain ⟨y, rfl, hy⟩ := h 0 o rfl
        obtain ⟨i1, i2⟩ := ih (k + 1) fun i o' h' => by
          have := h (i + 1) o' (by simpa using h')
          rwa [show k + (i + 1) = k + 1 + i by omega] at this
        refine ⟨by simp [i1], fun i z hz => ?_⟩
        cases i with
        | zero =>
          have e : y = z := by simpa using hz
          rw [← e]
          exact hy
        | succ i =>
          have := i2 i z (by simpa using hz)
          rwa [show k + 1 + i = k + (i + 1) by omega] at this
    obtain ⟨k1, k2⟩ := key os 0 fun i o hi => by
      have hlt := (List.getElem?_eq_some_iff.mp hi).1
      rw [ho] at hlt
      have := hr i _ o (List.getElem?_eq_getElem hlt) hi
      rwa [Nat.zero_add]
    refine q _ ⟨_, rfl, by rw [k1, ho], fun i y hy => ?_⟩
    have := k2 i y hy
    rwa [Nat.zero_add] at this)
end
section
variable {P : Program} {w : World} {K : PySem.W.Frag} {mg : Str → Option Value} {base : Heap} {f fp fb : Addr} {fd fdp fdb : FuncData}
def tfType : PF := fun dl pvs Q => ∃ st c : Addr, pvs = [.raw (.ref st)] ∧ St1In dl st c ∧ ∀ k : Ty, Q (.imm k.d)
theorem M__law_type : MonoF tfType := fun _ _ _ _ h ⟨st, c, e, s, q⟩ => ⟨st, c, e, s, fun k => h _ (q k)⟩
theorem ty_mem {d : D} (h : d ∈ [Ty.k0.d, Ty.k1.d, Ty.k2.d, Ty.k3.d, Ty.k4.d, Ty.k5.d]) : ∃ k : Ty, d = k.d := by
  rcases List.mem_cons.mp h with h | h
  · exact ⟨_, h⟩
  rcases List.mem_cons.mp h with h | h
  · exact ⟨_, h⟩
  rcases List.mem_cons.mp h with h | h
  · exact ⟨_, h⟩
  rcases List.mem_cons.mp h with h | h
  · exact ⟨_, h⟩
  rcases List.mem_cons.mp h with h | h
  · exact ⟨_, h⟩
  · exact ⟨_, List.mem_singleton.mp h⟩
theorem ok__law_type (F : Fun K "_law_type" "_law_type" s__law_type f fd) (G__law_draw : FnOk P w K mg base CX0 1 fp fdp ["state", "many"] (Prm K tfDraw1)) (g__law_draw : mg "_law_draw" = some (.ref fp)) (F__law_draw : Fun K "_law_draw" "_law_draw" s__law_draw fp fdp) (b__law_draw : Binds K fdp ["state", "many"] []) : FnOk P w K mg base CX0 2 f fd ["state"] (Prm K tfType) := by
  refine okP F sc__law_type (fun _ _ _ ⟨_, _, e, _⟩ => by rw [e] <;> rfl) fun cdv A outer s H E e hr => ?_
  refine ⟨_, (zs_cons (z_set (i := 1) kvD sc__law_type.nd rfl (.inl rfl) (pd_n (pn_lst (pad_cons pd_str (pad_cons pd_str (pad_cons pd_str (pad_cons (pd_tup (pad_cons pd_str (pad_cons pd_str pad_nil))) (pad_cons (pd_tup (pad_cons pd_str (pad_cons (pd_tup pad_nil) (pad_cons pd_str pad_nil)))) (pad_cons (pd_tup (pad_cons pd_str (pad_cons (pd_tup (pad_cons pd_str (pad_cons (pd_tup (pad_cons pd_str (pad_cons pd_str pad_nil))) pad_nil))) (pad_cons pd_str pad_nil)))) pad_nil)))))))))
  (zs_one (z_ret kvD (pd_ix (pq_d (pd_v (pv 1))) (pd_call M__law_draw G__law_draw (hr.mono (by omega)) (by rfl) g__law_draw F__law_draw.kp b__law_draw pass0 (pav_r (pr_v (pv 0)) (pav_d pd_int pav_nil))) (fun _ _ => rfl))))), ?_⟩
  rintro pvs Q ⟨st, c, rfl, S, q⟩
  refine sq_set (d := .list [Ty.k0.d, Ty.k1.d, Ty.k2.d, Ty.k3.d, Ty.k4.d, Ty.k5.d]) ?_ ?_
  · refine gv_nd (gv_lst (gv_cons gv_c (gv_cons gv_c (gv_cons gv_c (gv_cons ?_ (gv_cons ?_ (gv_cons ?_ gv_nil)))))))
    · exact gv_tup (gv_cons gv_c (gv_cons gv_c gv_nil))
    · exact gv_tup (gv_cons gv_c (gv_cons (gv_tup gv_nil) (gv_cons gv_c gv_nil)))
    · exact gv_tup (gv_cons gv_c (gv_cons (gv_tup (gv_cons gv_c (gv_cons (gv_tup (gv_cons gv_c (gv_cons gv_c gv_nil))) gv_nil))) (gv_cons gv_c gv_nil)))
  refine st_retS (R := fun d => ∃ k : Ty, d = k.d) (gs_pick (m := 6) (gv_ql (gv_v 1 rfl)) (gs_dr rfl S gv_c (by decide) (by decide)) (by decide) fun d hd => ty_mem hd) fun d ⟨k, hk⟩ => by
    rw [hk]
    exact q k
/-- what the drawn node may be -/
def T.top3 : T → Prop
  | .n1 (.fn ps) _ => ps.length ≤ 3
  | _ => True
def NdOk (l : List T) (t : T) : Prop := (∀ k ∈ t.kids, k ∈ l) ∧ t.top3 ∧ t.kids ≠ []
def tfNode : PF := fun dl pvs Q => ∃ (st c : Addr) (l : List T), pvs = [.raw (.ref st), .imm (.list (l.map T.d))] ∧ St1In dl st c ∧ l ≠ [] ∧ l.length ≤ 100 ∧ ∀ t : T, NdOk l t → Q (.imm t.d)
theorem M__law_node : MonoF tfNode := fun _ _ _ _ h ⟨st, c, l, e, s, a, b, q⟩ => ⟨st, c, l, e, s, a, b, fun t ht => h _ (q t ht)⟩
section
variable {ρ : Ev} {dl : Dl} {st c : Addr} {ta : TX D}
theorem gt_lst3 {x y z : D} {i j k : Nat} : Gt (yLst 3 (yCons (yName i) (yCons (yName j) (yCons (yName k) yNil)))) (.list [x, y, z]) ρ (((ρ.set i (some (.imm x))).set j (some (.imm y))).set k (some (.imm z))) := fun _ q => ⟨rfl, q⟩
theorem sq_asgS {g : D → Ev → (Ev → Prop) → Prop} {u : TSt} {P : Es} {R : D → Prop} (h : Gs ta ρ R) (q : ∀ d, R d → g d ρ (u P)) : zSeq (zAsg ta g) u P ρ := h _ q
theorem gs_name (h : Gs ta ρ fun d => ∃ r : Int, d = .int r ∧ 0 ≤ r ∧ r < 4) : Gs (xBin rdIxS (xC (PyData.str "xyzf")) ta) ρ fun d => ∃ x : Nm, d = .str x.t := fun Q q => h _ fun d ⟨r, e, h0, h1⟩ => by
  subst e
  refine ⟨by decide +kernel, ?_⟩
  rcases (show r = 0 ∨ r = 1 ∨ r = 2 ∨ r = 3 by omega) with rfl | rfl | rfl | rfl
  · exact q _ ⟨.x, rfl⟩
  · exact q _ ⟨.y, rfl⟩
  · exact q _ ⟨.z, rfl⟩
  · exact q _ ⟨.f, rfl⟩
theorem gv_pqr {r : Int} (h : Gv ta ρ (.int r)) (h0 : 0 ≤ r) (h1 : r < 3) : ∃ p : Pq, Gv (xBin rdIxS (xC (PyData.str "pqr")) ta) ρ (.str p.t) := by
  rcases (show r = 0 ∨ r = 1 ∨ r = 2 by omega) with rfl | rfl | rfl
  · exact ⟨.p, gv_ixS gv_c h (by decide +kernel) rfl⟩
  · exact ⟨.q, gv_ixS gv_c h (by decide +kernel) rfl⟩
  · exact ⟨.r, gv_ixS gv_c h (by decide +kernel) rfl⟩
end
theorem pars_of : ∀ ys : List D, (∀ y ∈ ys, ∃ p, y = parD p) → ∃ ps : List (Pq × Ty), ys = ps.map parD
  | [], _ => ⟨[], rfl⟩
  | y :: ys, h => by
    obtain ⟨p, hp⟩ := h y List.mem_cons_self
    obtain ⟨ps, hps⟩ := pars_of ys fun z hz => h z (List.mem_cons_of_mem _ hz)
    exact ⟨p :: ps, by rw [hp, hps, List.map_cons]⟩
theorem in3 {d a b c : D} (h : d ∈ [a, b, c]) : d = a ∨ d = b ∨ d = c := by simpa using h
theorem in2 {d a b : D} (h : d ∈ [a, b]) : d = a ∨ d = b := by simpa using h
theorem in4 {d a b c e : D} (h : d ∈ [a, b, c, e]) : d = a ∨ d = b ∨ d = c ∨ d = e := by simpa using h
theorem sg_mem {d : D} (h : d ∈ [PyData.str "+", .str "-", .str "*", .str "//", .str "rest", .str "<", .str "<=", .str "=="]) : ∃ s : Sg, d = .str s.t := by
  have h : d = PyData.str "+" ∨ d = .str "-" ∨ d = .str "*" ∨ d = .str "//" ∨ d = .str "rest" ∨ d = .str "<" ∨ d = .str "<=" ∨ d = .str "==" := by simpa using h
  rcases h with h | h | h | h | h | h | h | h
  · exact ⟨.a, h⟩
  · exact ⟨.s, h⟩
  · exact ⟨.m, h⟩
  · exact ⟨.d, h⟩
  · exact ⟨.r, h⟩
  · exact ⟨.l, h⟩
  · exact ⟨.e, h⟩
  · exact ⟨.q, h⟩
theorem nd1 {l : List T} {a : T} {h : H1} (ha : a ∈ l) (ht : (T.n1 h a).top3) : NdOk l (.n1 h a) := ⟨fun k hk => by rw [List.mem_singleton.mp hk]; exact ha, ht, List.cons_ne_nil _ _⟩
theorem nd2 {l : List T} {a b : T} {h : H2} (ha : a ∈ l) (hb : b ∈ l) : NdOk l (.n2 h a b) := ⟨fun k hk => by
  rcases List.mem_cons.mp hk with rfl | hk
  · exact ha
  · rw [List.mem_singleton.mp hk]
    exact hb, trivial, List.cons_ne_nil _ _⟩
theorem nd3 {l : List T} {a b c : T} {h : H3} (ha : a ∈ l) (hb : b ∈ l) (hc : c ∈ l) : NdOk l (.n3 h a b c) := ⟨fun k hk => by
  rcases List.mem_cons.mp hk with rfl | hk
  · exact ha
  rcases List.mem_cons.mp hk with rfl | hk
  · exact hb
  · rw [List.mem_singleton.mp hk]
    exact hc, trivial, List.cons_ne_nil _ _⟩
def NdD (l : List T) (d : D) : Prop := ∃ t, NdOk l t ∧ d = t.d
theorem ok__law_node (F : Fun K "_law_node" "_law_node" s__law_node f fd) (m_len : mg "len" = none) (m_range : mg "range" = none) (m_tuple : mg "tuple" = none) (G__law_draw : FnOk P w K mg base CX0 1 fp fdp ["state", "many"] (Prm K tfDraw1)) (g__law_draw : mg "_law_draw" = some (.ref fp)) (F__law_draw : Fun K "_law_draw" "_law_draw" s__law_draw fp fdp) (b__law_draw : Binds K fdp ["state", "many"] [])
    (G__law_type : FnOk P w K mg base CX0 2 fb fdb ["state"] (Prm K tfType)) (g__law_type : mg "_law_type" = some (.ref fb)) (F__law_type : Fun K "_law_type" "_law_type" s__law_type fb fdb) (b__law_type : Binds K fdb ["state"] []) : FnOk P w K mg base CX0 3 f fd ["state", "some"] (Prm K tfNode) := by
  refine okP F sc__law_node (fun _ _ _ ⟨_, _, _, e, _⟩ => by rw [e] <;> rfl) fun cdv A outer s H E e hr => ?_
  refine ⟨_, (zs_cons (z_asg (pd_n (pn_lc (own := [("k", 7)]) rfl sc__law_node.nd (pi_r1 (by rfl) m_range pd_int) (blkOk_by (own := [("k", 7)]) (N := N__law_node) (sc := defScope s__law_node) (by decide +kernel)) (fun _ _ _ _ _ => (y_name (pg_name (i := 7) sc__law_node.nd rfl (.inl rfl)))) (fun _ _ _ _ _ => px_yes) (fun _ _ _ _ _ => (pd_ix (pq_d (pd_v (pv 1))) (pd_call M__law_draw G__law_draw (hr.mono (by omega)) (by rfl) g__law_draw F__law_draw.kp b__law_draw pass0 (pav_r (pr_v (pv 0)) (pav_d (pd_len (by rfl) m_len (pq_d (pd_v (pv 1)))) pav_nil))) (fun _ _ => rfl))) (by decide))) (y_lst (n := 3) (by rfl) (ys_cons (y_name (pg_name (i := 2) sc__law_node.nd rfl (.inl rfl))) (ys_cons (y_name (pg_name (i := 3) sc__law_node.nd rfl (.inl rfl))) (ys_cons (y_name (pg_name (i := 4) sc__law_node.nd rfl (.inl rfl))) ys_nil)))))
  (zs_cons (z_set (i := 5) kvD sc__law_node.nd rfl (.inl rfl) (pd_ixS pd_str (pd_call M__law_draw G__law_draw (hr.mono (by omega)) (by rfl) g__law_draw F__law_draw.kp b__law_draw pass0 (pav_r (pr_v (pv 0)) (pav_d pd_int pav_nil))) (fun _ _ => rfl)))
  (zs_cons (z_set (i := 6) kvD sc__law_node.nd rfl (.inl rfl) (pd_call M__law_draw G__law_draw (hr.mono (by omega)) (by rfl) g__law_draw F__law_draw.kp b__law_draw pass0 (pav_r (pr_v (pv 0)) (pav_d pd_int pav_nil))))
  (zs_cons (z_if (pb_c (pc_lt (pd_v (pv 6)) pd_int) (nomark _))
    (zs_one (z_ret kvD (pd_tup (pad_cons pd_str (pad_cons (pd_ix (pq_n (pn_lst (pad_cons pd_str (pad_cons pd_str (pad_cons pd_str (pad_cons pd_str (pad_cons pd_str (pad_cons pd_str (pad_cons pd_str (pad_cons pd_str pad_nil)))))))))) (pd_call M__law_draw G__law_draw (hr.mono (by omega)) (by rfl) g__law_draw F__law_draw.kp b__law_draw pass0 (pav_r (pr_v (pv 0)) (pav_d pd_int pav_nil))) (fun _ _ => rfl)) (pad_cons (pd_v (pv 2)) (pad_cons (pd_v (pv 3)) pad_nil)))))))
    zs_nil)
  (zs_cons (z_if (pb_c (pc_lt (pd_v (pv 6)) pd_int) (nomark _))
    (zs_one (z_ret kvD (pd_ix (pq_n (pn_lst (pad_cons (pd_tup (pad_cons pd_str (pad_cons (pd_v (pv 2)) (pad_cons (pd_v (pv 3)) pad_nil)))) (pad_cons (pd_tup (pad_cons pd_str (pad_cons (pd_v (pv 2)) (pad_cons (pd_v (pv 3)) pad_nil)))) pad_nil)))) (pd_sub (pd_v (pv 6)) pd_int) (fun _ _ => rfl))))
    zs_nil)
  (zs_cons (z_if (pb_c (pc_lt (pd_v (pv 6)) pd_int) (nomark _))
    (zs_one (z_ret kvD (pd_ix (pq_n (pn_lst (pad_cons (pd_tup (pad_cons pd_str (pad_cons (pd_v (pv 2)) pad_nil))) (pad_cons (pd_tup (pad_cons pd_str (pad_cons (pd_v (pv 2)) pad_nil))) (pad_cons (pd_tup (pad_cons pd_str (pad_cons (pd_v (pv 2)) pad_nil))) (pad_cons (pd_tup (pad_cons pd_str (pad_cons (pd_v (pv 2)) pad_nil))) pad_nil)))))) (pd_sub (pd_v (pv 6)) pd_int) (fun _ _ => rfl))))
    zs_nil)
  (zs_cons (z_if (pb_c (pc_eq (pd_v (pv 6)) pd_int) (nomark _))
    (zs_one (z_ret kvD (pd_ix (pq_n (pn_lst (pad_cons (pd_tup (pad_cons pd_str (pad_cons (pd_v (pv 2)) (pad_cons (pd_v (pv 3)) (pad_cons (pd_v (pv 4)) pad_nil))))) (pad_cons (pd_tup (pad_cons pd_str (pad_cons (pd_v (pv 5)) (pad_cons (pd_v (pv 2)) (pad_cons (pd_v (pv 3)) pad_nil))))) (pad_cons (pd_tup (pad_cons pd_str (pad_cons (pd_v (pv 2)) (pad_cons (pd_v (pv 5)) (pad_cons (pd_v (pv 3)) pad_nil))))) pad_nil))))) (pd_call M__law_draw G__law_draw (hr.mono (by omega)) (by rfl) g__law_draw F__law_draw.kp b__law_draw pass0 (pav_r (pr_v (pv 0)) (pav_d pd_int pav_nil))) (fun _ _ => rfl))))
    zs_nil)
  (zs_cons (z_if (pb_c (pc_eq (pd_v (pv 6)) pd_int) (nomark _))
    (zs_one (z_ret kvD (pd_tup (pad_cons pd_str (pad_cons (pd_tuple (by rfl) m_tuple (pq_n (pn_lc (own := [("k", 7)]) rfl sc__law_node.nd (pi_r1 (by rfl) m_range (pd_call M__law_draw G__law_draw (hr.mono (by omega)) (by rfl) g__law_draw F__law_draw.kp b__law_draw pass0 (pav_r (pr_v (pv 0)) (pav_d pd_int pav_nil)))) (blkOk_by (own := [("k", 7)]) (N := N__law_node) (sc := defScope s__law_node) (by decide +kernel)) (fun _ _ _ _ _ => (y_name (pg_name (i := 7) sc__law_node.nd rfl (.inl rfl)))) (fun _ _ _ _ _ => px_yes) (fun _ _ _ _ _ => (pd_tup (pad_cons (pd_ixS pd_str (pd_v (pv 7)) (fun _ _ => rfl)) (pad_cons (pd_call M__law_type G__law_type (hr.mono (by omega)) (by rfl) g__law_type F__law_type.kp b__law_type pass0 (pav_r (pr_v (pv 0)) pav_nil)) pad_nil)))) (by decide)))) (pad_cons (pd_v (pv 2)) pad_nil))))))
    zs_nil)
  (zs_cons (z_if (pb_c (pc_eq (pd_v (pv 6)) pd_int) (nomark _))
    (zs_one (z_ret kvD (pd_tup (pad_cons pd_str (pad_cons (pd_v (pv 2)) (pad_cons (pd_slT (pd_tup (pad_cons (pd_v (pv 3)) (pad_cons (pd_v (pv 4)) pad_nil))) pod_none (pod_some (pd_call M__law_draw G__law_draw (hr.mono (by omega)) (by rfl) g__law_draw F__law_draw.kp b__law_draw pass0 (pav_r (pr_v (pv 0)) (pav_d pd_int pav_nil))))) pad_nil))))))
    zs_nil)
  (zs_one (z_ret kvD (pd_ix (pq_n (pn_lst (pad_cons (pd_tup (pad_cons pd_str (pad_cons (pd_v (pv 2)) (pad_cons (pd_v (pv 3)) pad_nil)))) (pad_cons (pd_tup (pad_cons pd_str (pad_cons (pd_v (pv 2)) (pad_cons (pd_v (pv 3)) pad_nil)))) (pad_cons (pd_ix (pq_n (pn_lst (pad_cons (pd_tup (pad_cons pd_str (pad_cons (pd_v (pv 2)) (pad_cons (pd_v (pv 3)) (pad_cons (pd_v (pv 4)) pad_nil))))) (pad_cons (pd_tup (pad_cons pd_str (pad_cons (pd_v (pv 2)) (pad_cons (pd_v (pv 3)) pad_nil)))) pad_nil)))) (pd_call M__law_draw G__law_draw (hr.mono (by omega)) (by rfl) g__law_draw F__law_draw.kp b__law_draw pass0 (pav_r (pr_v (pv 0)) (pav_d pd_int pav_nil))) (fun _ _ => rfl)) pad_nil))))) (pd_sub (pd_v (pv 6)) pd_int) (fun _ _ => rfl))))))))))))), ?_⟩
  rintro pvs Q ⟨st, cc, l, rfl, S, hne, hl, q⟩
  have hl0 : 0 < l.length := List.length_pos_iff.mpr hne
  refine sq_asgS (R := fun d => ∃ a b c : T, a ∈ l ∧ b ∈ l ∧ c ∈ l ∧ d = .list [a.d, b.d, c.d]) ?_ ?_
  · refine gs_mono (gs_nd (R := fun ys => ys.length = 3 ∧ ∀ i y, ys[i]? = some y → ∃ t ∈ l, y = t.d) (gs_lcR (xs := intsD 0 3) (fun _ d => ∃ t ∈ l, d = t.d) (gv_r1 (n := 3) gv_c (by decide)) (by decide) fun i d hd => ⟨_, gt_name, gs_pick (m := l.length) (gv_ql (gv_v 1 rfl)) (gs_dr rfl S ?_ (by omega) (by omega)) (by rw [List.length_map]; exact Nat.le_refl _) fun d hd => ?_⟩)) fun d hd => ?_
    · have g := gv_len (ρ := ((startE N__law_node.length [.raw (.ref st), .imm (.list (l.map T.d))]).set 7 none).set 7 (some (.imm d))) (gv_ql (gv_v 1 rfl))
      rw [List.length_map] at g
      exact g
    · obtain ⟨t, ht, rfl⟩ := List.mem_map.mp hd
      exact ⟨t, ht, rfl⟩
    · obtain ⟨ys, rfl, h3, hy⟩ := hd
      match ys, h3 with
      | [x, y, z], _ =>
        obtain ⟨a, ha, rfl⟩ := hy 0 x rfl
        obtain ⟨b, hb, rfl⟩ := hy 1 y rfl
        obtain ⟨c, hc, rfl⟩ := hy 2 z rfl
        exact ⟨a, b, c, ha, hb, hc, rfl⟩
  rintro d ⟨a, b, c, ha, hb, hc, rfl⟩
  refine gt_lst3 _ ?_
  refine sq_setS (gs_name (gs_dr rfl S gv_c (by decide) (by decide))) fun d ⟨x, e⟩ => ?_
  subst e
  refine sq_setS (gs_dr rfl S gv_c (by decide) (by decide)) fun d ⟨k, e, k0, k1⟩ => ?_
  subst e
  have fin : ∀ d, NdD l d → Q (.imm d) := fun d ⟨t, ht, e⟩ => by
    rw [e]
    exact q t ht
  have pk : ∀ {ρ : Ev} {n : Int} {lo hi : Int}, Gv (xBin (rd0 fun i j => .int (i - j)) (xV 6) (xC (.int lo))) ρ (.int (n - lo)) → lo ≤ n → n < hi → Gs (xBin (rd0 fun i j => .int (i - j)) (xV 6) (xC (.int lo))) ρ fun d => ∃ r : Int, d = .int r ∧ 0 ≤ r ∧ r < (hi - lo).toNat := fun h h1 h2 => gs_mono (gs_v h) fun d e => ⟨_, e, by omega, by omega⟩
  refine sq_if (gv_b (gv_i0 (gv_v 6 rfl) gv_c)) (fun h => ?_) fun h => ?_
  · refine st_retS (gs_tup (gs_cons (gs_v gv_c) (gs_cons (gs_pick (m := 8) (U := fun d => ∃ s : Sg, d = .str s.t) (gv_nq (gv_lst (gv_cons gv_c (gv_cons gv_c (gv_cons gv_c (gv_cons gv_c (gv_cons gv_c (gv_cons gv_c (gv_cons gv_c (gv_cons gv_c gv_nil)))))))))) (gs_dr rfl S gv_c (by decide) (by decide)) (by decide) fun d hd => sg_mem hd) (gs_cons (gs_v (gv_v 2 rfl)) (gs_cons (gs_v (gv_v 3 rfl)) (gs_v gv_nil))))) fun ds hd => ?_) fun d hd => ?_
    · obtain ⟨_, _, rfl, _, _, _, rfl, _, _, _, rfl, _, _, _, rfl, _, rfl⟩ := hd
      exact le20 rfl
    · obtain ⟨_, rfl, _, _, rfl, rfl, _, _, rfl, ⟨s, rfl⟩, _, _, rfl, rfl, _, _, rfl, rfl, rfl⟩ := hd
      exact fin _ ⟨.n2 (.op s) a b, nd2 ha hb, rfl⟩
  have k5 : 5 ≤ k := by
    have := of_decide_eq_false h
    omega
  refine sq_if (gv_b (gv_i0 (gv_v 6 rfl) gv_c)) (fun h => ?_) fun h => ?_
  · refine st_retS (gs_pick (m := 2) (U := NdD l) (gv_nq (gv_lst (gv_cons (gv_tup (gv_cons gv_c (gv_cons (gv_v 2 rfl) (gv_cons (gv_v 3 rfl) gv_nil)))) (gv_cons (gv_tup (gv_cons gv_c (gv_cons (gv_v 2 rfl) (gv_cons (gv_v 3 rfl) gv_nil)))) gv_nil)))) (pk (hi := 7) (gv_i0 (gv_v 6 rfl) gv_c) k5 (of_decide_eq_true h)) (Nat.le_of_ble_eq_true rfl) fun d hd => ?_) fin
    rcases in2 hd with rfl | rfl
    · exact ⟨.n2 .and a b, nd2 ha hb, rfl⟩
    · exact ⟨.n2 .or a b, nd2 ha hb, rfl⟩
  have k7 : 7 ≤ k := by
    have := of_decide_eq_false h
    omega
  refine sq_if (gv_b (gv_i0 (gv_v 6 rfl) gv_c)) (fun h => ?_) fun h => ?_
  · have g : ∀ (s : Str) {ρ : Ev}, ρ[2]? = some (some (.imm a.d)) → Gv (xTup (xCons (xC (PyData.str s)) (xCons (xV 2) (xC [])))) ρ (.tuple [.str s, a.d]) := fun s ρ h => gv_tup (gv_cons gv_c (gv_cons (gv_v 2 h) gv_nil))
    refine st_retS (gs_pick (m := 4) (U := NdD l) (gv_nq (gv_lst (gv_cons (g _ rfl) (gv_cons (g _ rfl) (gv_cons (g _ rfl) (gv_cons (g _ rfl) gv_nil)))))) (pk (hi := 11) (gv_i0 (gv_v 6 rfl) gv_c) k7 (of_decide_eq_true h)) (Nat.le_of_ble_eq_true rfl) fun d hd => ?_) fin
    rcases in4 hd with rfl | rfl | rfl | rfl
    · exact ⟨.n1 .not a, nd1 ha trivial, rfl⟩
    · exact ⟨.n1 .raise a, nd1 ha trivial, rfl⟩
    · exact ⟨.n1 .len a, nd1 ha trivial, rfl⟩
    · exact ⟨.n1 .print a, nd1 ha trivial, rfl⟩
  have k11 : 11 ≤ k := by
    have := of_decide_eq_false h
    omega
  refine sq_if (gv_b (gv_eq (gv_v 6 rfl) gv_c rfl)) (fun h => ?_) fun h => ?_
  · refine st_retS (gs_pick (m := 3) (U := NdD l) (gv_nq (gv_lst (gv_cons (gv_tup (gv_cons gv_c (gv_cons (gv_v 2 rfl) (gv_cons (gv_v 3 rfl) (gv_cons (gv_v 4 rfl) gv_nil))))) (gv_cons (gv_tup (gv_cons gv_c (gv_cons (gv_v 5 rfl) (gv_cons (gv_v 2 rfl) (gv_cons (gv_v 3 rfl) gv_nil))))) (gv_cons (gv_tup (gv_cons gv_c (gv_cons (gv_v 2 rfl) (gv_cons (gv_v 5 rfl) (gv_cons (gv_v 3 rfl) gv_nil))))) gv_nil))))) (gs_dr rfl S gv_c (by decide) (by decide)) (Nat.le_of_ble_eq_true rfl) fun d hd => ?_) fin
    rcases in3 hd with rfl | rfl | rfl
    · exact ⟨.n3 .if a b c, nd3 ha hb hc, rfl⟩
    · exact ⟨.n2 (.let x) a b, nd2 ha hb, rfl⟩
    · exact ⟨.n2 (.try x) a b, nd2 ha hb, rfl⟩
  have h11 : k ≠ 11 := of_decide_eq_false h
  refine sq_if (gv_b (gv_eq (gv_v 6 rfl) gv_c rfl)) (fun h => ?_) fun h => ?_
  · refine st_retS (R := fun d => ∃ ps : List (Pq × Ty), ps.length ≤ 3 ∧ d = .tuple [.str "fn", .tuple (ps.map parD), a.d]) (gs_mono (gs_tup (gs_cons (gs_v gv_c) (gs_cons (gs_tuple (R := fun ys => ∃ ps : List (Pq × Ty), ps.length ≤ 3 ∧ ys = ps.map parD) (gs_nq (R := fun ys => ∃ ps : List (Pq × Ty), ps.length ≤ 3 ∧ ys = ps.map parD) (gs_lc (R := fun xs => ∃ n : Nat, n ≤ 3 ∧ xs = intsD 0 n) (fun Q q => ?_) fun xs ⟨n, hn, e⟩ Q q => ?_))) (gs_cons (gs_v (gv_v 2 rfl)) (gs_v gv_nil)))) fun ds hd => ?_) fun d hd => ?_) fun d ⟨ps, hps, e⟩ => fin _ ⟨.n1 (.fn ps) a, nd1 ha hps, e⟩
    · refine gs_dr rfl S (gv_c (d := PyData.int 4)) (by decide) (by decide) _ fun d ⟨r, e, r0, r1⟩ => ?_
      subst e
      exact ⟨⟨by omega, by omega⟩, q _ ⟨r.toNat, by omega, rfl⟩⟩
    · subst e
      refine gs_lcR (ρ := [some (.raw (.ref st)), some (.imm (.list (l.map T.d))), some (.imm a.d), some (.imm b.d), some (.imm c.d), some (.imm (.str x.t)), some (.imm (.int k)), none]) (tl := xC (intsD 0 n)) (fun _ d => ∃ p, d = parD p) gv_c (line3 (by rw [intsD_len]; omega)) (fun i d hd => ?_) (fun o => match o with | .lst ys => Q ys | _ => False) fun o ⟨ys, e, hyl, hy⟩ => ?_
      · have hin : i < n := by
          have := (List.getElem?_eq_some_iff.mp hd).1
          rwa [intsD_len] at this
        have e : d = .int (0 + (i : Nat)) := by
          unfold intsD at hd
          rw [List.getElem?_map, List.getElem?_range hin] at hd
          exact (Option.some.inj hd).symm
        subst e
        refine ⟨_, gt_name, ?_⟩
        obtain ⟨p, hp⟩ := gv_pqr (ρ := [some (.raw (.ref st)), some (.imm (.list (l.map T.d))), some (.imm a.d), some (.imm b.d), some (.imm c.d), some (.imm (.str x.t)), some (.imm (.int k)), some (.imm (.int (0 + (i : Nat))))]) (gv_v 7 rfl) (by omega) (by omega)
        refine gs_mono (gs_tup (gs_cons (gs_v hp) (gs_cons (gs_call (R := fun d => ∃ k : Ty, d = k.d) (gv_vc (gv_vr 0 rfl) gv_v0) fun Q q => ⟨st, cc, rfl, S, fun k => q _ ⟨k, rfl⟩⟩) (gs_v gv_nil))) fun ds hd => ?_) fun d hd => ?_
        · obtain ⟨_, _, rfl, _, _, _, rfl, _, rfl⟩ := hd
          exact le20 rfl
        · obtain ⟨_, rfl, _, _, rfl, rfl, _, _, rfl, ⟨k, rfl⟩, rfl⟩ := hd
          exact ⟨(p, k), rfl⟩
      · subst e
        obtain ⟨ps, rfl⟩ := pars_of ys fun y hyy => by
          obtain ⟨i, hi, e⟩ := List.getElem_of_mem hyy
          exact hy i y (by rw [← e]; exact List.getElem?_eq_getElem hi)
        rw [List.length_map, intsD_len] at hyl
        exact q _ ⟨ps, by omega, rfl⟩
    · obtain ⟨_, _, rfl, _, _, _, rfl, _, _, _, rfl, _, rfl⟩ := hd
      exact le20 rfl
    · obtain ⟨_, rfl, _, _, rfl, rfl, _, _, rfl, ⟨_, rfl, ps, hps, rfl⟩, _, _, rfl, rfl, rfl⟩ := hd
      exact ⟨ps, hps, rfl⟩
  have h12 : k ≠ 12 := of_decide_eq_false h
  refine sq_if (gv_b (gv_eq (gv_v 6 rfl) gv_c rfl)) (fun h => ?_) fun h => ?_
  · refine st_retS (R := NdD l) (gs_mono (gs_tup (gs_cons (gs_v gv_c) (gs_cons (gs_v (gv_v 2 rfl)) (gs_cons (R := fun d => d = .tuple [] ∨ d = .tuple [b.d] ∨ d = .tuple [b.d, c.d]) (fun Q q => ?_) (gs_v gv_nil)))) fun ds hd => ?_) fun d hd => ?_) fin
    · have g : Gv (xTup (xCons (xV 3) (xCons (xV 4) (xC [])))) [some (.raw (.ref st)), some (.imm (.list (l.map T.d))), some (.imm a.d), some (.imm b.d), some (.imm c.d), some (.imm (.str x.t)), some (.imm (.int k)), none] (.tuple [b.d, c.d]) := gv_tup (gv_cons (gv_v 3 rfl) (gv_cons (gv_v 4 rfl) gv_nil))
      refine g _ ?_
      refine gs_dr (ρ := [some (.raw (.ref st)), some (.imm (.list (l.map T.d))), some (.imm a.d), some (.imm b.d), some (.imm c.d), some (.imm (.str x.t)), some (.imm (.int k)), none]) rfl S (gv_c (d := PyData.int 3)) (by decide) (by decide) _ fun d ⟨r, e, r0, r1⟩ => ?_
      subst e
      rcases (show r = 0 ∨ r = 1 ∨ r = 2 by omega) with rfl | rfl | rfl
      · exact q _ (.inl rfl)
      · exact q _ (.inr (.inl rfl))
      · exact q _ (.inr (.inr rfl))
    · obtain ⟨_, _, rfl, _, _, _, rfl, _, _, _, rfl, _, rfl⟩ := hd
      exact le20 rfl
    · obtain ⟨_, rfl, _, _, rfl, rfl, _, _, rfl, rfl, _, _, rfl, h3, rfl⟩ := hd
      rcases h3 with rfl | rfl | rfl
      · exact ⟨.n1 .call a, nd1 ha trivial, rfl⟩
      · exact ⟨.n2 .call a b, nd2 ha hb, rfl⟩
      · exact ⟨.n3 .call a b c, nd3 ha hb hc, rfl⟩
  have h13 : k ≠ 13 := of_decide_eq_false h
  refine st_retS (gs_ix (R := fun xs => ∃ x, NdD l x ∧ xs = [.tuple [.str "array", a.d, b.d], .tuple [.str "get", a.d, b.d], x]) (S := fun r => 0 ≤ r ∧ r < 3) (U := NdD l) ?_ (gs_mono (gs_v (gv_i0 (gv_v 6 rfl) gv_c)) fun d e => ⟨_, e, by omega, by omega⟩) fun xs n ⟨x, hx, e⟩ ⟨n0, n1⟩ => ?_) fin
  · refine gs_mono (gs_nq (R := fun xs => ∃ x, NdD l x ∧ xs = [.tuple [.str "array", a.d, b.d], .tuple [.str "get", a.d, b.d], x]) (gs_mono (gs_lst (gs_cons (gs_v (gv_tup (gv_cons gv_c (gv_cons (gv_v 2 rfl) (gv_cons (gv_v 3 rfl) gv_nil))))) (gs_cons (gs_v (gv_tup (gv_cons gv_c (gv_cons (gv_v 2 rfl) (gv_cons (gv_v 3 rfl) gv_nil))))) (gs_cons (gs_pick (m := 2) (U := NdD l) (gv_nq (gv_lst (gv_cons (gv_tup (gv_cons gv_c (gv_cons (gv_v 2 rfl) (gv_cons (gv_v 3 rfl) (gv_cons (gv_v 4 rfl) gv_nil))))) (gv_cons (gv_tup (gv_cons gv_c (gv_cons (gv_v 2 rfl) (gv_cons (gv_v 3 rfl) gv_nil)))) gv_nil)))) (gs_dr rfl S gv_c (by decide) (by decide)) (Nat.le_of_ble_eq_true rfl) fun d hd => ?_) (gs_v gv_nil)))) fun ds hd => ?_) fun o ho => ?_)) fun x hx => hx.2
    · rcases in2 hd with rfl | rfl
      · exact ⟨.n3 .set a b c, nd3 ha hb hc, rfl⟩
      · exact ⟨.n2 .seq a b, nd2 ha hb, rfl⟩
    · obtain ⟨_, _, rfl, _, _, _, rfl, _, _, _, rfl, _, rfl⟩ := hd
      exact le20 rfl
    · obtain ⟨_, rfl, _, _, rfl, rfl, _, _, rfl, rfl, x, _, rfl, hx, rfl⟩ := ho
      exact ⟨_, rfl, x, hx, rfl⟩
  · subst e
    rcases (show n = 0 ∨ n = 1 ∨ n = 2 by omega) with rfl | rfl | rfl
    · exact ⟨_, atI_nat (j := 0) rfl, .n2 .array a b, nd2 ha hb, rfl⟩
    · exact ⟨_, atI_nat (j := 1) rfl, .n2 .get a b, nd2 ha hb, rfl⟩
    · exact ⟨_, atI_nat (j := 2) rfl, hx⟩
end
end K5
set_option Elab.async false
set_option linter.all false
set_option maxRecDepth 100000
set_option maxHeartbeats 8000000
set_option pp.maxSteps 900
namespace K5
open PySem PySem.Spec PyProof.Rows L2 PL
-- _law_tree: topS 14; slots [(0, 'state'), (1, 'many'), (2, 'some'), (3, 'k'), (4, 'node')]; own []
abbrev s__law_tree : Stmt := topS 14
abbrev N__law_tree : List Str := ["state", "many", "some", "k", "node"]
theorem sc__law_tree : FnScope N__law_tree ["state", "many"] (defScope s__law_tree) := ⟨rfl, rfl, rfl, by decide +kernel, rfl, by decide +kernel, by decide +kernel⟩
/-! trees as they are drawn -/
def T.fine : T → Prop
  | .n0 (.num i) => i ≤ 200
  | .n0 (.bool i) => i ≤ 1
  | .n0 _ => True
  | .n1 (.fn ps) a => ps.length ≤ 3 ∧ a.fine
  | .n1 _ a => a.fine
  | .n2 _ a b => a.fine ∧ b.fine
  | .n3 _ a b c => a.fine ∧ b.fine ∧ c.fine
theorem fine_few : ∀ t : T, t.fine → t.few
  | .n0 _, _ => trivial
  | .n1 h a, q => by
    cases h <;> first | exact fine_few a q | exact ⟨by have := q.1; omega, fine_few a q.2⟩
  | .n2 h a b, q => ⟨fine_few a q.1, fine_few b q.2⟩
  | .n3 h a b c, q => ⟨fine_few a q.1, fine_few b q.2.1, fine_few c q.2.2⟩
theorem fine_nd {l : List T} (h : ∀ t ∈ l, t.fine) {t : T} (q : NdOk l t) : t.fine := by
  match t with
  | .n0 z => exact absurd rfl q.2.2
  | .n1 z a =>
    have ha := h a (q.1 a (List.mem_singleton.mpr rfl))
    cases z <;> first | exact ha | exact ⟨q.2.1, ha⟩
  | .n2 z a b => exact ⟨h a (q.1 a (by simp [T.kids])), h b (q.1 b (by simp [T.kids]))⟩
  | .n3 z a b c => exact ⟨h a (q.1 a (by simp [T.kids])), h b (q.1 b (by simp [T.kids])), h c (q.1 c (by simp [T.kids]))⟩
/-! sizes of what is shown -/
theorem tup_ln (ts : List Str) : (tupleText ts).length ≤ piled ts + 4 := by
  unfold tupleText
  cases ts with
  | nil => decide +kernel
  | cons x r =>
    have h := join_length_add (x :: r) (by simp)
    have e : ∀ s : String, (("(" : Str) ++ Str.join ", " (x :: r) ++ (s : Str)).length = 1 + (Str.join ", " (x :: r)).length + (Str.ofString s).length := fun s => by
      show (Str.append (Str.append _ _) _).length = _
      simp [Str.length, Str.append, Array.size_append]
      rw [show (Str.ofString "(").cps.size = 1 from rfl]
      omega
    split
    · rw [e, show (Str.ofString ",)").length = 2 from rfl]
      omega
    · rw [e, show (Str.ofString ")").length = 1 from rfl]
      omega
def ln (d : D) : Nat := d.shown.length
theorem shown_map : ∀ ds : List D, PyData.shownAll ds = ds.map PyData.shown
  | [] => by simp [PyData.shownAll]
  | d :: ds => by rw [PyData.shownAll, shown_map ds, List.map_cons]
def lsum (ds : List D) : Nat := (ds.map fun d => ln d + 2).sum
theorem lsum_cons (d : D) (ds : List D) : lsum (d :: ds) = ln d + 2 + lsum ds := by simp [lsum]
theorem lsum_nil : lsum [] = 0 := rfl
theorem ln_tup (ds : List D) : ln (.tuple ds) ≤ lsum ds + 4 := by
  unfold ln
  rw [PyData.shown]
  refine Nat.le_trans (tup_ln _) ?_
  unfold piled lsum ln
  rw [shown_map, List.map_map]
  exact Nat.le_refl _
theorem lnT {s : Str} {ds : List D} {B : Nat} (hs : ln (.str s) ≤ 10) (h : lsum ds ≤ B) : ln (tg s ds) ≤ B + 16 := by
  have := ln_tup (.str s :: ds)
  rw [lsum_cons] at this
  show ln (.tuple (.str s :: ds)) ≤ _
  omega
theorem ln_nm (x : Nm) : ln (.str x.t) ≤ 10 := by cases x <;> decide +kernel
theorem ln_sg (x : Sg) : ln (.str x.t) ≤ 10 := by cases x <;> decide +kernel
theorem ln_par (p : Pq × Ty) : ln (parD p) ≤ 100 := by
  obtain ⟨p, k⟩ := p
  cases p <;> cases k <;> decide +kernel
theorem ln_pars : ∀ ps : List (Pq × Ty), lsum (ps.map parD) ≤ 102 * ps.length
  | [] => Nat.zero_le _
  | p :: ps => by
    have h1 := ln_par p
    have h2 := ln_pars ps
    rw [List.map_cons, lsum_cons, List.length_cons]
    omega
theorem ln1 (h : H1) (a : D) (ht : (∀ ps, h = .fn ps → ps.length ≤ 3)) : ln (mk1 h a) ≤ ln a + 400 := by
  cases h with
  | fn ps =>
    have h3 := ht ps rfl
    have h1 := ln_tup (ps.map parD)
    have h2 := ln_pars ps
    have := lnT (s := "fn") (ds := [.tuple (ps.map parD), a]) (B := ln a + 320) (by decide +kernel) (by rw [lsum_cons, lsum_cons, lsum_nil]; omega)
    show ln (tg "fn" [.tuple (ps.map parD), a]) ≤ _
    omega
  | call =>
    have := lnT (s := "call") (ds := [a, .tuple []]) (B := ln a + 20) (by decide +kernel) (by rw [lsum_cons, lsum_cons, lsum_nil, show ln (.tuple []) = 2 by decide +kernel]; omega)
    show ln (tg "call" [a, .tuple []]) ≤ _
    omega
  | not =>
    have := lnT (s := "not") (ds := [a]) (B := ln a + 20) (by decide +kernel) (by rw [lsum_cons, lsum_nil]; omega)
    show ln (tg "not" [a]) ≤ _
    omega
  | raise =>
    have := lnT (s := "raise") (ds := [a]) (B := ln a + 20) (by decide +kernel) (by rw [lsum_cons, lsum_nil]; omega)
    show ln (tg "raise" [a]) ≤ _
    omega
  | len =>
    have := lnT (s := "len") (ds := [a]) (B := ln a + 20) (by decide +kernel) (by rw [lsum_cons, lsum_nil]; omega)
    show ln (tg "len" [a]) ≤ _
    omega
  | print =>
    have := lnT (s := "print") (ds := [a]) (B := ln a + 20) (by decide +kernel) (by rw [lsum_cons, lsum_nil]; omega)
    show ln (tg "print" [a]) ≤ _
    omega
theorem ln2 (h : H2) (a b : D) : ln (mk2 h a b) ≤ ln a + ln b + 400 := by
  have two : ∀ s : Str, ln (.str s) ≤ 10 → ln (tg s [a, b]) ≤ ln a + ln b + 400 := fun s hs => by
    have := lnT (ds := [a, b]) (B := ln a + ln b + 20) hs (by rw [lsum_cons, lsum_cons, lsum_nil]; omega)
    omega
  cases h with
  | op s =>
    have h1 := ln_sg s
    have := lnT (s := "op") (ds := [.str s.t, a, b]) (B := ln a + ln b + 20) (by decide +kernel) (by rw [lsum_cons, lsum_cons, lsum_cons, lsum_nil]; omega)
    show ln (tg "op" [.str s.t, a, b]) ≤ _
    omega
  | «let» x =>
    have h1 := ln_nm x
    have := lnT (s := "let") (ds := [.str x.t, a, b]) (B := ln a + ln b + 20) (by decide +kernel) (by rw [lsum_cons, lsum_cons, lsum_cons, lsum_nil]; omega)
    show ln (tg "let" [.str x.t, a, b]) ≤ _
    omega
  | «try» x =>
    have h1 := ln_nm x
    have := lnT (s := "try") (ds := [a, .str x.t, b]) (B := ln a + ln b + 20) (by decide +kernel) (by rw [lsum_cons, lsum_cons, lsum_cons, lsum_nil]; omega)
    show ln (tg "try" [a, .str x.t, b]) ≤ _
    omega
  | call =>
    have h1 := ln_tup [b]
    rw [lsum_cons, lsum_nil] at h1
    have := lnT (s := "call") (ds := [a, .tuple [b]]) (B := ln a + ln b + 20) (by decide +kernel) (by rw [lsum_cons, lsum_cons, lsum_nil]; omega)
    show ln (tg "call" [a, .tuple [b]]) ≤ _
    omega
  | and => exact two "and" (by decide +kernel)
  | or => exact two "or" (by decide +kernel)
  | array => exact two "array" (by decide +kernel)
  | get => exact two "get" (by decide +kernel)
  | seq => exact two "seq" (by decide +kernel)
theorem ln3 (h : H3) (a b c : D) : ln (mk3 h a b c) ≤ ln a + ln b + ln c + 400 := by
  have three : ∀ s : Str, ln (.str s) ≤ 10 → ln (tg s [a, b, c]) ≤ ln a + ln b + ln c + 400 := fun s hs => by
    have := lnT (ds := [a, b, c]) (B := ln a + ln b + ln c + 20) hs (by rw [lsum_cons, lsum_cons, lsum_cons, lsum_nil]; omega)
    omega
  cases h with
  | call =>
    have h1 := ln_tup [b, c]
    rw [lsum_cons, lsum_cons, lsum_nil] at h1
    have := lnT (s := "call") (ds := [a, .tuple [b, c]]) (B := ln a + ln b + ln c + 30) (by decide +kernel) (by rw [lsum_cons, lsum_cons, lsum_nil]; omega)
    show ln (tg "call" [a, .tuple [b, c]]) ≤ _
    omega
  | «if» => exact three "if" (by decide +kernel)
  | set => exact three "set" (by decide +kernel)
theorem ln_nums : ((List.range 201).all fun i => decide (ln (mk0 (.num i)) ≤ 100)) = true := by decide +kernel
theorem ln0 (h : H0) (hf : (T.n0 h).fine) : ln (mk0 h) ≤ 100 := by
  cases h with
  | num i =>
    have hi : i ≤ 200 := hf
    exact of_decide_eq_true (List.all_eq_true.mp ln_nums i (List.mem_range.mpr (by omega)))
  | bool i =>
    have hi : i ≤ 1 := hf
    match i, hi with
    | 0, _ => decide +kernel
    | 1, _ => decide +kernel
  | unit => decide +kernel
  | name x => cases x <;> decide +kernel
/-! what the sizes ask of data -/
def okD (n : Nat) (d : D) : Prop := d.showable = true ∧ d.canLay0 = true ∧ d.depth ≤ n
theorem okD_mono {m n : Nat} {d : D} (h : okD m d) (hn : m ≤ n) : okD n d := ⟨h.1, h.2.1, Nat.le_trans h.2.2 hn⟩
theorem okD_all (n : Nat) : ∀ ds : List D, (∀ d ∈ ds, okD n d) → PyData.showableAll ds = true ∧ PyData.canLayAll0 ds = true ∧ PyData.depthAll ds ≤ n
  | [], _ => ⟨by simp [PyData.showableAll], by simp [PyData.canLayAll0], by simp [PyData.depthAll]⟩
  | d :: ds, h => by
    obtain ⟨h1, h2, h3⟩ := h d List.mem_cons_self
    obtain ⟨i1, i2, i3⟩ := okD_all n ds fun x hx => h x (List.mem_cons_of_mem _ hx)
    refine ⟨by rw [PyData.showableAll, h1, i1]; rfl, by rw [PyData.canLayAll0, h2, i2]; rfl, ?_⟩
    rw [PyData.depthAll]
    exact Nat.max_le.mpr ⟨h3, i3⟩
theorem okD_tup {n : Nat} {ds : List D} (h : ∀ d ∈ ds, okD n d) : okD (n + 1) (.tuple ds) := by
  obtain ⟨h1, h2, h3⟩ := okD_all n ds h
  refine ⟨by rw [PyData.showable]; exact h1, by rw [PyData.canLay0]; exact h2, ?_⟩
  rw [PyData.depth]
  omega
theorem okD_str {x : Str} (h : PyData.strOk x = true) : okD 0 (.str x) := ⟨by simp [PyData.showable], by rw [PyData.canLay0]; exact h, by simp [PyData.depth]⟩
theorem okD_nat {i : Nat} (h : i ≤ 200) : okD 0 (nat i) := by
  refine ⟨?_, by simp [PyData.canLay0], by simp [PyData.depth]⟩
  rw [PyData.showable]
  refine decide_eq_true ?_
  have e : ((i : Nat) : Int).natAbs = i := Int.natAbs_natCast i
  rw [e]
  have := Nat.log2_le_self i
  omega
theorem okD_nm (x : Nm) : okD 0 (.str x.t) := okD_str (by cases x <;> decide +kernel)
theorem okD_ty (k : Ty) : okD 4 k.d := by
  cases k <;> exact ⟨by decide +kernel, by decide +kernel, by decide +kernel⟩
theorem okD_par (p : Pq × Ty) : okD 5 (parD p) := okD_tup fun d hd => by
  rcases in2 hd with rfl | rfl
  · exact okD_mono (okD_str (by cases p.1 <;> decide +kernel)) (by omega)
  · exact okD_ty _
theorem okD_tg {n : Nat} {s : Str} {ds : List D} (hs : PyData.strOk s = true) (h : ∀ d ∈ ds, okD n d) : okD (n + 1) (tg s ds) := okD_tup fun d hd => by
  rcases List.mem_cons.mp hd with rfl | hd
  · exact okD_mono (okD_str hs) (Nat.zero_le _)
  · exact h d hd
theorem okD1 (h : H1) {n : Nat} {a : D} (h6 : 6 ≤ n) (ha : okD n a) : okD (n + 2) (mk1 h a) := by
  have one : ∀ s : Str, PyData.strOk s = true → okD (n + 2) (tg s [a]) := fun s hs => okD_mono (okD_tg hs fun d hd => by rw [List.mem_singleton.mp hd]; exact ha) (by omega)
  cases h with
  | fn ps =>
    refine okD_tg (s := "fn") (n := n + 1) (by decide +kernel) fun d hd => ?_
    rcases in2 hd with rfl | rfl
    · exact okD_mono (okD_tup (n := 5) fun d hd => by
        obtain ⟨p, _, rfl⟩ := List.mem_map.mp hd
        exact okD_par p) (by omega)
    · exact okD_mono ha (by omega)
  | call =>
    refine okD_tg (s := "call") (n := n + 1) (by decide +kernel) fun d hd => ?_
    rcases in2 hd with rfl | rfl
    · exact okD_mono ha (by omega)
    · exact okD_mono (okD_tup (n := 0) fun d hd => by cases hd) (by omega)
  | not => exact one "not" (by decide +kernel)
  | raise => exact one "raise" (by decide +kernel)
  | len => exact one "len" (by decide +kernel)
  | print => exact one "print" (by decide +kernel)
theorem okD2 (h : H2) {n : Nat} {a b : D} (ha : okD n a) (hb : okD n b) : okD (n + 2) (mk2 h a b) := by
  have two : ∀ s : Str, PyData.strOk s = true → okD (n + 2) (tg s [a, b]) := fun s hs => okD_mono (okD_tg hs fun d hd => by
    rcases in2 hd with rfl | rfl
    · exact ha
    · exact hb) (by omega)
  cases h with
  | op s =>
    refine okD_tg (s := "op") (n := n + 1) (by decide +kernel) fun d hd => ?_
    rcases in3 hd with rfl | rfl | rfl
    · exact okD_mono (okD_str (by cases s <;> decide +kernel)) (by omega)
    · exact okD_mono ha (by omega)
    · exact okD_mono hb (by omega)
  | «let» x =>
    refine okD_tg (s := "let") (n := n + 1) (by decide +kernel) fun d hd => ?_
    rcases in3 hd with rfl | rfl | rfl
    · exact okD_mono (okD_nm x) (by omega)
    · exact okD_mono ha (by omega)
    · exact okD_mono hb (by omega)
  | «try» x =>
    refine okD_tg (s := "try") (n := n + 1) (by decide +kernel) fun d hd => ?_
    rcases in3 hd with rfl | rfl | rfl
    · exact okD_mono ha (by omega)
    · exact okD_mono (okD_nm x) (by omega)
    · exact okD_mono hb (by omega)
  | call =>
    refine okD_tg (s := "call") (n := n + 1) (by decide +kernel) fun d hd => ?_
    rcases in2 hd with rfl | rfl
    · exact okD_mono ha (by omega)
    · exact okD_tup fun d hd => by rw [List.mem_singleton.mp hd]; exact hb
  | and => exact two "and" (by decide +kernel)
  | or => exact two "or" (by decide +kernel)
  | array => exact two "array" (by decide +kernel)
  | get => exact two "get" (by decide +kernel)
  | seq => exact two "seq" (by decide +kernel)
theorem okD3 (h : H3) {n : Nat} {a b c : D} (ha : okD n a) (hb : okD n b) (hc : okD n c) : okD (n + 2) (mk3 h a b c) := by
  have three : ∀ s : Str, PyData.strOk s = true → okD (n + 2) (tg s [a, b, c]) := fun s hs => okD_mono (okD_tg hs fun d hd => by
    rcases in3 hd with rfl | rfl | rfl
    · exact ha
    · exact hb
    · exact hc) (by omega)
  cases h with
  | call =>
    refine okD_tg (s := "call") (n := n + 1) (by decide +kernel) fun d hd => ?_
    rcases in2 hd with rfl | rfl
    · exact okD_mono ha (by omega)
    · exact okD_tup fun d hd => by
        rcases in2 hd with rfl | rfl
        · exact hb
        · exact hc
  | «if» => exact three "if" (by decide +kernel)
  | set => exact three "set" (by decide +kernel)
theorem okD0 (h : H0) (hf : (T.n0 h).fine) : okD 1 (mk0 h) := by
  cases h with
  | num i => exact okD_tg (s := "num") (n := 0) (by decide +kernel) fun d hd => by rw [List.mem_singleton.mp hd]; exact okD_nat hf
  | bool i =>
    have hi : i ≤ 1 := hf
    exact okD_tg (s := "bool") (n := 0) (by decide +kernel) fun d hd => by rw [List.mem_singleton.mp hd]; exact okD_nat (by omega)
  | unit => exact okD_tg (s := "unit") (n := 0) (by decide +kernel) fun d hd => by cases hd
  | name x => exact okD_tg (s := "name") (n := 0) (by decide +kernel) fun d hd => by rw [List.mem_singleton.mp hd]; exact okD_nm x
theorem okT : ∀ t : T, t.fine → okD (6 + 2 * t.dp) t.d
  | .n0 h, q => okD_mono (okD0 h q) (by show 1 ≤ 6 + 2 * 1; omega)
  | .n1 h a, q => by
    have ha : a.fine := by cases h <;> first | exact q | exact q.2
    exact okD_mono (okD1 h (by omega) (okT a ha)) (by show _ ≤ 6 + 2 * (1 + a.dp); omega)
  | .n2 h a b, q => okD_mono (okD2 h (okD_mono (n := 6 + 2 * max a.dp b.dp) (okT a q.1) (by omega)) (okD_mono (okT b q.2) (by omega))) (by show _ ≤ 6 + 2 * (1 + max a.dp b.dp); omega)
  | .n3 h a b c, q => okD_mono (okD3 h (okD_mono (n := 6 + 2 * max a.dp (max b.dp c.dp)) (okT a q.1) (by omega)) (okD_mono (okT b q.2.1) (by omega)) (okD_mono (okT c q.2.2) (by omega))) (by show _ ≤ 6 + 2 * (1 + max a.dp (max b.dp c.dp)); omega)
theorem T.tup (t : T) : tupD t.d = true := by rw [T.shape] <;> rfl
/-- a tree as it stands among the drawn ones -/
def Good (k : Nat) (t : T) : Prop := t.fine ∧ t.dp ≤ k + 1 ∧ ln t.d ≤ 2500
theorem node_ln {l : List T} (h : ∀ t ∈ l, ln t.d ≤ 2500) {t : T} (hf : t.fine) (q : NdOk l t) : ln t.d ≤ 8000 := by
  match t with
  | .n0 z =>
    have := ln0 z hf
    show ln (mk0 z) ≤ _
    omega
  | .n1 z a =>
    have h1 := h a (q.1 a (List.mem_singleton.mpr rfl))
    have := ln1 z a.d fun ps e => by subst e; exact q.2.1
    show ln (mk1 z a.d) ≤ _
    omega
  | .n2 z a b =>
    have h1 := h a (q.1 a (by simp [T.kids]))
    have h2 := h b (q.1 b (by simp [T.kids]))
    have := ln2 z a.d b.d
    show ln (mk2 z a.d b.d) ≤ _
    omega
  | .n3 z a b c =>
    have h1 := h a (q.1 a (by simp [T.kids]))
    have h2 := h b (q.1 b (by simp [T.kids]))
    have h3 := h c (q.1 c (by simp [T.kids]))
    have := ln3 z a.d b.d c.d
    show ln (mk3 z a.d b.d c.d) ≤ _
    omega
theorem node_dp {l : List T} {k : Nat} (h : ∀ t ∈ l, t.dp ≤ k + 1) {t : T} (q : NdOk l t) : t.dp ≤ k + 2 := by
  match t with
  | .n0 z => show 1 ≤ _; omega
  | .n1 z a =>
    have h1 := h a (q.1 a (List.mem_singleton.mpr rfl))
    show 1 + a.dp ≤ _
    omega
  | .n2 z a b =>
    have h1 := h a (q.1 a (by simp [T.kids]))
    have h2 := h b (q.1 b (by simp [T.kids]))
    show 1 + max a.dp b.dp ≤ _
    omega
  | .n3 z a b c =>
    have h1 := h a (q.1 a (by simp [T.kids]))
    have h2 := h b (q.1 b (by simp [T.kids]))
    have h3 := h c (q.1 c (by simp [T.kids]))
    show 1 + max a.dp (max b.dp c.dp) ≤ _
    omega
theorem cutEnd (xs : List D) (n : Nat) (h0 : 0 < n) : PL.cutD xs (some (-(n : Int))) none = xs.drop (xs.length - n) := by
  unfold PL.cutD
  have e1 : HT.sIx xs.length 0 (some (-(n : Int))) = xs.length - n := by
    unfold HT.sIx
    simp only
    split <;> omega
  rw [HT.sIx_none, e1, List.take_of_length_le]
  rw [List.length_drop]
  exact Nat.le_refl _
section
variable {P : Program} {w : World} {K : PySem.W.Frag} {mg : Str → Option Value} {base : Heap} {f fp fb : Addr} {fd fdp fdb : FuncData}
def tfTree : PF := fun dl pvs Q => ∃ (st c : Addr) (m : Nat), pvs = [.raw (.ref st), .imm (nat m)] ∧ St1In dl st c ∧ m ≤ 14 ∧ ∀ t : T, t.fine → t.dp ≤ 15 → Q (.imm t.d)
theorem M__law_tree : MonoF tfTree := fun _ _ _ _ h ⟨st, c, m, e, s, a, q⟩ => ⟨st, c, m, e, s, a, fun t h1 h2 => h _ (q t h1 h2)⟩
theorem ok__law_tree (F : Fun K "_law_tree" "_law_tree" s__law_tree f fd) (m_len : mg "len" = none) (m_range : mg "range" = none) (m_str : mg "str" = none) (G__law_draw : FnOk P w K mg base CX0 1 fp fdp ["state", "many"] (Prm K tfDraw1)) (g__law_draw : mg "_law_draw" = some (.ref fp)) (F__law_draw : Fun K "_law_draw" "_law_draw" s__law_draw fp fdp) (b__law_draw : Binds K fdp ["state", "many"] [])
    (G__law_node : FnOk P w K mg base CX0 3 fb fdb ["state", "some"] (Prm K tfNode)) (g__law_node : mg "_law_node" = some (.ref fb)) (F__law_node : Fun K "_law_node" "_law_node" s__law_node fb fdb) (b__law_node : Binds K fdb ["state", "some"] []) : FnG P w K mg base 4 f fd ["state", "many"] (Prm K tfTree) := by
  refine okPG F sc__law_tree (fun _ _ _ ⟨_, _, _, e, _⟩ => by rw [e] <;> rfl) fun cdv A outer s H E e hgd hr => ?_
  refine ⟨_, (zs_cons (z_set (i := 2) kvD sc__law_tree.nd rfl (.inl rfl) (pd_n (pn_lst (pad_cons (pd_tup (pad_cons pd_str (pad_cons (pd_call M__law_draw G__law_draw (hr.mono (by omega)) (by rfl) g__law_draw F__law_draw.kp b__law_draw pass0 (pav_r (pr_v (pv 0)) (pav_d pd_int pav_nil))) pad_nil))) (pad_cons (pd_tup (pad_cons pd_str (pad_cons (pd_call M__law_draw G__law_draw (hr.mono (by omega)) (by rfl) g__law_draw F__law_draw.kp b__law_draw pass0 (pav_r (pr_v (pv 0)) (pav_d pd_int pav_nil))) pad_nil))) (pad_cons (pd_tup (pad_cons pd_str pad_nil)) (pad_cons (pd_tup (pad_cons pd_str (pad_cons (pd_ixS pd_str (pd_call M__law_draw G__law_draw (hr.mono (by omega)) (by rfl) g__law_draw F__law_draw.kp b__law_draw pass0 (pav_r (pr_v (pv 0)) (pav_d pd_int pav_nil))) (fun _ _ => rfl)) pad_nil))) pad_nil)))))))
  (zs_cons (z_for PassesOwn.never rfl (pi_r1 (by rfl) m_range (pd_v (pv 1))) (y_name (pg_name (i := 3) sc__law_tree.nd rfl (.inl rfl)))
    (zs_cons (z_set (i := 4) kvD sc__law_tree.nd rfl (.inl rfl) (pd_call M__law_node G__law_node (hr.mono (by omega)) (by rfl) g__law_node F__law_node.kp b__law_node pass0 (pav_r (pr_v (pv 0)) (pav_d (pd_n (pn_slL (pq_d (pd_v (pv 2))) (pod_some (pd_neg pd_int)) pod_none)) pav_nil))))
    (zs_one (z_set (i := 2) kvD sc__law_tree.nd rfl (.inl rfl) (pd_n (pn_cat (pq_n (pn_slL (pq_d (pd_v (pv 2))) (pod_some (pd_neg pd_int)) pod_none)) (pq_n (pn_lst (pad_cons (px_if (pb_c (pc_lt (pd_lenS (by rfl) m_len (pd_strD hgd (room200 hr) (by rfl) m_str (pd_v (pv 4)))) pd_int) (nomark _)) (pd_v (pv 4)) (pd_tup (pad_cons pd_str (pad_cons (pd_v (pv 3)) pad_nil)))) pad_nil)))))))))
  (zs_one (z_ret kvD (pd_ix (pq_d (pd_v (pv 2))) (pd_neg pd_int) (fun _ _ => rfl)))))), ?_⟩
  rintro pvs Q ⟨st, cc, m, rfl, S, hm, q⟩
  refine sq_setS (R := fun d => ∃ l : List T, l.length = 4 ∧ (∀ t ∈ l, Good 0 t) ∧ d = .list (l.map T.d)) ?_ fun d ⟨l, hl, hg, e⟩ => ?_
  · refine gs_mono (gs_nd (R := fun xs => ∃ l : List T, l.length = 4 ∧ (∀ t ∈ l, Good 0 t) ∧ xs = l.map T.d) (gs_mono (gs_lst (gs_cons (R := fun d => ∃ t, Good 0 t ∧ d = t.d) (gs_mono (gs_tup (gs_cons (gs_v gv_c) (gs_cons (gs_dr rfl S gv_c (by decide) (by decide)) (gs_v gv_nil))) fun ds hd => ?_) fun d hd => ?_) (gs_cons (R := fun d => ∃ t, Good 0 t ∧ d = t.d) (gs_mono (gs_tup (gs_cons (gs_v gv_c) (gs_cons (gs_dr rfl S gv_c (by decide) (by decide)) (gs_v gv_nil))) fun ds hd => ?_) fun d hd => ?_) (gs_cons (gs_v (gv_tup (gv_cons gv_c gv_nil))) (gs_cons (R := fun d => ∃ t, Good 0 t ∧ d = t.d) (gs_mono (gs_tup (gs_cons (gs_v gv_c) (gs_cons (gs_name (gs_dr rfl S gv_c (by decide) (by decide))) (gs_v gv_nil))) fun ds hd => ?_) fun d hd => ?_) (gs_v gv_nil))))) fun ds hd => ?_) fun o ho => ?_)) fun d ⟨xs, e, l, h1, h2, h3⟩ => ⟨l, h1, h2, by rw [e, h3]⟩
    · obtain ⟨_, _, rfl, _, _, _, rfl, _, rfl⟩ := hd
      exact le20 rfl
    · obtain ⟨_, rfl, _, _, rfl, rfl, _, _, rfl, ⟨r, rfl, r0, r1⟩, rfl⟩ := hd
      have hf : (T.n0 (.num r.toNat)).fine := by show r.toNat ≤ 200; omega
      refine ⟨.n0 (.num r.toNat), ⟨hf, Nat.le_refl _, Nat.le_trans (ln0 _ hf) (by decide)⟩, ?_⟩
      show _ = PyData.tuple [.str "num", .int ((r.toNat : Nat) : Int)]
      rw [show ((r.toNat : Nat) : Int) = r by omega]
    · obtain ⟨_, _, rfl, _, _, _, rfl, _, rfl⟩ := hd
      exact le20 rfl
    · obtain ⟨_, rfl, _, _, rfl, rfl, _, _, rfl, ⟨r, rfl, r0, r1⟩, rfl⟩ := hd
      have hf : (T.n0 (.bool r.toNat)).fine := by show r.toNat ≤ 1; omega
      refine ⟨.n0 (.bool r.toNat), ⟨hf, Nat.le_refl _, Nat.le_trans (ln0 _ hf) (by decide)⟩, ?_⟩
      show _ = PyData.tuple [.str "bool", .int ((r.toNat : Nat) : Int)]
      rw [show ((r.toNat : Nat) : Int) = r by omega]
    · obtain ⟨_, _, rfl, _, _, _, rfl, _, rfl⟩ := hd
      exact le20 rfl
    · obtain ⟨_, rfl, _, _, rfl, rfl, _, _, rfl, ⟨x, rfl⟩, rfl⟩ := hd
      exact ⟨.n0 (.name x), ⟨trivial, Nat.le_refl _, Nat.le_trans (ln0 (.name x) trivial) (by decide)⟩, rfl⟩
    · obtain ⟨_, _, rfl, _, _, _, rfl, _, _, _, rfl, _, _, _, rfl, _, rfl⟩ := hd
      exact le20 rfl
    · obtain ⟨_, rfl, _, _, rfl, ⟨t1, g1, rfl⟩, _, _, rfl, ⟨t2, g2, rfl⟩, _, _, rfl, rfl, _, _, rfl, ⟨t4, g4, rfl⟩, rfl⟩ := ho
      refine ⟨_, rfl, [t1, t2, .n0 .unit, t4], rfl, fun t ht => ?_, rfl⟩
      rcases (show t = t1 ∨ t = t2 ∨ t = .n0 .unit ∨ t = t4 by simpa using ht) with rfl | rfl | rfl | rfl
      · exact g1
      · exact g2
      · exact ⟨trivial, Nat.le_refl _, Nat.le_trans (ln0 .unit trivial) (by decide)⟩
      · exact g4
  subst e
  refine sq_forI (it := intsD 0 m) (fun k ρ => ∃ (l : List T) (x3 x4 : Option PV), ρ = [some (.raw (.ref st)), some (.imm (nat m)), some (.imm (.list (l.map T.d))), x3, x4] ∧ 1 ≤ l.length ∧ l.length ≤ 10 ∧ ∀ t ∈ l, Good k t) (gv_r1 (gv_v 1 rfl) (by omega)) ⟨l, none, none, rfl, by omega, by omega, hg⟩ (fun k d ρ R hk hI hR => ?_) fun ρ hI => ?_
  · obtain ⟨l, x3, x4, rfl, l1, l2, hg⟩ := hI
    have hkm : k < m := by
      have := (List.getElem?_eq_some_iff.mp hk).1
      rwa [intsD_len] at this
    have e : d = nat k := by
      unfold intsD at hk
      rw [List.getElem?_map, List.getElem?_range hkm] at hk
      have h2 : d = PyData.int (0 + ((k : Nat) : Int)) := (Option.some.inj hk).symm
      rw [h2, Int.zero_add]
    subst e
    refine ⟨_, gt_name, ?_⟩
    have cut : ∀ (n : Nat) (ρ : Ev), 0 < n → ρ[2]? = some (some (.imm (.list (l.map T.d)))) → Gv (xSl rdSlL (xQ (xV 2)) (xPart (xUn rdNeg (xC (.int (n : Nat))))) (xC none)) ρ (.lst ((l.drop (l.length - n)).map T.d)) := fun n ρ hn h => by
      have g := gv_slL (ρ := ρ) (gv_ql (gv_v 2 h)) (gv_part (gv_neg (gv_c (d := PyData.int (n : Nat))))) (gv_c (d := none))
      rw [cutEnd _ n hn, List.length_map, ← List.map_drop] at g
      exact g
    have sub : ∀ n, ∀ t ∈ l.drop (l.length - n), t ∈ l := fun n t ht => List.mem_of_mem_drop ht
    refine sq_setS (gs_call (R := fun d => ∃ t, NdOk (l.drop (l.length - 4)) t ∧ d = t.d) (gv_vc (gv_vr 0 rfl) (gv_vc (gv_nd (cut 4 _ (by decide) rfl)) gv_v0)) fun Q q => ⟨st, cc, l.drop (l.length - 4), rfl, S, fun z => ?_, by rw [List.length_drop]; omega, fun t ht => q _ ⟨t, ht, rfl⟩⟩) fun d ⟨t, ht, e⟩ => ?_
    · have := congrArg List.length z
      rw [List.length_drop] at this
      simp only [List.length_nil] at this
      omega
    subst e
    have hf : t.fine := fine_nd (fun u hu => (hg u (sub 4 u hu)).1) ht
    have hdp : t.dp ≤ k + 2 := node_dp (fun u hu => (hg u (sub 4 u hu)).2.1) ht
    have hln : ln t.d ≤ 8000 := node_ln (fun u hu => (hg u (sub 4 u hu)).2.2) hf ht
    have hok := okT t hf
    have gl : ∀ ρ : Ev, ρ[4]? = some (some (.imm t.d)) → Gv (xB (xBin (rd0 fun i j => .bool (decide (i < j))) (xUn rdLenS (xUn rdStrD (xV 4))) (xC (.int 2500)))) ρ (decide (((t.d.shown.length : Nat) : Int) < 2500)) := fun ρ h => gv_b (gv_i0 (gv_lenS (gv_strD (gv_v 4 h) t.tup hok.1 (Nat.le_trans hln (by decide)) (Nat.le_trans hok.2.2 (by omega))) (Nat.le_trans hln (by decide))) gv_c)
    have nw : ∃ u : T, Good (k + 1) u ∧ ∀ ρ : Ev, ρ[4]? = some (some (.imm t.d)) → ρ[3]? = some (some (.imm (nat k))) → Gv (xIf (xB (xBin (rd0 fun i j => .bool (decide (i < j))) (xUn rdLenS (xUn rdStrD (xV 4))) (xC (.int 2500)))) (xV 4) (xTup (xCons (xC (.str "num")) (xCons (xV 3) (xC []))))) ρ u.d := by
      by_cases hs : ((t.d.shown.length : Nat) : Int) < 2500
      · refine ⟨t, ⟨hf, by omega, by show t.d.shown.length ≤ 2500; omega⟩, fun ρ h1 h2 => ?_⟩
        have g := gl ρ h1
        rw [decide_eq_true hs] at g
        exact gv_ifT g (gv_v 4 h1)
      · have hfk : (T.n0 (.num k)).fine := by show k ≤ 200; omega
        refine ⟨.n0 (.num k), ⟨hfk, by show 1 ≤ _; omega, Nat.le_trans (ln0 _ hfk) (by decide)⟩, fun ρ h1 h2 => ?_⟩
        have g := gl ρ h1
        rw [decide_eq_false hs] at g
        exact gv_ifF g (gv_tup (gv_cons gv_c (gv_cons (gv_v 3 h2) gv_nil)))
    obtain ⟨u, hu, gu⟩ := nw
    refine st_set (gv_nd (gv_catL (gv_nq (cut 5 _ (by decide) rfl)) (gv_nq (gv_lst (gv_cons (gu _ rfl rfl) gv_nil))) ?_)) ?_
    · rw [List.length_map, List.length_drop]
      exact line3 (by simp only [List.length_singleton]; omega)
    · refine hR _ ⟨l.drop (l.length - 5) ++ [u], some (.imm (nat k)), some (.imm t.d), ?_, by rw [List.length_append]; simp, by rw [List.length_append, List.length_drop]; simp only [List.length_singleton]; omega, fun v hv => ?_⟩
      · rw [List.map_append]
        rfl
      · rcases List.mem_append.mp hv with hv | hv
        · obtain ⟨h1, h2, h3⟩ := hg v (sub 5 v hv)
          exact ⟨h1, by omega, h3⟩
        · rw [List.mem_singleton.mp hv]
          exact hu
  · obtain ⟨l, x3, x4, rfl, l1, l2, hg⟩ := hI
    rw [intsD_len] at hg
    obtain ⟨l', t, rfl⟩ : ∃ l' t, l = l' ++ [t] := by
      rcases List.eq_nil_or_concat l with rfl | ⟨l', u, e⟩
      · simp at l1
      · exact ⟨l', u, by rw [e, List.concat_eq_append]⟩
    have ht := hg t (List.mem_append_right _ (List.mem_singleton.mpr rfl))
    refine st_ret (gv_ix (gv_ql (gv_v 2 rfl)) (gv_neg gv_c) ?_) (q t ht.1 (by have := ht.2.1; omega))
    rw [List.map_append]
    unfold L2.atI L2.ixN
    rw [if_neg (by decide), if_pos (by rw [List.length_append]; simp only [List.map_cons, List.map_nil, List.length_singleton]; omega)]
    show ((l'.map T.d) ++ [t.d])[(-1 + (((l'.map T.d ++ [t.d]).length : Nat) : Int)).toNat]? = some t.d
    have e : (-1 + (((l'.map T.d ++ [t.d]).length : Nat) : Int)).toNat = (l'.map T.d).length := by rw [List.length_append, List.length_singleton]; omega
    rw [e]
    simp
end
end K5
set_option Elab.async false
set_option linter.all false
set_option maxRecDepth 100000
set_option maxHeartbeats 8000000
set_option pp.maxSteps 900
namespace K5
open PySem PySem.Spec PyProof.Rows L2 PL
-- law: topS 19; slots [(0, 'script'), (1, 'state'), (2, 'k'), (3, 'program'), (4, 'due'), (5, 'many'), (6, 'at'), (7, 'wait'), (8, 'count'), (9, 'address'), (10, 'tree'), (11, 'row'), (12, 'one'), (13, 'some'), (14, 'changed'), (15, 'found'), (16, 'around'), (17, 'more'), (18, 'name'), (19, 'kind')]; own ['due', 'found', 'wait']
abbrev s_law : Stmt := topS 19
abbrev N_law : List Str := ["script", "state", "k", "program", "due", "many", "at", "wait", "count", "address", "tree", "row", "one", "some", "changed", "found", "around", "more", "name", "kind"]
theorem sc_law : FnScope N_law ["script"] (defScope s_law) := ⟨rfl, rfl, rfl, by decide +kernel, rfl, by decide +kernel, by decide +kernel⟩
theorem ent_any {X : Cx} {sts : List Stmt} {t : Ent → TSt} (h : ∀ e, PSxs X e sts (t e)) : PSs X sts (fun Dd σ H => ∃ e, liftS X.K e (t e) Dd σ H) := ⟨fun pins s σ H Dd I ⟨e, q⟩ => (h e).pss.run pins s σ H Dd I q⟩
def t0 (dl : Dl) : TSt := zSet PV.imm 3 (xUn rdTuple (xNQ (xLc (iR1 (xBin (rd0 fun i j => PyData.int (i + j)) (xC (PyData.int 1)) (xCall tfDraw1 dl (vCons PV.raw (xVR 1) (vCons PV.imm (xC (PyData.int 3)) (xC [])))))) (yName 2) (xC true) (xTup (xCons (xBin rdAddS (xC (PyData.str (Str.ofString "d"))) (xUn rdStr (xV 2))) (xCons (xTup (xC [])) (xCons (xC (PyData.str (Str.ofString "int"))) (xCons (xCall tfTree dl (vCons PV.raw (xVR 1) (vCons PV.imm (xBin (rd0 fun i j => PyData.int (i + j)) (xC (PyData.int 1)) (xCall tfDraw1 dl (vCons PV.raw (xVR 1) (vCons PV.imm (xC (PyData.int 12)) (xC []))))) (xC [])))) (xC [])))))) (List.map (fun x => x.snd) [(Str.ofString "k", 2)]))))
def t1 (dl : Dl) : TSt := zPar PV.own PV.own 4 5 (xLst (xC [])) (xLst (xC []))
def t2b0 (dl : Dl) : TSt := zSet PV.own 7 (xLst (xCons (xTup (xCons (xTup (xCons (xV 6) (xC []))) (xCons (xBin rdIx (xQ (xBin rdIx (xQ (xV 3)) (xV 6))) (xC (PyData.int 3))) (xC [])))) (xC [])))
def t2b1 (dl : Dl) : TSt := zSet PV.imm 8 (xC (PyData.int 0))
def t2b2b0 (dl : Dl) : TSt := zPop 7 (yTup 2 (yCons (yName 9) (yCons (yName 10) yNil)))
def t2b2b1 (dl : Dl) : TSt := zAppG 4 (xV 9)
def t2b2b2 (dl : Dl) : TSt := zSet PV.imm 8 (xBin (rd0 fun i j => PyData.int (i + j)) (xV 8) (xC (PyData.int 1)))
def t2b2b3 (dl : Dl) : TSt := zIf (xAnd (xB (xBin (rd0 fun i j => PyData.bool (decide (i < j))) (xUn rdLen (xVQ 4)) (xC (PyData.int 60)))) (xOr (xB (xBin (rdEq true) (xCall tfParts dl (vCons PV.imm (xV 10) (xC []))) (xCall tfParts dl (vCons PV.imm (xV 10) (xC []))))) (xB (xBin (rdEq true) (xCall tfTreeAt dl (vCons PV.imm (xV 3) (vCons PV.imm (xV 9) (xC [])))) (xV 10))))) (zRet PV.imm (xC (PyData.bool false))) zNil
def t2b2b4 (dl : Dl) : TSt := zSet PV.imm 11 (xCall tfParts dl (vCons PV.imm (xV 10) (xC [])))
def t2b2b5 (dl : Dl) : TSt := zSet PV.own 7 (xBin rdCatL (xVQ 7) (xNQ (xLc (iR1 (xUn rdLen (xQ (xV 11)))) (yName 2) (xC true) (xTup (xCons (xBin rdCatT (xV 9) (xTup (xCons (xV 2) (xC [])))) (xCons (xBin rdIx (xQ (xV 11)) (xV 2)) (xC [])))) (List.map (fun x => x.snd) [(Str.ofString "k", 2)]))))
def t2b2 (dl : Dl) : TSt := zWhile (xAnd (xB (xBin (rd0 fun i j => PyData.bool (decide (j < i))) (xUn rdLen (xVQ 7)) (xC (PyData.int 0)))) (xB (xBin (rd0 fun i j => PyData.bool (decide (i < j))) (xV 8) (xC (PyData.int 3000))))) ((zSeq (t2b2b0 dl) (zSeq (t2b2b1 dl) (zSeq (t2b2b2 dl) (zSeq (t2b2b3 dl) (zSeq (t2b2b4 dl) (t2b2b5 dl)))))))
def t2b3 (dl : Dl) : TSt := zAppG 5 (xV 8)
def t2 (dl : Dl) : TSt := zFor (iR1 (xUn rdLen (xQ (xV 3)))) (yName 6) ((zSeq (t2b0 dl) (zSeq (t2b1 dl) (zSeq (t2b2 dl) (t2b3 dl)))))
def t3 (dl : Dl) : TSt := zFrz 5 (zIf (xB (xBin (rd0 fun i j => PyData.bool (decide (i < j))) (xUn rdMax (xQ (xV 5))) (xC (PyData.int 3000)))) (zIf (xOr (xB (xBin (rdEq true) (xND (xCallN tfAddr dl (vCons PV.imm (xV 3) (xC [])))) (xND (xUn rdSort (xVQ 4))))) (xB (xBin (rdEq true) (xND (xLc (iT (xV 3)) (yName 12) (xC true) (xCall tfSize dl (vCons PV.imm (xBin rdIx (xQ (xV 12)) (xC (PyData.int 3))) (xC []))) (List.map (fun x => x.snd) [(Str.ofString "one", 12)]))) (xV 5)))) (zRet PV.imm (xC (PyData.bool false))) zNil) zNil)
def t4 (dl : Dl) : TSt := zSet PV.imm 10 (xBin rdIx (xQ (xBin rdIx (xQ (xV 3)) (xC (PyData.int 0)))) (xC (PyData.int 3)))
def t5 (dl : Dl) : TSt := zSet PV.imm 11 (xCall tfParts dl (vCons PV.imm (xV 10) (xC [])))
def t6 (dl : Dl) : TSt := zSet PV.imm 13 (xUn rdTuple (xNQ (xLc (iR1 (xUn rdLen (xQ (xV 11)))) (yName 2) (xC true) (xTup (xCons (xC (PyData.str (Str.ofString "num"))) (xCons (xBin (rd0 fun i j => PyData.int (i + j)) (xC (PyData.int 100)) (xV 2)) (xC [])))) (List.map (fun x => x.snd) [(Str.ofString "k", 2)]))))
def t7 (dl : Dl) : TSt := zSet PV.imm 14 (xCall tfWith dl (vCons PV.imm (xV 10) (vCons PV.imm (xV 13) (xC []))))
def t8 (dl : Dl) : TSt := zIf (xOr (xB (xBin (rdEq true) (xCall tfParts dl (vCons PV.imm (xV 14) (xC []))) (xV 13))) (xOr (xB (xBin (rdEq true) (xCall tfWith dl (vCons PV.imm (xV 14) (vCons PV.imm (xV 11) (xC [])))) (xV 10))) (xB (xBin (rdEqP true) (xBin rdIx (xQ (xV 14)) (xC (PyData.int 0))) (xBin rdIx (xQ (xV 10)) (xC (PyData.int 0))))))) (zRet PV.imm (xC (PyData.bool false))) zNil
def t9 (dl : Dl) : TSt := zPar PV.own PV.own 15 7 (xC (OC.dic [])) (xLst (xCons (xTup (xCons (xV 10) (xCons (xTup (xC [])) (xC [])))) (xC [])))
def t10b0 (dl : Dl) : TSt := zPop 7 (yTup 2 (yCons (yName 12) (yCons (yName 16) yNil)))
def t10b1 (dl : Dl) : TSt := zIf (xAnd (xB (xBin (rdEqP false) (xBin rdIx (xQ (xV 12)) (xC (PyData.int 0))) (xC (PyData.str (Str.ofString "name"))))) (xB (xBin (rdIn true) (xBin rdIx (xQ (xV 12)) (xC (PyData.int 1))) (xQ (xV 16))))) (zDput 15 (xBin rdIx (xQ (xV 12)) (xC (PyData.int 1))) (xC (PyData.bool true))) zNil
def t10b2 (dl : Dl) : TSt := zSet PV.imm 11 (xCall tfParts dl (vCons PV.imm (xV 12) (xC [])))
def t10b3b0 (dl : Dl) : TSt := zSet PV.imm 17 (xTup (xC []))
def t10b3b1 (dl : Dl) : TSt := zIf (xB (xBin (rdEqP false) (xBin rdIx (xQ (xV 12)) (xC (PyData.int 0))) (xC (PyData.str (Str.ofString "fn"))))) (zSet PV.imm 17 (xUn rdTuple (xNQ (xLc (iT (xBin rdIx (xQ (xV 12)) (xC (PyData.int 1)))) (yTup 2 (yCons (yName 18) (yCons (yName 19) yNil))) (xC true) (xV 18) (List.map (fun x => x.snd) [(Str.ofString "name", 18), (Str.ofString "kind", 19)]))))) zNil
def t10b3b2 (dl : Dl) : TSt := zIf (xAnd (xB (xBin (rdIn false) (xBin rdIx (xQ (xV 12)) (xC (PyData.int 0))) (xNQ (xLst (xCons (xC (PyData.str (Str.ofString "let"))) (xCons (xC (PyData.str (Str.ofString "try"))) (xC []))))))) (xB (xBin (rdEqP false) (xV 2) (xC (PyData.int 1))))) (zSet PV.imm 17 (xIf (xB (xBin (rdEqP false) (xBin rdIx (xQ (xV 12)) (xC (PyData.int 0))) (xC (PyData.str (Str.ofString "let"))))) (xTup (xCons (xBin rdIx (xQ (xV 12)) (xC (PyData.int 1))) (xC []))) (xTup (xCons (xBin rdIx (xQ (xV 12)) (xC (PyData.int 2))) (xC []))))) zNil
def t10b3b3 (dl : Dl) : TSt := zIf (xB (xBin (rdEq true) (xCall tfBound dl (vCons PV.imm (xV 12) (vCons PV.imm (xV 2) (xC [])))) (xV 17))) (zRet PV.imm (xC (PyData.bool false))) zNil
def t10b3b4 (dl : Dl) : TSt := zAppG 7 (xTup (xCons (xBin rdIx (xQ (xV 11)) (xV 2)) (xCons (xBin rdCatT (xV 16) (xV 17)) (xC []))))
def t10b3 (dl : Dl) : TSt := zFor (iR1 (xUn rdLen (xQ (xV 11)))) (yName 2) ((zSeq (t10b3b0 dl) (zSeq (t10b3b1 dl) (zSeq (t10b3b2 dl) (zSeq (t10b3b3 dl) (t10b3b4 dl))))))
def t10 (dl : Dl) : TSt := zWhile (xAnd (xB (xBin (rd0 fun i j => PyData.bool (decide (j < i))) (xUn rdLen (xVQ 7)) (xC (PyData.int 0)))) (xB (xBin (rd0 fun i j => PyData.bool (decide (i < j))) (xBin rdIx (xQ (xV 5)) (xC (PyData.int 0))) (xC (PyData.int 3000))))) ((zSeq (t10b0 dl) (zSeq (t10b1 dl) (zSeq (t10b2 dl) (t10b3 dl)))))
def t11 (dl : Dl) : TSt := zIf (xAnd (xB (xBin (rd0 fun i j => PyData.bool (decide (i < j))) (xBin rdIx (xQ (xV 5)) (xC (PyData.int 0))) (xC (PyData.int 3000)))) (xB (xBin (rdEq true) (xCall (tfFree 19) dl (vCons PV.imm (xV 10) (xC []))) (xUn rdTuple (xNQ (xSortD 15)))))) (zRet PV.imm (xC (PyData.bool false))) zNil
def t12 (dl : Dl) : TSt := zRet PV.imm (xAndV (xBin (rdEq false) (xCall tfParts dl (vCons PV.imm (xTup (xCons (xC (PyData.str (Str.ofString "call"))) (xCons (xTup (xCons (xC (PyData.str (Str.ofString "name"))) (xCons (xC (PyData.str (Str.ofString "f"))) (xC [])))) (xCons (xTup (xCons (xTup (xCons (xC (PyData.str (Str.ofString "unit"))) (xC []))) (xC []))) (xC []))))) (xC []))) (xTup (xCons (xTup (xCons (xC (PyData.str (Str.ofString "name"))) (xCons (xC (PyData.str (Str.ofString "f"))) (xC [])))) (xCons (xTup (xCons (xC (PyData.str (Str.ofString "unit"))) (xC []))) (xC []))))) (xBin (rdEq false) (xCall (tfFree 19) dl (vCons PV.imm (xTup (xCons (xC (PyData.str (Str.ofString "let"))) (xCons (xC (PyData.str (Str.ofString "x"))) (xCons (xTup (xCons (xC (PyData.str (Str.ofString "name"))) (xCons (xC (PyData.str (Str.ofString "x"))) (xC [])))) (xCons (xTup (xCons (xC (PyData.str (Str.ofString "name"))) (xCons (xC (PyData.str (Str.ofString "x"))) (xC [])))) (xC [])))))) (xC []))) (xTup (xCons (xC (PyData.str (Str.ofString "x"))) (xC [])))))
def tLaw (dl : Dl) : TSt := zSeq (t0 dl) (zSeq (t1 dl) (zSeq (t2 dl) (zSeq (t3 dl) (zSeq (t4 dl) (zSeq (t5 dl) (zSeq (t6 dl) (zSeq (t7 dl) (zSeq (t8 dl) (zSeq (t9 dl) (zSeq (t10 dl) (zSeq (t11 dl) (t12 dl))))))))))))

section
variable {P : Program} {w : World} {K : PySem.W.Frag} {mg : Str → Option Value} {base : Heap} {f : Addr} {fd : FuncData} {f_parts f_with_parts f_tree_at f_bound_in f_free_names f_addresses f_size_of f__law_draw f__law_tree f__law_parts : Addr} {fd_parts fd_with_parts fd_tree_at fd_bound_in fd_free_names fd_addresses fd_size_of fd__law_draw fd__law_tree fd__law_parts : FuncData}
theorem der_law (m_len : mg "len" = none) (m_int : mg "int" = none) (m_str : mg "str" = none) (m_tuple : mg "tuple" = none) (m_range : mg "range" = none) (m_max : mg "max" = none) (m_sorted : mg "sorted" = none) (G_parts : FnOk P w K mg base CX0 1 f_parts fd_parts ["tree"] (Prm K tfParts)) (g_parts : mg "parts" = some (.ref f_parts)) (F_parts : Fun K "parts" "parts" s_parts f_parts fd_parts) (b_parts : Binds K fd_parts ["tree"] []) (G_with_parts : FnOk P w K mg base CX0 1 f_with_parts fd_with_parts ["tree", "some"] (Prm K tfWith)) (g_with_parts : mg "with_parts" = some (.ref f_with_parts)) (F_with_parts : Fun K "with_parts" "with_parts" s_with_parts f_with_parts fd_with_parts) (b_with_parts : Binds K fd_with_parts ["tree", "some"] []) (G_tree_at : FnOk P w K mg base CX0 2 f_tree_at fd_tree_at ["program", "address"] (Prm K tfTreeAt)) (g_tree_at : mg "tree_at" = some (.ref f_tree_at)) (F_tree_at : Fun K "tree_at" "tree_at" s_tree_at f_tree_at fd_tree_at) (b_tree_at : Binds K fd_tree_at ["program", "address"] []) (G_bound_in : FnOk P w K mg base CX0 1 f_bound_in fd_bound_in ["tree", "at"] (Prm K tfBound)) (g_bound_in : mg "bound_in" = some (.ref f_bound_in)) (F_bound_in : Fun K "bound_in" "bound_in" s_bound_in f_bound_in fd_bound_in) (b_bound_in : Binds K fd_bound_in ["tree", "at"] []) (G_free_names : FnOk P w K mg base CX0 20 f_free_names fd_free_names ["tree"] (Prm K (tfFree 19))) (g_free_names : mg "free_names" = some (.ref f_free_names)) (F_free_names : Fun K "free_names" "free_names" s_free_names f_free_names fd_free_names) (b_free_names : Binds K fd_free_names ["tree"] []) (G_addresses : FnOk P w K mg base CX0 2 f_addresses fd_addresses ["program"] (Prm K tfAddr)) (g_addresses : mg "addresses" = some (.ref f_addresses)) (F_addresses : Fun K "addresses" "addresses" s_addresses f_addresses fd_addresses) (b_addresses : Binds K fd_addresses ["program"] []) (G_size_of : FnOk P w K mg base CX0 2 f_size_of fd_size_of ["tree"] (Prm K tfSize)) (g_size_of : mg "size_of" = some (.ref f_size_of)) (F_size_of : Fun K "size_of" "size_of" s_size_of f_size_of fd_size_of) (b_size_of : Binds K fd_size_of ["tree"] []) (G__law_draw : FnOk P w K mg base CX0 1 f__law_draw fd__law_draw ["state", "many"] (Prm K tfDraw1)) (g__law_draw : mg "_law_draw" = some (.ref f__law_draw)) (F__law_draw : Fun K "_law_draw" "_law_draw" s__law_draw f__law_draw fd__law_draw) (b__law_draw : Binds K fd__law_draw ["state", "many"] []) (G__law_tree : FnG P w K mg base 4 f__law_tree fd__law_tree ["state", "many"] (Prm K tfTree)) (g__law_tree : mg "_law_tree" = some (.ref f__law_tree)) (F__law_tree : Fun K "_law_tree" "_law_tree" s__law_tree f__law_tree fd__law_tree) (b__law_tree : Binds K fd__law_tree ["state", "many"] []) (G__law_parts : FnOk P w K mg base CX0 1 f__law_parts fd__law_parts ["tree"] (Prm K tfParts)) (g__law_parts : mg "_law_parts" = some (.ref f__law_parts)) (F__law_parts : Fun K "_law_parts" "_law_parts" s__law_parts f__law_parts fd__law_parts) (b__law_parts : Binds K fd__law_parts ["tree"] [])
    {cdv : Value} {A : Around} {outer : List Env} {s : Shared} {H : Hp} {E : XK} (hgd : (A.deeper (envOfC "law" (defScope s_law) s.heap.objs.size f cdv)).guards = some []) (hr : Room 20 (A.deeper (envOfC "law" (defScope s_law) s.heap.objs.size f cdv))) (e : Ent) : PSxs (cxOf CX0 P w K mg base N_law "law" (defScope s_law) f cdv A outer s H E).nox e ((defBody s_law).drop 1) (tLaw e.toDl) := by
  have M_free_names : MonoF (tfFree 19) := M_free_names
  exact (zs_cons (z_set (i := 3) kvD sc_law.nd rfl (.inl rfl) (pd_tuple (by rfl) m_tuple (pq_n (pn_lc (own := [("k", 2)]) rfl sc_law.nd (pi_r1 (by rfl) m_range (pd_add pd_int (pd_call M__law_draw G__law_draw (hr.mono (by omega)) (by rfl) g__law_draw F__law_draw.kp b__law_draw pass0 (pav_r (pr_v (pv 1)) (pav_d pd_int pav_nil))))) (blkOk_by (own := [("k", 2)]) (N := N_law) (sc := defScope s_law) (by decide +kernel)) (fun _ _ _ _ _ => (y_name (pg_name (i := 2) sc_law.nd rfl (.inl rfl)))) (fun _ _ _ _ _ => px_yes) (fun _ _ _ _ _ => (pd_tup (pad_cons (pd_addS pd_str (pd_strI (by rfl) m_str (pd_v (pv 2)))) (pad_cons (pd_tup pad_nil) (pad_cons pd_str (pad_cons (pd_callG M__law_tree G__law_tree hgd (hr.mono (by omega)) (by rfl) g__law_tree F__law_tree.kp b__law_tree (pav_r (pr_v (pv 1)) (pav_d (pd_add pd_int (pd_call M__law_draw G__law_draw (hr.mono (by omega)) (by rfl) g__law_draw F__law_draw.kp b__law_draw pass0 (pav_r (pr_v (pv 1)) (pav_d pd_int pav_nil)))) pav_nil))) pad_nil)))))) (by decide)))))
  (zs_cons (z_par (i := 4) (j := 5) kvN kvN (by rfl) sc_law.nd rfl rfl (by decide) rfl rfl (pn_lst pad_nil) (pn_lst pad_nil) (by rfl))
  (zs_cons (z_for PassesOwn.never rfl (pi_r1 (by rfl) m_range (pd_len (by rfl) m_len (pq_d (pd_v (pv 3))))) (y_name (pg_name (i := 6) sc_law.nd rfl (.inl rfl)))
    (zs_cons (z_set (i := 7) kvN sc_law.nd rfl (.inl rfl) (pn_lst (pad_cons (pd_tup (pad_cons (pd_tup (pad_cons (pd_v (pv 6)) pad_nil)) (pad_cons (pd_ix (pq_d (pd_ix (pq_d (pd_v (pv 3))) (pd_v (pv 6)) (fun _ _ => rfl))) pd_int (fun _ _ => rfl)) pad_nil))) pad_nil)))
    (zs_cons (z_set (i := 8) kvD sc_law.nd rfl (.inl rfl) pd_int)
    (zs_cons (z_while PassesOwn.never (pb_w (pw_a (pb_c (pc_gt (pd_len (by rfl) m_len (pq_v (pv 7))) pd_int) (nomark _)) (pw_a1 (pb_c (pc_lt (pd_v (pv 8)) pd_int) (nomark _)))))
      (zs_cons (z_pop (pv 7) (y_tup (n := 2) (by rfl) (ys_cons (y_name (pg_name (i := 9) sc_law.nd rfl (.inr rfl))) (ys_cons (y_name (pg_name (i := 10) sc_law.nd rfl (.inl rfl))) ys_nil))))
      (zs_cons (z_app (pv 4) (pd_v (pv 9)))
      (zs_cons (z_set (i := 8) kvD sc_law.nd rfl (.inl rfl) (pd_add (pd_v (pv 8)) pd_int))
      (zs_cons (z_if (pb_w (pw_a (pb_c (pc_lt (pd_len (by rfl) m_len (pq_v (pv 4))) pd_int) (nomark _)) (pw_a1 (pb_w (pw_o (pb_c (pc_neD hr.units (pd_call M_parts G_parts (hr.mono (by omega)) (by rfl) g_parts F_parts.kp b_parts pass0 (pav_d (pd_v (pv 10)) pav_nil)) (pd_call M__law_parts G__law_parts (hr.mono (by omega)) (by rfl) g__law_parts F__law_parts.kp b__law_parts pass0 (pav_d (pd_v (pv 10)) pav_nil))) (nomark _)) (pw_o1 (pb_c (pc_neD hr.units (pd_call M_tree_at G_tree_at (hr.mono (by omega)) (by rfl) g_tree_at F_tree_at.kp b_tree_at pass0 (pav_d (pd_v (pv 3)) (pav_d (pd_v (pv 9)) pav_nil))) (pd_v (pv 10))) (nomark _))))))))
        (zs_one (z_ret kvD pd_bl))
        zs_nil)
      (zs_cons (z_set (i := 11) kvD sc_law.nd rfl (.inr rfl) (pd_call M__law_parts G__law_parts (hr.mono (by omega)) (by rfl) g__law_parts F__law_parts.kp b__law_parts pass0 (pav_d (pd_v (pv 10)) pav_nil)))
      (zs_one (z_set (i := 7) kvN sc_law.nd rfl (.inl rfl) (pn_cat (pq_v (pv 7)) (pq_n (pn_lc (own := [("k", 2)]) rfl sc_law.nd (pi_r1 (by rfl) m_range (pd_len (by rfl) m_len (pq_d (pd_v (pv 11))))) (blkOk_by (own := [("k", 2)]) (N := N_law) (sc := defScope s_law) (by decide +kernel)) (fun _ _ _ _ _ => (y_name (pg_name (i := 2) sc_law.nd rfl (.inl rfl)))) (fun _ _ _ _ _ => px_yes) (fun _ _ _ _ _ => (pd_tup (pad_cons (pd_cat (pd_v (pv 9)) (pd_tup (pad_cons (pd_v (pv 2)) pad_nil))) (pad_cons (pd_ix (pq_d (pd_v (pv 11))) (pd_v (pv 2)) (fun _ _ => rfl)) pad_nil)))) (by decide))))))))))))
    (zs_one (z_app (pv 5) (pd_v (pv 8))))))))
  (zs_cons (z_frz (i := 5) (z_if (pb_c (pc_lt (pd_max rfl (by rfl) m_max (pq_d (pd_v (pv 5)))) pd_int) (nomark _))
    (zs_one (z_if (pb_w (pw_o (pb_c (pc_neD hr.units (pd_n (pn_call M_addresses G_addresses (hr.mono (by omega)) (by rfl) g_addresses F_addresses.kp b_addresses pass0 (pav_d (pd_v (pv 3)) pav_nil))) (pd_n (pn_sorted hr.units (by rfl) m_sorted (by decide +kernel) (pq_v (pv 4))))) (nomark _)) (pw_o1 (pb_c (pc_neD hr.units (pd_n (pn_lc (own := [("one", 12)]) rfl sc_law.nd (pi_t (pd_v (pv 3))) (blkOk_by (own := [("one", 12)]) (N := N_law) (sc := defScope s_law) (by decide +kernel)) (fun _ _ _ _ _ => (y_name (pg_name (i := 12) sc_law.nd rfl (.inl rfl)))) (fun _ _ _ _ _ => px_yes) (fun _ _ _ _ _ => (pd_call M_size_of G_size_of (hr.mono (by omega)) (by rfl) g_size_of F_size_of.kp b_size_of pass0 (pav_d (pd_ix (pq_d (pd_v (pv 12))) pd_int (fun _ _ => rfl)) pav_nil))) (by decide))) (pd_v (pv 5))) (nomark _)))))
      (zs_one (z_ret kvD pd_bl))
      zs_nil))
    zs_nil))
  (zs_cons (z_set (i := 10) kvD sc_law.nd rfl (.inl rfl) (pd_ix (pq_d (pd_ix (pq_d (pd_v (pv 3))) pd_int (fun _ _ => rfl))) pd_int (fun _ _ => rfl)))
  (zs_cons (z_set (i := 11) kvD sc_law.nd rfl (.inr rfl) (pd_call M_parts G_parts (hr.mono (by omega)) (by rfl) g_parts F_parts.kp b_parts pass0 (pav_d (pd_v (pv 10)) pav_nil)))
  (zs_cons (z_set (i := 13) kvD sc_law.nd rfl (.inl rfl) (pd_tuple (by rfl) m_tuple (pq_n (pn_lc (own := [("k", 2)]) rfl sc_law.nd (pi_r1 (by rfl) m_range (pd_len (by rfl) m_len (pq_d (pd_v (pv 11))))) (blkOk_by (own := [("k", 2)]) (N := N_law) (sc := defScope s_law) (by decide +kernel)) (fun _ _ _ _ _ => (y_name (pg_name (i := 2) sc_law.nd rfl (.inl rfl)))) (fun _ _ _ _ _ => px_yes) (fun _ _ _ _ _ => (pd_tup (pad_cons pd_str (pad_cons (pd_add pd_int (pd_v (pv 2))) pad_nil)))) (by decide)))))
  (zs_cons (z_set (i := 14) kvD sc_law.nd rfl (.inl rfl) (pd_call M_with_parts G_with_parts (hr.mono (by omega)) (by rfl) g_with_parts F_with_parts.kp b_with_parts pass0 (pav_d (pd_v (pv 10)) (pav_d (pd_v (pv 13)) pav_nil))))
  (zs_cons (z_if (pb_w (pw_o (pb_c (pc_neD hr.units (pd_call M_parts G_parts (hr.mono (by omega)) (by rfl) g_parts F_parts.kp b_parts pass0 (pav_d (pd_v (pv 14)) pav_nil)) (pd_v (pv 13))) (nomark _)) (pw_o (pb_c (pc_neD hr.units (pd_call M_with_parts G_with_parts (hr.mono (by omega)) (by rfl) g_with_parts F_with_parts.kp b_with_parts pass0 (pav_d (pd_v (pv 14)) (pav_d (pd_v (pv 11)) pav_nil))) (pd_v (pv 10))) (nomark _)) (pw_o1 (pb_c (pc_ne (pd_ix (pq_d (pd_v (pv 14))) pd_int (fun _ _ => rfl)) (pd_ix (pq_d (pd_v (pv 10))) pd_int (fun _ _ => rfl))) (nomark _))))))
    (zs_one (z_ret kvD pd_bl))
    zs_nil)
  (zs_cons (z_par (i := 15) (j := 7) kvN kvN (by rfl) sc_law.nd rfl rfl (by decide) rfl rfl pn_dnew (pn_lst (pad_cons (pd_tup (pad_cons (pd_v (pv 10)) (pad_cons (pd_tup pad_nil) pad_nil))) pad_nil)) (by rfl))
  (zs_cons (z_while PassesOwn.never (pb_w (pw_a (pb_c (pc_gt (pd_len (by rfl) m_len (pq_v (pv 7))) pd_int) (nomark _)) (pw_a1 (pb_c (pc_lt (pd_ix (pq_d (pd_v (pv 5))) pd_int (fun _ _ => rfl)) pd_int) (nomark _)))))
    (zs_cons (z_pop (pv 7) (y_tup (n := 2) (by rfl) (ys_cons (y_name (pg_name (i := 12) sc_law.nd rfl (.inl rfl))) (ys_cons (y_name (pg_name (i := 16) sc_law.nd rfl (.inl rfl))) ys_nil))))
    (zs_cons (z_if (pb_w (pw_a (pb_c (pc_eq (pd_ix (pq_d (pd_v (pv 12))) pd_int (fun _ _ => rfl)) pd_str) (nomark _)) (pw_a1 (pb_c (pc_nin (pd_ix (pq_d (pd_v (pv 12))) pd_int (fun _ _ => rfl)) (pq_d (pd_v (pv 16)))) rfl))))
      (zs_one (z_dput hr.units (pv 15) (pd_ix (pq_d (pd_v (pv 12))) pd_int (fun _ _ => rfl)) pd_bl))
      zs_nil)
    (zs_cons (z_set (i := 11) kvD sc_law.nd rfl (.inr rfl) (pd_call M__law_parts G__law_parts (hr.mono (by omega)) (by rfl) g__law_parts F__law_parts.kp b__law_parts pass0 (pav_d (pd_v (pv 12)) pav_nil)))
    (zs_one (z_for PassesOwn.never rfl (pi_r1 (by rfl) m_range (pd_len (by rfl) m_len (pq_d (pd_v (pv 11))))) (y_name (pg_name (i := 2) sc_law.nd rfl (.inl rfl)))
      (zs_cons (z_set (i := 17) kvD sc_law.nd rfl (.inl rfl) (pd_tup pad_nil))
      (zs_cons (z_if (pb_c (pc_eq (pd_ix (pq_d (pd_v (pv 12))) pd_int (fun _ _ => rfl)) pd_str) (nomark _))
        (zs_one (z_set (i := 17) kvD sc_law.nd rfl (.inl rfl) (pd_tuple (by rfl) m_tuple (pq_n (pn_lc (own := [("name", 18), ("kind", 19)]) rfl sc_law.nd (pi_t (pd_ix (pq_d (pd_v (pv 12))) pd_int (fun _ _ => rfl))) (blkOk_by (own := [("name", 18), ("kind", 19)]) (N := N_law) (sc := defScope s_law) (by decide +kernel)) (fun _ _ _ _ _ => (y_tup (n := 2) (by rfl) (ys_cons (y_name (pg_name (i := 18) sc_law.nd rfl (.inl rfl))) (ys_cons (y_name (pg_name (i := 19) sc_law.nd rfl (.inl rfl))) ys_nil)))) (fun _ _ _ _ _ => px_yes) (fun _ _ _ _ _ => (pd_v (pv 18))) (by decide))))))
        zs_nil)
      (zs_cons (z_if (pb_w (pw_a (pb_c (pc_in (pd_ix (pq_d (pd_v (pv 12))) pd_int (fun _ _ => rfl)) (pq_n (pn_lst (pad_cons pd_str (pad_cons pd_str pad_nil))))) rfl) (pw_a1 (pb_c (pc_eq (pd_v (pv 2)) pd_int) (nomark _)))))
        (zs_one (z_set (i := 17) kvD sc_law.nd rfl (.inl rfl) (px_if (pb_c (pc_eq (pd_ix (pq_d (pd_v (pv 12))) pd_int (fun _ _ => rfl)) pd_str) (nomark _)) (pd_tup (pad_cons (pd_ix (pq_d (pd_v (pv 12))) pd_int (fun _ _ => rfl)) pad_nil)) (pd_tup (pad_cons (pd_ix (pq_d (pd_v (pv 12))) pd_int (fun _ _ => rfl)) pad_nil)))))
        zs_nil)
      (zs_cons (z_if (pb_c (pc_neD hr.units (pd_call M_bound_in G_bound_in (hr.mono (by omega)) (by rfl) g_bound_in F_bound_in.kp b_bound_in pass0 (pav_d (pd_v (pv 12)) (pav_d (pd_v (pv 2)) pav_nil))) (pd_v (pv 17))) (nomark _))
        (zs_one (z_ret kvD pd_bl))
        zs_nil)
      (zs_one (z_app (pv 7) (pd_tup (pad_cons (pd_ix (pq_d (pd_v (pv 11))) (pd_v (pv 2)) (fun _ _ => rfl)) (pad_cons (pd_cat (pd_v (pv 16)) (pd_v (pv 17))) pad_nil)))))))))))))))
  (zs_cons (z_if (pb_w (pw_a (pb_c (pc_lt (pd_ix (pq_d (pd_v (pv 5))) pd_int (fun _ _ => rfl)) pd_int) (nomark _)) (pw_a1 (pb_c (pc_neD hr.units (pd_call M_free_names G_free_names (hr.mono (by omega)) (by rfl) g_free_names F_free_names.kp b_free_names pass0 (pav_d (pd_v (pv 10)) pav_nil)) (pd_tuple (by rfl) m_tuple (pq_n (pn_sortedD rfl (by rfl) m_sorted (pv 15))))) (nomark _)))))
    (zs_one (z_ret kvD pd_bl))
    zs_nil)
  (zs_one (z_ret kvD (pd_and (pd_c (pc_eqD hr.units (pd_call M_parts G_parts (hr.mono (by omega)) (by rfl) g_parts F_parts.kp b_parts pass0 (pav_d (pd_tup (pad_cons pd_str (pad_cons (pd_tup (pad_cons pd_str (pad_cons pd_str pad_nil))) (pad_cons (pd_tup (pad_cons (pd_tup (pad_cons pd_str pad_nil)) pad_nil)) pad_nil)))) pav_nil)) (pd_tup (pad_cons (pd_tup (pad_cons pd_str (pad_cons pd_str pad_nil))) (pad_cons (pd_tup (pad_cons pd_str pad_nil)) pad_nil)))) (nomark _)) (pd_one (pd_c (pc_eqD hr.units (pd_call M_free_names G_free_names (hr.mono (by omega)) (by rfl) g_free_names F_free_names.kp b_free_names pass0 (pav_d (pd_tup (pad_cons pd_str (pad_cons pd_str (pad_cons (pd_tup (pad_cons pd_str (pad_cons pd_str pad_nil))) (pad_cons (pd_tup (pad_cons pd_str (pad_cons pd_str pad_nil))) pad_nil))))) pav_nil)) (pd_tup (pad_cons pd_str pad_nil))) (nomark _))))))))))))))))))
end
end K5
set_option Elab.async false
set_option linter.all false
set_option maxRecDepth 100000
set_option maxHeartbeats 8000000
set_option pp.maxSteps 500
namespace K5
open PySem PySem.Spec PyProof.Rows L2 PL
section
variable {ρ : Ev} {dl : Dl} {st c : Addr} {ta tb : TX D} {d : D} {x y : D}
abbrev xDl (dl : Dl) (ta : TX D) : TX D := xCall tfDraw1 dl (vCons .raw (xVR 1) (vCons .imm ta (xC [])))
theorem gs_dl {n : Int} (h0 : ρ[1]? = some (some (.raw (.ref st)))) (S : St1In dl st c) (h : Gv ta ρ (.int n)) (hn : 0 < n) (hb : n.natAbs < 2 ^ 60) : Gs (xDl dl ta) ρ fun d => ∃ r : Int, d = .int r ∧ 0 ≤ r ∧ r < n :=
  gs_call (gv_vc (gv_vr 1 h0) (gv_vc h gv_v0)) fun Q q => ⟨st, c, n, rfl, S, hn, hb, fun r h1 h2 => q _ ⟨r, rfl, h1, h2⟩⟩
theorem gs_plus1 {n : Nat} (h : Gs ta ρ fun d => ∃ r : Int, d = .int r ∧ 0 ≤ r ∧ r < (n : Nat)) : Gs (xBin (rd0 fun i j => PyData.int (i + j)) (xC (PyData.int 1)) ta) ρ fun d => ∃ m : Nat, d = nat m ∧ 1 ≤ m ∧ m ≤ n :=
  gs_bin (R := fun x => x = .int 1) (S := fun _ d => ∃ r : Int, d = .int r ∧ 0 ≤ r ∧ r < (n : Nat)) (gs_v gv_c) (fun _ _ => h) fun x y ex ⟨r, e, r0, r1⟩ Q q => by
    subst ex
    subst e
    refine q (.int (1 + r)) ⟨(1 + r).toNat, ?_, by omega, by omega⟩
    show _ = PyData.int (((1 + r).toNat : Nat) : Int)
    rw [show (((1 + r).toNat : Nat) : Int) = 1 + r by omega]
theorem shaped_ok {n : Nat} (h : okD n d) (hn : n ≤ 64) : SeqAt.shaped d = true := by
  unfold SeqAt.shaped
  rw [h.2.1, decide_eq_true (Nat.le_trans h.2.2 hn)]
  rfl
theorem gv_neD {n : Nat} (h : Gv ta ρ x) (h2 : Gv tb ρ x) (hx : okD n x) (hn : n ≤ 64) : Gv (xB (xBin (rdEq true) ta tb)) ρ false := by
  have g := gv_b (gv_eqD (neg := true) h h2 (shaped_ok hx hn) (shaped_ok hx hn))
  rw [SeqAt.eqv_refl x hx.2.1] at g
  exact g
theorem gv_eqDT {n : Nat} (h : Gv ta ρ x) (h2 : Gv tb ρ x) (hx : okD n x) (hn : n ≤ 64) : Gv (xBin (rdEq false) ta tb) ρ (.bool true) := by
  have g := gv_eqD (neg := false) h h2 (shaped_ok hx hn) (shaped_ok hx hn)
  rw [SeqAt.eqv_refl x hx.2.1] at g
  exact g
end
structure Pr (ps : List (Str × T)) : Prop where
  lo : 1 ≤ ps.length
  hi : ps.length ≤ 3
  ok : ∀ p ∈ ps, p.2.fine ∧ p.2.dp ≤ 15
theorem okD_kids {t : T} (h : t.fine) (hd : t.dp ≤ 15) : okD 37 (.tuple (t.kids.map T.d)) := okD_tup fun d hd' => by
  obtain ⟨u, hu, rfl⟩ := List.mem_map.mp hd'
  have h1 := dp_kids t u hu
  have hf : u.fine := by
    match t, h, hu with
    | .n1 z a, h, hu =>
      obtain rfl := List.mem_singleton.mp hu
      cases z <;> first | exact h | exact h.2
    | .n2 z a b, h, hu =>
      rcases List.mem_cons.mp hu with rfl | hu
      · exact h.1
      · obtain rfl := List.mem_singleton.mp hu
        exact h.2
    | .n3 z a b d, h, hu =>
      rcases List.mem_cons.mp hu with rfl | hu
      · exact h.1
      · rcases List.mem_cons.mp hu with rfl | hu
        · exact h.2.1
        · obtain rfl := List.mem_singleton.mp hu
          exact h.2.2
  exact okD_mono (okT u hf) (by omega)
theorem fine_kids {t : T} (h : t.fine) : ∀ u ∈ t.kids, u.fine := fun u hu => by
  match t, h, hu with
  | .n1 z a, h, hu =>
    obtain rfl := List.mem_singleton.mp hu
    cases z <;> first | exact h | exact h.2
  | .n2 z a b, h, hu =>
    rcases List.mem_cons.mp hu with rfl | hu
    · exact h.1
    · obtain rfl := List.mem_singleton.mp hu
      exact h.2
  | .n3 z a b d, h, hu =>
    rcases List.mem_cons.mp hu with rfl | hu
    · exact h.1
    · rcases List.mem_cons.mp hu with rfl | hu
      · exact h.2.1
      · obtain rfl := List.mem_singleton.mp hu
        exact h.2.2
section
variable {dl : Dl} {st c : Addr} {v0 : V} {s2 s3 s4 s5 s6 s7 s8 s9 s10 s11 s12 s13 s14 s15 s16 s17 s18 s19 : Option PV} {P : Es} {u : TSt} {ps : List (Str × T)}
theorem defs_of : ∀ ys : List D, (∀ y ∈ ys, ∃ p : Str × T, y = defD p ∧ p.2.fine ∧ p.2.dp ≤ 15) → ∃ ps : List (Str × T), ys = ps.map defD ∧ ∀ p ∈ ps, p.2.fine ∧ p.2.dp ≤ 15
  | [], _ => ⟨[], rfl, fun p h => (by cases h)⟩
  | y :: ys, h => by
    obtain ⟨p, hp, hq⟩ := h y List.mem_cons_self
    obtain ⟨ps, h1, h2⟩ := defs_of ys fun z hz => h z (List.mem_cons_of_mem _ hz)
    refine ⟨p :: ps, by rw [hp, h1, List.map_cons], fun x hx => ?_⟩
    rcases List.mem_cons.mp hx with rfl | hx
    · exact hq
    · exact h2 x hx
theorem t0_ok (S : St1In dl st c) (q : ∀ ps : List (Str × T), Pr ps → u P [some (.raw v0), some (.raw (.ref st)), s2, some (.imm (prD ps)), s4, s5, s6, s7, s8, s9, s10, s11, s12, s13, s14, s15, s16, s17, s18, s19]) : zSeq (t0 dl) u P [some (.raw v0), some (.raw (.ref st)), s2, s3, s4, s5, s6, s7, s8, s9, s10, s11, s12, s13, s14, s15, s16, s17, s18, s19] := by
  refine sq_setS (R := fun d => ∃ xs, d = .tuple xs ∧ ∃ ps, Pr ps ∧ xs = ps.map defD) (gs_tuple (R := fun xs => ∃ ps, Pr ps ∧ xs = ps.map defD) (gs_nq (R := fun xs => ∃ ps, Pr ps ∧ xs = ps.map defD) (gs_lc (R := fun xs => ∃ n : Nat, (1 ≤ n ∧ n ≤ 3) ∧ xs = intsD 0 n) (fun Q q => ?_) fun xs ⟨n, ⟨n1, n3⟩, e⟩ Q q => ?_))) fun d ⟨xs, e, ps, hps, ex⟩ => ?_
  · refine gs_plus1 (n := 3) (gs_dl (ρ := [some (.raw v0), some (.raw (.ref st)), s2, s3, s4, s5, s6, s7, s8, s9, s10, s11, s12, s13, s14, s15, s16, s17, s18, s19]) rfl S (gv_c (d := PyData.int 3)) (by decide) (by decide)) _ fun d ⟨m, e, m1, m3⟩ => ?_
    subst e
    exact ⟨⟨by omega, by omega⟩, q _ ⟨m, ⟨m1, m3⟩, rfl⟩⟩
  · subst e
    refine gs_lcR (ρ := [some (.raw v0), some (.raw (.ref st)), s2, s3, s4, s5, s6, s7, s8, s9, s10, s11, s12, s13, s14, s15, s16, s17, s18, s19]) (tl := xC (intsD 0 n)) (fun _ d => ∃ p : Str × T, d = defD p ∧ p.2.fine ∧ p.2.dp ≤ 15) gv_c (line3 (by rw [intsD_len]; omega)) (fun i d hd => ⟨_, gt_name, ?_⟩) (fun o => match o with | .lst ys => Q ys | _ => False) fun o ⟨ys, e, hyl, hy⟩ => ?_
    · have hin : i < n := by
        have := (List.getElem?_eq_some_iff.mp hd).1
        rwa [intsD_len] at this
      have e : d = .int (0 + (i : Nat)) := by
        unfold intsD at hd
        rw [List.getElem?_map, List.getElem?_range hin] at hd
        exact (Option.some.inj hd).symm
      subst e
      have hs : ∀ i < 3, (toString (0 + ((i : Nat) : Int)) : String).length ≤ 5 ∧ (0 + ((i : Nat) : Int)).natAbs.log2 < 1920 ∧ (Str.ofString "d").length + (Str.ofString (toString (0 + ((i : Nat) : Int)))).length ≤ 100 := by decide +kernel
      obtain ⟨_, h2, h3⟩ := hs i (by omega)
      refine gs_mono (gs_tup (gs_cons (gs_v (gv_addS gv_c (gv_strI (gv_v 2 rfl) h2) (Nat.le_trans h3 (by decide)))) (gs_cons (gs_v (gv_tup gv_nil)) (gs_cons (gs_v gv_c) (gs_cons (R := fun d => ∃ t : T, d = t.d ∧ t.fine ∧ t.dp ≤ 15) (gs_callA (gs_vc (gs_v (gv_vr 1 rfl)) (gs_vc (gs_plus1 (n := 12) (gs_dl rfl S gv_c (by decide) (by decide))) (gs_v gv_v0))) fun pvs hp Q q => ?_) (gs_v gv_nil))))) fun ds hd => ?_) fun d hd => ?_
      · obtain ⟨_, _, rfl, rfl, _, _, rfl, ⟨m, rfl, m1, m2⟩, rfl⟩ := hp
        exact ⟨st, c, m, rfl, S, by omega, fun t h1 h2 => q _ ⟨t, rfl, h1, h2⟩⟩
      · obtain ⟨_, _, rfl, _, _, _, rfl, _, _, _, rfl, _, _, _, rfl, _, rfl⟩ := hd
        exact le20 rfl
      · obtain ⟨_, rfl, _, _, rfl, rfl, _, _, rfl, rfl, _, _, rfl, rfl, _, _, rfl, ⟨t, rfl, h1, h2⟩, rfl⟩ := hd
        exact ⟨(_, t), rfl, h1, h2⟩
    · subst e
      obtain ⟨ps, rfl, hok⟩ := defs_of ys fun y hyy => by
        obtain ⟨i, hi, e⟩ := List.getElem_of_mem hyy
        exact hy i y (by rw [← e]; exact List.getElem?_eq_getElem hi)
      rw [List.length_map, intsD_len] at hyl
      exact q _ ⟨ps, ⟨by omega, by omega, hok⟩, rfl⟩
  · rw [e, ex]
    exact q ps hps
end
end K5
set_option Elab.async false
set_option linter.all false
set_option maxRecDepth 100000
set_option maxHeartbeats 8000000
set_option pp.maxSteps 500
namespace K5
open PySem PySem.Spec PyProof.Rows L2 PL
theorem sz_pow : ∀ t : T, 2 * t.sz + 1 ≤ 3 ^ t.dp
  | .n0 _ => by show 2 * 1 + 1 ≤ 3 ^ 1; decide
  | .n1 _ a => by
    have h := sz_pow a
    show 2 * (1 + a.sz) + 1 ≤ 3 ^ (1 + a.dp)
    rw [Nat.pow_add]
    omega
  | .n2 _ a b => by
    have h1 := sz_pow a
    have h2 := sz_pow b
    have p1 : 3 ^ a.dp ≤ 3 ^ max a.dp b.dp := Nat.pow_le_pow_right (by omega) (by omega)
    have p2 : 3 ^ b.dp ≤ 3 ^ max a.dp b.dp := Nat.pow_le_pow_right (by omega) (by omega)
    show 2 * (1 + a.sz + b.sz) + 1 ≤ 3 ^ (1 + max a.dp b.dp)
    rw [Nat.pow_add]
    omega
  | .n3 _ a b c => by
    have h1 := sz_pow a
    have h2 := sz_pow b
    have h3 := sz_pow c
    have p1 : 3 ^ a.dp ≤ 3 ^ max a.dp (max b.dp c.dp) := Nat.pow_le_pow_right (by omega) (by omega)
    have p2 : 3 ^ b.dp ≤ 3 ^ max a.dp (max b.dp c.dp) := Nat.pow_le_pow_right (by omega) (by omega)
    have p3 : 3 ^ c.dp ≤ 3 ^ max a.dp (max b.dp c.dp) := Nat.pow_le_pow_right (by omega) (by omega)
    show 2 * (1 + a.sz + b.sz + c.sz) + 1 ≤ 3 ^ (1 + max a.dp (max b.dp c.dp))
    rw [Nat.pow_add]
    omega
theorem sz_small {t : T} (h : t.dp ≤ 15) : t.sz ≤ 7174453 := by
  have h1 := sz_pow t
  have h2 : 3 ^ t.dp ≤ 3 ^ 15 := Nat.pow_le_pow_right (by omega) h
  have e : 3 ^ 15 = 14348907 := by decide
  omega
theorem at_snoc : ∀ (r : List Nat) (t u c : T) (i : Nat), t.at r = some u → u.kids[i]? = some c → t.at (r ++ [i]) = some c
  | [], t, u, c, i, h, h2 => by
    unfold T.at at h
    cases h
    show T.at t [i] = _
    unfold T.at
    rw [h2]
    show T.at c [] = _
    unfold T.at
    rfl
  | j :: r, t, u, c, i, h, h2 => by
    unfold T.at at h
    show T.at t (j :: (r ++ [i])) = _
    unfold T.at
    split at h
    · rename_i v hv
      exact at_snoc r v u c i h h2
    · cases h
def Wy (k : Nat) (t : T) (p : Pt) : Prop := ∃ r, p.1 = k :: r ∧ t.at r = some p.2 ∧ p.2.fine ∧ r.length + p.2.dp ≤ 15
theorem wy_kw {k : Nat} {t : T} {p : Pt} (h : Wy k t p) : ∀ c ∈ kw p, Wy k t c := fun c hc => by
  obtain ⟨r, h1, h2, h3, h4⟩ := h
  unfold kw at hc
  obtain ⟨x, hx, rfl⟩ := List.mem_map.mp hc
  obtain ⟨i, hi⟩ := List.getElem?_of_mem hx
  rw [List.getElem?_zipIdx] at hi
  obtain ⟨y, hy, rfl⟩ := Option.map_eq_some_iff.mp hi
  have hm := List.mem_of_getElem? hy
  have hd := dp_kids p.2 y hm
  refine ⟨r ++ [0 + i], by rw [h1]; rfl, at_snoc r t p.2 y (0 + i) h2 (by rw [Nat.zero_add]; exact hy), fine_kids h3 y hm, ?_⟩
  rw [List.length_append, List.length_singleton]
  show _ + y.dp ≤ 15
  omega
def kidD (a : List Nat) (ks : List D) : D → D
  | .int j => .tuple [.tuple (a.map nat ++ [.int j]), ks.getD j.toNat .none]
  | _ => .none
theorem kid_all (p : Pt) : (intsD 0 p.2.kids.length).map (kidD p.1 (p.2.kids.map T.d)) = (kw p).map pD := by
  unfold intsD kw
  rw [List.map_map, List.map_map]
  apply List.ext_getElem?
  intro i
  rw [List.getElem?_map, List.getElem?_map, List.getElem?_zipIdx]
  cases hi : p.2.kids[i]? with
  | none =>
    rw [List.getElem?_eq_none (by rw [List.length_range]; exact List.getElem?_eq_none_iff.mp hi)]
    rfl
  | some x =>
    have hlt := (List.getElem?_eq_some_iff.mp hi).1
    rw [List.getElem?_range hlt]
    show some (PyData.tuple [.tuple (p.1.map nat ++ [.int (0 + (i : Nat))]), (p.2.kids.map T.d).getD (0 + ((i : Nat) : Int)).toNat .none]) = some (.tuple [.tuple ((p.1 ++ [0 + i]).map nat), x.d])
    rw [List.getD_eq_getElem?_getD, List.getElem?_map, show (0 + ((i : Nat) : Int)).toNat = i by omega, hi, List.map_append, Nat.zero_add, Int.zero_add]
    rfl
section
variable {dl : Dl} {st c : Addr} {v0 : V} {s2 s3 s4 s5 s6 s7 s8 s9 s10 s11 s12 s13 s14 s15 s16 s17 s18 s19 : Option PV} {P : Es} {u : TSt} {ps : List (Str × T)} {k : Nat} {nm : Str} {t : T} {due0 : List (List Nat)}
theorem tWh_ok (hp : Pr ps) (hk : ps[k]? = some (nm, t)) (hd0 : due0.length ≤ 9000) (q : ∀ (dn : List (List Nat)) (n : Nat) (l : List Pt) (x9 x10 x11 : Option PV), n ≤ 3000 → dn.length = n → (n < 3000 → n = t.sz ∧ dn = ad [k] t) → (∀ a ∈ dn, a ≠ []) →
    u P [some (.raw v0), some (.raw (.ref st)), s2, some (.imm (prD ps)), some (.own (.lst ((due0 ++ dn).map adD))), s5, some (.imm (nat k)), some (.own (.lst (l.map pD))), some (.imm (nat n)), x9, x10, x11, s12, s13, s14, s15, s16, s17, s18, s19]) : zSeq (t2b2 dl) u P [some (.raw v0), some (.raw (.ref st)), s2, some (.imm (prD ps)), some (.own (.lst (due0.map adD))), s5, some (.imm (nat k)), some (.own (.lst [pD ([k], t)])), some (.imm (nat 0)), s9, s10, s11, s12, s13, s14, s15, s16, s17, s18, s19] := by
  have ht := hp.ok _ (List.mem_of_getElem? hk)
  refine sq_while (fun m ρ => ∃ (dn : List (List Nat)) (n : Nat) (l : List Pt) (x9 x10 x11 : Option PV), ρ = [some (.raw v0), some (.raw (.ref st)), s2, some (.imm (prD ps)), some (.own (.lst ((due0 ++ dn).map adD))), s5, some (.imm (nat k)), some (.own (.lst (l.map pD))), some (.imm (nat n)), x9, x10, x11, s12, s13, s14, s15, s16, s17, s18, s19] ∧ m = 3000 - n ∧ n ≤ 3000 ∧ dn.length = n ∧ dn ++ ads l = ad [k] t ∧ n + szp l = t.sz ∧ (∀ p ∈ l, Wy k t p) ∧ ∀ a ∈ dn, a ≠ [])
    (m := 3000) ⟨[], 0, [([k], t)], s9, s10, s11, by rw [List.append_nil]; rfl, rfl, by omega, rfl, by rw [ads_one]; rfl, by simp [szp, szs], fun p h => ?_, fun a h => by cases h⟩ fun m ρ hW => ?_
  · rw [List.mem_singleton.mp h]
    exact ⟨[], rfl, by unfold T.at; rfl, ht.1, by show 0 + t.dp ≤ 15; rw [Nat.zero_add]; exact ht.2⟩
  obtain ⟨dn, n, l, x9, x10, x11, rfl, rfl, hn, hdn, had, hsz, hwy, hne⟩ := hW
  refine ⟨_, gv_and (gv_b (gv_i0 (gv_len (gv_vq 7 rfl)) gv_c)) (fun _ => gv_b (gv_i0 (gv_v 8 rfl) gv_c)), fun h => ?_, fun h => ?_⟩
  · obtain ⟨h1, h2⟩ := Bool.and_eq_true_iff.mp h
    have h2 : (n : Int) < 3000 := of_decide_eq_true h2
    obtain ⟨l', p, rfl⟩ : ∃ l' p, l = l' ++ [p] := by
      rcases List.eq_nil_or_concat l with rfl | ⟨l', u, e⟩
      · cases h1
      · exact ⟨l', u, by rw [e, List.concat_eq_append]⟩
    have hpw := hwy p (List.mem_append_right _ (List.mem_singleton.mpr rfl))
    obtain ⟨r, e1, e2, e3, e4⟩ := id hpw
    obtain ⟨pa, pt⟩ := p
    simp only at e1 e2 e3 e4
    have hpos : 1 ≤ pt.dp := by cases pt <;> simp [T.dp]
    have hkl := kids_le pt
    have hkw : (kw (pa, pt)).length = pt.kids.length := by unfold kw; rw [List.length_map, List.length_zipIdx]
    rw [szp_app, szp_kw] at hsz
    have hl1 := szp_len l'
    have hT : t.sz ≤ 7174453 := sz_small ht.2
    rw [show (l' ++ [(pa, pt)]).map pD = l'.map pD ++ [pD (pa, pt)] from List.map_append]
    refine sq_popG (d := pD (pa, pt)) rfl gt_tup2 ?_
    refine sq_app (xs := (due0 ++ dn).map adD) (d := adD pa) rfl (gv_v 9 rfl) (lineL (by rw [List.length_map, List.length_append]; omega)) ?_
    refine sq_set (gv_i0 (gv_v 8 rfl) gv_c) ?_
    refine sq_ifF ?_ ?_
    · have g1 : ∀ {ρ : Ev}, ρ[10]? = some (some (.imm pt.d)) → Gv (xCall tfParts dl (vCons PV.imm (xV 10) (xC []))) ρ (.tuple (pt.kids.map T.d)) := fun h => gv_call (gv_vc (gv_v 10 h) gv_v0) fun Q q => ⟨pt, rfl, q⟩
      have g := gv_and (gv_b (gv_i0 (g := fun i j => PyData.bool (decide (i < j))) (ρ := [some (.raw v0), some (.raw (.ref st)), s2, some (.imm (prD ps)), some (.own (.lst ((due0 ++ dn).map adD ++ [adD pa]))), s5, some (.imm (nat k)), some (.own (.lst (l'.map pD))), some (.imm (.int ((n : Nat) + 1))), some (.imm (adD pa)), some (.imm pt.d), x11, s12, s13, s14, s15, s16, s17, s18, s19]) (gv_len (gv_vq 4 rfl)) (gv_c (d := PyData.int 60)))) fun _ => gv_or (gv_neD (g1 rfl) (g1 rfl) (okD_kids e3 (by omega)) (by decide)) fun _ => gv_neD (gv_call (tf := tfTreeAt) (dl := dl) (d := pt.d) (gv_vc (f := PV.imm) (gv_v 3 rfl) (gv_vc (f := PV.imm) (gv_v 9 rfl) gv_v0)) fun Q q => ⟨ps, k, r, nm, t, pt, by rw [e1], hk, e2, by omega, q⟩) (gv_v 10 rfl) (okT pt e3) (by omega)
      rw [Bool.or_self, Bool.and_false] at g
      exact g
    refine sq_set (gv_call (gv_vc (gv_v 10 rfl) gv_v0) fun Q q => ⟨pt, rfl, q⟩) ?_
    refine st_setO (gv_catL (gv_vq 7 rfl) (gv_nq (gv_lcM (kidD pa (pt.kids.map T.d)) (gv_r1 (n := pt.kids.length) ?_ (by omega)) (line3 (by rw [intsD_len]; omega)) fun i d hd => ⟨_, gt_name, ?_⟩)) ?_) ?_
    · have g := gv_len (ρ := [some (.raw v0), some (.raw (.ref st)), s2, some (.imm (prD ps)), some (.own (.lst ((due0 ++ dn).map adD ++ [adD pa]))), s5, some (.imm (nat k)), some (.own (.lst (l'.map pD))), some (.imm (.int ((n : Nat) + 1))), some (.imm (adD pa)), some (.imm pt.d), some (.imm (.tuple (pt.kids.map T.d))), s12, s13, s14, s15, s16, s17, s18, s19]) (gv_qt (gv_v 11 rfl))
      rw [List.length_map] at g
      exact g
    · have hin : i < pt.kids.length := by
        have := (List.getElem?_eq_some_iff.mp hd).1
        rwa [intsD_len] at this
      have e : d = .int (0 + (i : Nat)) := by
        unfold intsD at hd
        rw [List.getElem?_map, List.getElem?_range hin] at hd
        exact (Option.some.inj hd).symm
      subst e
      have hk2 : (pt.kids.map T.d)[i]? = some pt.kids[i].d := by rw [List.getElem?_map, List.getElem?_eq_getElem hin] <;> rfl
      have ev : kidD pa (pt.kids.map T.d) (.int (0 + (i : Nat))) = .tuple [.tuple (pa.map nat ++ [.int (0 + (i : Nat))]), pt.kids[i].d] := by
        show PyData.tuple [.tuple (pa.map nat ++ [.int (0 + (i : Nat))]), (pt.kids.map T.d).getD (0 + ((i : Nat) : Int)).toNat .none] = _
        rw [List.getD_eq_getElem?_getD, show (0 + ((i : Nat) : Int)).toNat = i by omega, hk2]
        rfl
      rw [ev]
      refine gv_tup (gv_cons (gv_catT (gv_v 9 rfl) (gv_tup (gv_cons (gv_v 2 rfl) gv_nil)) ?_) (gv_cons (gv_ix (gv_qt (gv_v 11 rfl)) (gv_v 2 rfl) ?_) gv_nil))
      · rw [List.length_map, e1, List.length_cons]
        exact line3 (by simp only [List.length_singleton]; omega)
      · rw [Int.zero_add]
        exact atI_nat hk2
    · rw [kid_all (pa, pt), List.length_map, List.length_map]
      exact line3 (by omega)
    · rw [kid_all (pa, pt), ← List.map_append]
      refine ⟨3000 - (n + 1), by omega, dn ++ [pa], n + 1, l' ++ kw (pa, pt), some (.imm (adD pa)), some (.imm pt.d), some (.imm (.tuple (pt.kids.map T.d))), ?_, rfl, by omega, by rw [List.length_append, hdn]; rfl, ?_, by rw [szp_app]; omega, ?_, ?_⟩
      · simp only [List.map_append, List.append_assoc]
        rfl
      · rw [← had, ads_pop, List.append_assoc]
        rfl
      · intro x hx
        rcases List.mem_append.mp hx with hx | hx
        · exact hwy x (List.mem_append_left _ hx)
        · exact wy_kw hpw x hx
      · intro a ha
        rcases List.mem_append.mp ha with ha | ha
        · exact hne a ha
        · rw [List.mem_singleton.mp ha, e1]
          exact List.cons_ne_nil _ _
  · refine q dn n l x9 x10 x11 hn hdn (fun hlt => ?_) hne
    have hl0 : l = [] := by
      cases l with
      | nil => rfl
      | cons p r =>
        have h : (decide ((0 : Int) < (((p :: r).map pD).length : Nat)) && decide ((n : Int) < 3000)) = false := h
        rw [decide_eq_true (by rw [List.length_map, List.length_cons]; omega), decide_eq_true (by omega)] at h
        cases h
    subst hl0
    have e : dn = ad [k] t := by
      rw [← had]
      exact (List.append_nil dn).symm
    exact ⟨by simpa [szp, szs] using hsz, e⟩
end
end K5
set_option Elab.async false
set_option linter.all false
set_option maxRecDepth 100000
set_option maxHeartbeats 8000000
set_option pp.maxSteps 500
namespace K5
open PySem PySem.Spec PyProof.Rows L2 PL
/-- what the first loop has counted -/
structure Cnt (ps : List (Str × T)) (k : Nat) (due : List (List Nat)) (many : List Nat) : Prop where
  len : many.length = k
  dl : due.length ≤ 3000 * k
  ne : ∀ a ∈ due, a ≠ []
  sz : ∀ (j m : Nat), many[j]? = some m → m < 3000 → ∃ p : Str × T, ps[j]? = some p ∧ m = p.2.sz
  all : (∀ m ∈ many, m < 3000) → due = ((init ps).take k).flatMap fun p => ad p.1 p.2
theorem intsD_get {n i : Nat} {d : D} (hd : (intsD 0 n)[i]? = some d) : i < n ∧ d = nat i := by
  have hin : i < n := by
    have := (List.getElem?_eq_some_iff.mp hd).1
    rwa [intsD_len] at this
  refine ⟨hin, ?_⟩
  unfold intsD at hd
  rw [List.getElem?_map, List.getElem?_range hin] at hd
  have h2 : d = PyData.int (0 + ((i : Nat) : Int)) := (Option.some.inj hd).symm
  rw [h2, Int.zero_add]
section
variable {dl : Dl} {st c : Addr} {v0 : V} {s2 s3 s4 s5 s6 s7 s8 s9 s10 s11 s12 s13 s14 s15 s16 s17 s18 s19 : Option PV} {P : Es} {u : TSt} {ps : List (Str × T)} {k : Nat} {nm : Str} {t : T} {due : List (List Nat)} {many : List Nat}
theorem t2_ok (hp : Pr ps) (q : ∀ (due : List (List Nat)) (many : List Nat) (x6 x7 x8 x9 x10 x11 : Option PV), Cnt ps ps.length due many → u P [some (.raw v0), some (.raw (.ref st)), s2, some (.imm (prD ps)), some (.own (.lst (due.map adD))), some (.own (.lst (many.map nat))), x6, x7, x8, x9, x10, x11, s12, s13, s14, s15, s16, s17, s18, s19]) :
    zSeq (t2 dl) u P [some (.raw v0), some (.raw (.ref st)), s2, some (.imm (prD ps)), some (.own (.lst [])), some (.own (.lst [])), s6, s7, s8, s9, s10, s11, s12, s13, s14, s15, s16, s17, s18, s19] := by
  refine sq_forI (it := intsD 0 ps.length) (fun k ρ => ∃ (due : List (List Nat)) (many : List Nat) (x6 x7 x8 x9 x10 x11 : Option PV), ρ = [some (.raw v0), some (.raw (.ref st)), s2, some (.imm (prD ps)), some (.own (.lst (due.map adD))), some (.own (.lst (many.map nat))), x6, x7, x8, x9, x10, x11, s12, s13, s14, s15, s16, s17, s18, s19] ∧ Cnt ps k due many)
    (gv_r1 ?_ (by have := hp.hi; omega)) ⟨[], [], _, _, _, _, _, _, rfl, ⟨rfl, Nat.le_refl _, fun a h => (by cases h), fun j m h => (by simp at h), fun _ => rfl⟩⟩ (fun k d ρ R hk hI hR => ?_) fun ρ hI => ?_
  · have g := gv_len (ρ := [some (.raw v0), some (.raw (.ref st)), s2, some (.imm (prD ps)), some (.own (.lst [])), some (.own (.lst [])), s6, s7, s8, s9, s10, s11, s12, s13, s14, s15, s16, s17, s18, s19]) (gv_qt (gv_v 3 rfl))
    rw [List.length_map] at g
    exact g
  · obtain ⟨due, many, x6, x7, x8, x9, x10, x11, rfl, C⟩ := hI
    obtain ⟨hkl, rfl⟩ := intsD_get hk
    obtain ⟨⟨nm, t⟩, hps⟩ : ∃ p, ps[k]? = some p := ⟨ps[k], List.getElem?_eq_getElem hkl⟩
    have hk3 : k < 3 := Nat.lt_of_lt_of_le hkl hp.hi
    have hip : (ps.map defD)[k]? = some (defD (nm, t)) := by rw [List.getElem?_map, hps] <;> rfl
    have hd9 : due.length ≤ 9000 := Nat.le_trans C.dl (by omega)
    refine ⟨_, gt_name, ?_⟩
    refine sq_setO (gv_lst (gv_cons (gv_tup (gv_cons (gv_tup (gv_cons (gv_v 6 rfl) gv_nil)) (gv_cons (gv_t3 (gv_qt (gv_ix (gv_qt (gv_v 3 rfl)) (gv_v 6 rfl) (atI_nat hip)))) gv_nil))) gv_nil)) ?_
    refine sq_set gv_c ?_
    refine tWh_ok hp hps hd9 fun dn n l y9 y10 y11 hn hdn hfull hne => ?_
    refine st_app (xs := many.map nat) rfl (gv_v 8 rfl) (lineL (by rw [List.length_map, C.len]; omega)) ?_
    refine hR _ ⟨due ++ dn, many ++ [n], some (.imm (nat k)), some (.own (.lst (l.map pD))), some (.imm (nat n)), y9, y10, y11, ?_, ⟨by rw [List.length_append, C.len]; rfl, ?_, fun a ha => ?_, fun j m hj hm => ?_, fun hall => ?_⟩⟩
    · simp only [List.map_append]
      rfl
    · rw [List.length_append]
      have := C.dl
      omega
    · rcases List.mem_append.mp ha with ha | ha
      · exact C.ne a ha
      · exact hne a ha
    · by_cases hjk : j < many.length
      · rw [List.getElem?_append_left hjk] at hj
        exact C.sz j m hj hm
      · have hj2 : j = many.length := by
          have := (List.getElem?_eq_some_iff.mp hj).1
          rw [List.length_append, List.length_singleton] at this
          omega
        subst hj2
        rw [List.getElem?_append_right (Nat.le_refl _), Nat.sub_self] at hj
        cases hj
        exact ⟨(nm, t), by rw [C.len]; exact hps, (hfull hm).1⟩
    · have h1 := C.all fun m hm => hall m (List.mem_append_left _ hm)
      have h2 := (hfull (hall n (List.mem_append_right _ (List.mem_singleton.mpr rfl)))).2
      have hki : (init ps)[k]? = some ([k], t) := by
        unfold init
        rw [List.getElem?_map, List.getElem?_zipIdx, hps]
        show some ([0 + k], t) = _
        rw [Nat.zero_add]
      rw [h1, h2, List.take_add_one, hki, List.flatMap_append]
      simp
  · obtain ⟨due, many, x6, x7, x8, x9, x10, x11, rfl, C⟩ := hI
    rw [intsD_len] at C
    exact q due many x6 x7 x8 x9 x10 x11 C
theorem sq_ifS {s : TX Bool} {t : TSt} {ρ : Ev} {R : Bool → Prop} (h : Gs s ρ R) (h1 : R true → t { P with nx := u P } ρ) (h2 : R false → u P ρ) : zSeq (zIf s t zNil) u P ρ := h _ fun b r => by
  cases b with
  | true => exact iteT (h1 r)
  | false => exact iteF (h2 r)
theorem nats_map (l : List Nat) : l.map nat = (l.map fun (n : Nat) => ((n : Nat) : Int)).map PyData.int := by
  rw [List.map_map]
  rfl
theorem ads_init (ps : List (Str × T)) : (ads (init ps)).Perm ((init ps).flatMap fun p => ad p.1 p.2) := by
  unfold ads
  exact (List.reverse_perm _).flatMap_right _
theorem ok_list {n : Nat} {ds : List D} (h : ∀ d ∈ ds, okD n d) : okD (n + 1) (.list ds) := by
  obtain ⟨h1, h2, h3⟩ := okD_all n ds h
  refine ⟨by rw [PyData.showable]; exact h1, by rw [PyData.canLay0]; exact h2, ?_⟩
  rw [PyData.depth]
  omega
end
end K5
set_option Elab.async false
set_option linter.all false
set_option maxRecDepth 100000
set_option maxHeartbeats 8000000
set_option pp.maxSteps 500
namespace K5
open PySem PySem.Spec PyProof.Rows L2 PL
section
variable {ρ : Ev} {ta tb : TX D} {x y : D}
theorem gs_b {R : Bool → Prop} (h : Gs ta ρ fun d => ∃ b, d = .bool b ∧ R b) : Gs (xB ta) ρ R := fun Q q => h _ fun d ⟨b, e, r⟩ => by
  subst e
  exact q b r
theorem gv_neS (h : Gv ta ρ x) (h2 : Gv tb ρ x) (hc : x.canLay0 = true) (hd : x.depth ≤ 64) : Gv (xB (xBin (rdEq true) ta tb)) ρ false := by
  have hs : SeqAt.shaped x = true := by
    unfold SeqAt.shaped
    rw [hc, decide_eq_true hd]
    rfl
  have g := gv_b (gv_eqD (neg := true) h h2 hs hs)
  rw [SeqAt.eqv_refl x hc] at g
  exact g
theorem gv_lcY {tl : TX (List D)} {g : D → Ev → (Ev → Prop) → Prop} {te : TX D} {vs : List Nat} {xs : List D} (ys : List D) (h : Gv tl ρ xs) (hl : xs.length ≤ sizeLine) (hlen : ys.length = xs.length)
    (hel : ∀ (i : Nat) (d y : D), xs[i]? = some d → ys[i]? = some y → ∃ ρ', Gt g d (wipeE ρ vs) ρ' ∧ Gv te ρ' y) : Gv (xLc tl g (xC true) te vs) ρ (.lst ys) := fun Q q => by
  refine gs_lcR (fun i y => ys[i]? = some y) h hl (fun i d hd => ?_) Q fun o ⟨zs, e, hz, hy⟩ => ?_
  · have hi : i < ys.length := by
      rw [hlen]
      exact (List.getElem?_eq_some_iff.mp hd).1
    obtain ⟨ρ', h1, h2⟩ := hel i d ys[i] hd (List.getElem?_eq_getElem hi)
    exact ⟨ρ', h1, gs_mono (gs_v h2) fun z hz => by rw [hz]; exact List.getElem?_eq_getElem hi⟩
  · have ez : zs = ys := by
      apply List.ext_getElem?
      intro i
      cases hi : zs[i]? with
      | none => exact (List.getElem?_eq_none (by rw [hlen, ← hz]; exact List.getElem?_eq_none_iff.mp hi)).symm
      | some z => exact (hy i z hi).symm
    rw [e, ez]
    exact q
end
theorem lay_nats : ∀ a : List Nat, PyData.canLayAll0 (a.map nat) = true
  | [] => by simp [PyData.canLayAll0]
  | x :: a => by
    rw [List.map_cons, PyData.canLayAll0, lay_nats a]
    simp [PyData.canLay0]
theorem lay_ads : ∀ l : List D, (∀ d ∈ l, ∃ a, d = adD a) → PyData.canLayAll0 l = true ∧ PyData.depthAll l ≤ 1
  | [], _ => ⟨by simp [PyData.canLayAll0], by simp [PyData.depthAll]⟩
  | d :: l, h => by
    obtain ⟨a, rfl⟩ := h d List.mem_cons_self
    obtain ⟨h1, h2⟩ := lay_ads l fun x hx => h x (List.mem_cons_of_mem _ hx)
    refine ⟨?_, ?_⟩
    · rw [PyData.canLayAll0, h1]
      unfold adD
      rw [PyData.canLay0, lay_nats a]
      rfl
    · rw [PyData.depthAll]
      unfold adD
      rw [PyData.depth, depth_nats]
      exact Nat.max_le.mpr ⟨by omega, h2⟩
section
variable {dl : Dl} {st c : Addr} {v0 : V} {s2 s3 s4 s5 s6 s7 s8 s9 s10 s11 s12 s13 s14 s15 s16 s17 s18 s19 : Option PV} {P : Es} {u : TSt} {ps : List (Str × T)} {k : Nat} {nm : Str} {t : T} {due : List (List Nat)} {many : List Nat}
theorem cnt_sizes (C : Cnt ps ps.length due many) (h : ∀ m ∈ many, m < 3000) : many = ps.map (·.2.sz) := by
  apply List.ext_getElem?
  intro i
  rw [List.getElem?_map]
  cases hi : many[i]? with
  | none =>
    have : ps[i]? = none := List.getElem?_eq_none (by rw [← C.len]; exact List.getElem?_eq_none_iff.mp hi)
    rw [this]
    rfl
  | some m =>
    obtain ⟨p, h1, h2⟩ := C.sz i m hi (h m (List.mem_of_getElem? hi))
    rw [h1, h2]
    rfl
theorem sum_few : ∀ (l : List (Str × T)), (∀ p ∈ l, p.2.sz < 3000) → szs (l.map (·.2)) ≤ 3000 * l.length
  | [], _ => Nat.zero_le _
  | p :: l, h => by
    have h1 := h p List.mem_cons_self
    have h2 := sum_few l fun x hx => h x (List.mem_cons_of_mem _ hx)
    have e : szs ((p :: l).map (·.2)) = p.2.sz + szs (l.map (·.2)) := by simp [szs]
    rw [e, List.length_cons]
    omega
theorem t3_ok (hp : Pr ps) (C : Cnt ps ps.length due many) (q : u P [some (.raw v0), some (.raw (.ref st)), s2, some (.imm (prD ps)), some (.own (.lst (due.map adD))), some (.imm (.list (many.map nat))), s6, s7, s8, s9, s10, s11, s12, s13, s14, s15, s16, s17, s18, s19]) :
    zSeq (t3 dl) u P [some (.raw v0), some (.raw (.ref st)), s2, some (.imm (prD ps)), some (.own (.lst (due.map adD))), some (.own (.lst (many.map nat))), s6, s7, s8, s9, s10, s11, s12, s13, s14, s15, s16, s17, s18, s19] := by
  refine st_seq (st_frz (xs := many.map nat) rfl ?_)
  show zIf _ _ _ _ [some (.raw v0), some (.raw (.ref st)), s2, some (.imm (prD ps)), some (.own (.lst (due.map adD))), some (.imm (.list (many.map nat))), s6, s7, s8, s9, s10, s11, s12, s13, s14, s15, s16, s17, s18, s19]
  have hmp : 0 < (many.map fun (n : Nat) => ((n : Nat) : Int)).length := by rw [List.length_map, C.len]; exact hp.lo
  have gm : Gs (xB (xBin (rd0 fun i j => PyData.bool (decide (i < j))) (xUn rdMax (xQ (xV 5))) (xC (PyData.int 3000)))) [some (.raw v0), some (.raw (.ref st)), s2, some (.imm (prD ps)), some (.own (.lst (due.map adD))), some (.imm (.list (many.map nat))), s6, s7, s8, s9, s10, s11, s12, s13, s14, s15, s16, s17, s18, s19] (fun b => b = true → ∀ y ∈ many, y < 3000) := by
    refine gs_b (gs_bin (R := fun d => ∃ m : Int, d = .int m ∧ ∀ y ∈ many, ((y : Nat) : Int) ≤ m) (S := fun _ y => y = .int 3000) (gs_un (R := fun x => x = (false, many.map nat)) (gs_v (gv_ql (gv_v 5 rfl))) fun x hx Q q => ?_) (fun _ _ => gs_v gv_c) fun x y ⟨m, e, hm⟩ ey Q q => ?_)
    · subst hx
      refine ⟨rfl, someTo (d := many.map fun (n : Nat) => ((n : Nat) : Int)) (by rw [show ((false, many.map nat) : Bool × List D).2 = (many.map fun (n : Nat) => ((n : Nat) : Int)).map PyData.int from nats_map many]; exact intsOfD_map _) ⟨hmp, fun m h1 h2 => q _ ⟨m, rfl, fun y hy => h2 _ (List.mem_map_of_mem hy)⟩⟩⟩
    · subst e
      subst ey
      refine q _ ⟨_, rfl, fun hb y hy => ?_⟩
      have h1 : m < 3000 := of_decide_eq_true hb
      have h2 := hm y hy
      omega
  refine gm _ fun b hb => ifB (fun z => ?_) fun z => ?_
  · have hall := hb z
    have hsz := cnt_sizes C hall
    have hlt : ∀ p ∈ ps, p.2.sz < 3000 := fun p hp' => hall _ (by rw [hsz]; exact List.mem_map_of_mem hp')
    have hss := sum_few ps hlt
    have hhi := hp.hi
    have hdue : due.Perm (ads (init ps)) := by
      have h1 := C.all hall
      rw [List.take_of_length_le (by unfold init; rw [List.length_map, List.length_zipIdx]; exact Nat.le_refl _)] at h1
      rw [h1]
      exact (ads_init ps).symm
    have hsort := sort_perm hdue
    refine st_ifF ?_ (st_nil q)
    have ga : Gv (xND (xCallN tfAddr dl (vCons PV.imm (xV 3) (xC [])))) [some (.raw v0), some (.raw (.ref st)), s2, some (.imm (prD ps)), some (.own (.lst (due.map adD))), some (.imm (.list (many.map nat))), s6, s7, s8, s9, s10, s11, s12, s13, s14, s15, s16, s17, s18, s19] (.list (((ads (init ps)).map adD).mergeSort leD)) := gv_nd (gv_callO (gv_vc (gv_v 3 rfl) gv_v0) fun Q q => ⟨ps, rfl, by omega, q⟩)
    have gb : Gv (xND (xUn rdSort (xVQ 4))) [some (.raw v0), some (.raw (.ref st)), s2, some (.imm (prD ps)), some (.own (.lst (due.map adD))), some (.imm (.list (many.map nat))), s6, s7, s8, s9, s10, s11, s12, s13, s14, s15, s16, s17, s18, s19] (.list ((due.map adD).mergeSort leD)) := gv_nd fun Q q => gv_vq 4 rfl _ ⟨rfl, ad_alike due, ad_sortable due C.ne, ad_depth due, q⟩
    rw [hsort] at gb
    have hlay := lay_ads (((ads (init ps)).map adD).mergeSort leD) fun d hd => by
      obtain ⟨a, _, rfl⟩ := List.mem_map.mp ((List.mergeSort_perm _ _).mem_iff.mp hd)
      exact ⟨a, rfl⟩
    have g1 := gv_neS ga gb (by rw [PyData.canLay0]; exact hlay.1) (by rw [PyData.depth]; have := hlay.2; omega)
    have g2 := gv_neS (gv_nd (gv_lcY (ρ := [some (.raw v0), some (.raw (.ref st)), s2, some (.imm (prD ps)), some (.own (.lst (due.map adD))), some (.imm (.list (many.map nat))), s6, s7, s8, s9, s10, s11, s12, s13, s14, s15, s16, s17, s18, s19]) (g := yName 12) (te := xCall tfSize dl (vCons PV.imm (xBin rdIx (xQ (xV 12)) (xC (PyData.int 3))) (xC []))) (vs := [12]) (many.map nat) (gv_iT (gv_v 3 rfl)) (line3 (by rw [List.length_map]; omega)) (by rw [List.length_map, List.length_map, C.len]) fun i d y hd hy => by
      rw [List.getElem?_map] at hd hy
      obtain ⟨p, hp1, rfl⟩ := Option.map_eq_some_iff.mp hd
      obtain ⟨m, hm1, rfl⟩ := Option.map_eq_some_iff.mp hy
      rw [hsz, List.getElem?_map, hp1] at hm1
      cases hm1
      have := hlt p (List.mem_of_getElem? hp1)
      exact ⟨_, gt_name, gv_call (gv_vc (gv_t3 (gv_qt (gv_v 12 rfl))) gv_v0) fun Q q => ⟨p.2, rfl, by omega, q⟩⟩)) (gv_v 5 rfl) (by rw [PyData.canLay0]; exact lay_nats many) (by rw [PyData.depth, depth_nats]; omega)
    have g := gv_or g1 fun _ => g2
    exact g
  · exact q
end
end K5
set_option Elab.async false
set_option linter.all false
set_option maxRecDepth 100000
set_option maxHeartbeats 8000000
set_option pp.maxSteps 500
namespace K5
open PySem PySem.Spec PyProof.Rows L2 PL
theorem gv_sort {ρ : Ev} {t : T} (i : Nat) (h : ρ[i]? = some (some (.imm t.d))) : Gv (xBin rdIx (xQ (xV i)) (xC (.int 0))) ρ (.str (sortOf t)) := by
  rw [T.shape] at h
  exact gv_t0 (gv_qt (gv_v i h))
section
variable {dl : Dl} {st c : Addr} {v0 : V} {s2 s3 s4 s5 s6 s7 s8 s9 s10 s11 s12 s13 s14 s15 s16 s17 s18 s19 : Option PV} {P : Es} {u : TSt} {ps : List (Str × T)} {k : Nat} {nm : Str} {t : T} {due : List (List Nat)} {many : List Nat}
theorem tMid_ok (h0 : ps[0]? = some (nm, t)) (hf : t.fine) (hd : t.dp ≤ 15) (q : ∀ x13 x14 : Option PV, u P [some (.raw v0), some (.raw (.ref st)), s2, some (.imm (prD ps)), s4, s5, s6, s7, s8, s9, some (.imm t.d), some (.imm (.tuple (t.kids.map T.d))), s12, x13, x14, s15, s16, s17, s18, s19]) :
    zSeq (t4 dl) (zSeq (t5 dl) (zSeq (t6 dl) (zSeq (t7 dl) (zSeq (t8 dl) u)))) P [some (.raw v0), some (.raw (.ref st)), s2, some (.imm (prD ps)), s4, s5, s6, s7, s8, s9, s10, s11, s12, s13, s14, s15, s16, s17, s18, s19] := by
  have hip : (ps.map defD)[0]? = some (defD (nm, t)) := by rw [List.getElem?_map, h0] <;> rfl
  have hk := kids_le t
  refine sq_set (gv_t3 (gv_qt (gv_at 0 (gv_qt (gv_v 3 rfl)) hip))) ?_
  refine sq_set (gv_call (gv_vc (gv_v 10 rfl) gv_v0) fun Q q => ⟨t, rfl, q⟩) ?_
  have hus : ((List.range t.kids.length).map fun k => T.n0 (.num (100 + k))).length = t.kids.length := by rw [List.length_map, List.length_range]
  have hfu : ∀ v ∈ (List.range t.kids.length).map (fun k => T.n0 (.num (100 + k))), v.fine := fun v hv => by
    obtain ⟨i, hi, rfl⟩ := List.mem_map.mp hv
    have := List.mem_range.mp hi
    show 100 + i ≤ 200
    omega
  have hget : ∀ i, i < t.kids.length → (((List.range t.kids.length).map fun k => T.n0 (.num (100 + k))).map T.d)[i]? = some (.tuple [.str "num", .int ((100 : Int) + (i : Nat))]) := fun i hi => by
    rw [List.getElem?_map, List.getElem?_map, List.getElem?_range hi]
    show some (PyData.tuple [.str "num", .int ((100 + i : Nat) : Int)]) = _
    rw [show ((100 + i : Nat) : Int) = 100 + (i : Int) by omega]
  generalize (List.range t.kids.length).map (fun k => T.n0 (.num (100 + k))) = us at hus hfu hget
  obtain ⟨_, w2, w3, w4⟩ := with_ok t us hus
  refine sq_set (gv_tuple (gv_nq (gv_lcY (us.map T.d) (gv_r1 (n := t.kids.length) ?_ (by omega)) (line3 (by rw [intsD_len]; omega)) (by rw [List.length_map, intsD_len, hus]) fun i d y hd hy => ?_))) ?_
  · have g := gv_len (ρ := [some (.raw v0), some (.raw (.ref st)), s2, some (.imm (prD ps)), s4, s5, s6, s7, s8, s9, some (.imm t.d), some (.imm (.tuple (t.kids.map T.d))), s12, s13, s14, s15, s16, s17, s18, s19]) (gv_qt (gv_v 11 rfl))
    rw [List.length_map] at g
    exact g
  · obtain ⟨hin, rfl⟩ := intsD_get hd
    rw [hget i hin] at hy
    cases hy
    exact ⟨_, gt_name, gv_tup (gv_cons gv_c (gv_cons (gv_i0 gv_c (gv_v 2 rfl)) gv_nil))⟩
  refine sq_set (gv_call (gv_vc (gv_v 10 rfl) (gv_vc (gv_v 13 rfl) gv_v0)) fun Q q => ⟨t, us, rfl, hus, q⟩) ?_
  refine sq_ifF ?_ (q _ _)
  have g1 := gv_neD (n := 9) (ρ := [some (.raw v0), some (.raw (.ref st)), s2, some (.imm (prD ps)), s4, s5, s6, s7, s8, s9, some (.imm t.d), some (.imm (.tuple (t.kids.map T.d))), s12, some (.imm (.tuple (us.map T.d))), some (.imm (t.put us).d), s15, s16, s17, s18, s19]) (gv_call (tf := tfParts) (dl := dl) (d := .tuple (us.map T.d)) (gv_vc (f := PV.imm) (gv_v 14 rfl) gv_v0) fun Q q => ⟨t.put us, rfl, by rw [w2]; exact q⟩) (gv_v 13 rfl) (okD_tup (n := 8) fun d hd => by
    obtain ⟨v, hv, rfl⟩ := List.mem_map.mp hd
    obtain ⟨i, hi, e⟩ := List.getElem_of_mem hv
    have h1 := hget i (by rw [← hus]; exact hi)
    rw [List.getElem?_map, List.getElem?_eq_getElem hi, e] at h1
    have h2 : v.d = .tuple [.str "num", .int ((100 : Int) + (i : Nat))] := Option.some.inj h1
    rw [h2]
    exact okD_mono (okD_tg (s := "num") (n := 0) (by decide +kernel) fun d hd => by
      rw [List.mem_singleton.mp hd]
      have := okD_nat (i := 100 + i) (by rw [hus] at hi; omega)
      rw [show nat (100 + i) = .int ((100 : Int) + (i : Nat)) by show PyData.int ((100 + i : Nat) : Int) = _; rw [show ((100 + i : Nat) : Int) = 100 + (i : Int) by omega]] at this
      exact this) (by omega)) (by decide)
  have g2 := gv_neD (ρ := [some (.raw v0), some (.raw (.ref st)), s2, some (.imm (prD ps)), s4, s5, s6, s7, s8, s9, some (.imm t.d), some (.imm (.tuple (t.kids.map T.d))), s12, some (.imm (.tuple (us.map T.d))), some (.imm (t.put us).d), s15, s16, s17, s18, s19]) (gv_call (tf := tfWith) (dl := dl) (d := t.d) (gv_vc (f := PV.imm) (gv_v 14 rfl) (gv_vc (f := PV.imm) (gv_v 11 rfl) gv_v0)) fun Q q => ⟨t.put us, t.kids, rfl, (put_len t us hus).symm, by rw [w3]; exact q⟩) (gv_v 10 rfl) (okT t hf) (by omega)
  have g3 := gv_b (gv_eq (neg := true) (ρ := [some (.raw v0), some (.raw (.ref st)), s2, some (.imm (prD ps)), s4, s5, s6, s7, s8, s9, some (.imm t.d), some (.imm (.tuple (t.kids.map T.d))), s12, some (.imm (.tuple (us.map T.d))), some (.imm (t.put us).d), s15, s16, s17, s18, s19]) (gv_sort 14 (t := t.put us) rfl) (gv_sort 10 (t := t) rfl) (b := true) (by rw [w4]; show some (decide (sortOf t = sortOf t)) = _; rw [decide_eq_true rfl]))
  exact gv_or g1 fun _ => gv_or g2 fun _ => g3
end
end K5
set_option Elab.async false
set_option linter.all false
set_option maxRecDepth 100000
set_option maxHeartbeats 8000000
set_option pp.maxSteps 500
namespace K5
open PySem PySem.Spec PyProof.Rows L2 PL
abbrev fsD (fs : List Str) : List (Key × D) := fs.map fun x => (Sum.inr x, PyData.bool true)
theorem put_fs (fs : List Str) (x : Str) : putD (fsD fs) (.inr x) (.bool true) = fsD (if x ∈ fs then fs else fs ++ [x]) := by
  have e : ((fsD fs).any fun kv => decide (kv.1 = Sum.inr x)) = decide (x ∈ fs) := by
    rw [List.any_map]
    induction fs with
    | nil => rfl
    | cons y r ih =>
      rw [List.any_cons, ih]
      by_cases h : y = x
      · subst h
        simp
      · have h' : ¬ x = y := fun z => h z.symm
        simp [h, h']
  unfold putD
  rw [e]
  by_cases h : x ∈ fs
  · rw [decide_eq_true h, if_pos rfl, if_pos h]
    rw [List.map_map]
    apply List.map_congr_left
    intro y _
    show (if (Sum.inr y : Key) = Sum.inr x then (Sum.inr y, PyData.bool true) else (Sum.inr y, PyData.bool true)) = _
    split <;> rfl
  · rw [decide_eq_false h, if_neg (by decide), if_neg h]
    simp
theorem fsD_keys (fs : List Str) : (fsD fs).map (·.1) = fs.map Sum.inr := by
  rw [List.map_map]
  rfl
abbrev Qt := T × List Str
def qD (p : Qt) : D := .tuple [p.1.d, .tuple (p.2.map PyData.str)]
def kq (p : Qt) : List Qt := p.1.kids.zipIdx.map fun c => (c.1, p.2 ++ p.1.bnd c.2)
def szq (l : List Qt) : Nat := szs (l.map (·.1))
theorem szq_app (l m : List Qt) : szq (l ++ m) = szq l + szq m := by
  unfold szq
  rw [List.map_append, szs_app]
theorem kq_fst (p : Qt) : (kq p).map (·.1) = p.1.kids := by
  unfold kq
  rw [List.map_map]
  exact List.zipIdx_map_fst _ _
theorem szq_kq (p : Qt) : szq [p] = 1 + szq (kq p) := by
  unfold szq
  rw [kq_fst, ← sz_kids]
  simp [szs]
theorem szq_len (l : List Qt) : l.length ≤ szq l := by
  have := szs_len (l.map (·.1))
  rwa [List.length_map] at this
theorem bnd3 {t : T} (h : t.fine) (i : Nat) : (t.bnd i).length ≤ 3 := by
  unfold T.bnd
  split
  · rw [List.length_map]
    exact h.1
  · exact Nat.le_of_ble_eq_true rfl
  · exact Nat.le_of_ble_eq_true rfl
  · exact Nat.zero_le _
def Wq (p : Qt) : Prop := p.1.fine ∧ p.1.dp ≤ 15 ∧ p.2.length + 3 * p.1.dp ≤ 60
theorem kq_get {p : Qt} {j : Nat} {c : T} (h : p.1.kids[j]? = some c) : (kq p)[j]? = some (c, p.2 ++ p.1.bnd j) := by
  unfold kq
  rw [List.getElem?_map, List.getElem?_zipIdx, h]
  show some (c, p.2 ++ p.1.bnd (0 + j)) = _
  rw [Nat.zero_add]
theorem wq_kq {p : Qt} (h : Wq p) : ∀ c ∈ kq p, Wq c := fun c hc => by
  unfold kq at hc
  obtain ⟨x, hx, rfl⟩ := List.mem_map.mp hc
  have hk : x.1 ∈ p.1.kids := by
    have := List.mem_map_of_mem (f := Prod.fst) hx
    rwa [List.zipIdx_map_fst] at this
  have hd := dp_kids p.1 x.1 hk
  have hb := bnd3 h.1 x.2
  obtain ⟨h1, h2, h3⟩ := h
  refine ⟨fine_kids h1 _ hk, by show x.1.dp ≤ 15; omega, ?_⟩
  show (p.2 ++ p.1.bnd x.2).length + 3 * x.1.dp ≤ 60
  rw [List.length_append]
  omega
/-- the free names seen by the law's walk -/
theorem fr_kq (x : Str) (p : Qt) (h : sortOf p.1 ≠ "name") : (p.1.fr x = true ∧ x ∉ p.2) ↔ ∃ c ∈ kq p, c.1.fr x = true ∧ x ∉ c.2 := by
  rw [fr_kids x p.1 h]
  constructor
  · rintro ⟨⟨i, c, h1, h2, h3⟩, h4⟩
    exact ⟨_, List.mem_of_getElem? (kq_get h1), h2, by rw [List.mem_append]; exact fun z => z.elim h4 h3⟩
  · rintro ⟨c, hc, h2, h3⟩
    obtain ⟨j, hj⟩ := List.getElem?_of_mem hc
    have hl : (kq p).length = p.1.kids.length := by unfold kq; rw [List.length_map, List.length_zipIdx]
    have hlt : j < p.1.kids.length := by rw [← hl]; exact (List.getElem?_eq_some_iff.mp hj).1
    have e := kq_get (p := p) (List.getElem?_eq_getElem hlt)
    rw [hj] at e
    cases e
    rw [List.mem_append] at h3
    exact ⟨⟨j, _, List.getElem?_eq_getElem hlt, h2, fun z => h3 (.inr z)⟩, fun z => h3 (.inl z)⟩
section
variable {ρ : Ev} {P : Es} {i j : Nat} {ta tb tk : TX D} {d x y : D} {u : TSt}
theorem st_dput {kvs : List (Key × D)} {s : Str} (h : Gv ta ρ d) (h0 : ρ[i]? = some (some (.own (.dic kvs)))) (hk : Gv tk ρ (.str s)) (hl : kvs.length < sizeLine) (q : P.nx (ρ.set i (some (.own (.dic (putD kvs (.inr s) d)))))) : zDput i tk ta P ρ := h _ (by
  unfold ownDic
  rw [h0]
  exact hk _ ⟨hl, q⟩)
theorem st_forI {tl : TX (List D)} {g : D → Ev → (Ev → Prop) → Prop} {tb : TSt} {it : List D} (I : Nat → Ev → Prop) (h : Gv tl ρ it) (h0 : I 0 ρ)
    (hs : ∀ (i : Nat) (d : D) (ρ : Ev) (R : Ev → Prop), it[i]? = some d → I i ρ → (∀ ρ', I (i + 1) ρ' → R ρ') → ∃ ρ', Gt g d ρ ρ' ∧ tb { P with nx := R, ct := R, bk := P.nx } ρ') (hd : ∀ ρ, I it.length ρ → P.nx ρ) : zFor tl g tb P ρ :=
  h _ (forT_by I it ρ h0 (fun i d ρ R e hi hR => by
    obtain ⟨ρ', h1, h2⟩ := hs i d ρ R e hi hR
    exact h1 _ h2) hd)
theorem sq_ifT0 {s : TX Bool} {t : TSt} (h : Gv s ρ true) (q : t { P with nx := u P } ρ) : zSeq (zIf s t zNil) u P ρ := st_ifT h q
end
section
variable {dl : Dl} {st c : Addr} {v0 : V} {s2 s3 s4 s5 s6 s7 s8 s9 s10 s11 s12 s13 s14 s15 s16 s17 s18 s19 : Option PV} {P : Es} {u : TSt} {v : T} {j : Nat} {ar : List Str}
/-- more: what one binds at its k-th part -/
theorem more_ok (hf : v.fine) (q : u P [some (.raw v0), some (.raw (.ref st)), some (.imm (nat j)), s3, s4, s5, s6, s7, s8, s9, s10, s11, some (.imm v.d), s13, s14, s15, some (.imm (.tuple (ar.map PyData.str))), some (.imm (.tuple ((v.bnd j).map PyData.str))), s18, s19]) :
    zSeq (t10b3b0 dl) (zSeq (t10b3b1 dl) (zSeq (t10b3b2 dl) u)) P [some (.raw v0), some (.raw (.ref st)), some (.imm (nat j)), s3, s4, s5, s6, s7, s8, s9, s10, s11, some (.imm v.d), s13, s14, s15, some (.imm (.tuple (ar.map PyData.str))), s17, s18, s19] := by
  refine sq_set (gv_tup gv_nil) ?_
  have hb := bnd_ok v j
  have hsh := v.shape
  have hps := fn_shape v
  have hl := bnd3 hf j
  have hm : ((v.bnd j).map PyData.str).length ≤ 3 := by rw [List.length_map]; exact hl
  have hs0 := gv_sort (t := v) (ρ := [some (.raw v0), some (.raw (.ref st)), some (.imm (nat j)), s3, s4, s5, s6, s7, s8, s9, s10, s11, some (.imm v.d), s13, s14, s15, some (.imm (.tuple (ar.map PyData.str))), some (.imm (.tuple [])), s18, s19]) 12 rfl
  rw [hsh] at hs0 q ⊢
  generalize sortOf v = s at hb hps hs0 q ⊢
  generalize rest v = r at hb hps hs0 q ⊢
  generalize (v.bnd j).map PyData.str = bs at hb hm q
  unfold bndF at hb
  have i2 : ∀ {ρ : Ev}, ρ[12]? = some (some (.imm (tg s r))) → Gv (xB (xBin (rdIn false) (xBin rdIx (xQ (xV 12)) (xC (.int 0))) (xNQ (xLst (xCons (xC (PyData.str "let")) (xCons (xC (PyData.str "try")) (xC []))))))) ρ (inF (.str s) [.str "let", .str "try"]) := fun h => gv_b (gv_in (neg := false) (gv_t0 (gv_qt (gv_v 12 h))) (gv_nq (gv_lst (gv_cons gv_c (gv_cons gv_c gv_nil)))) rfl rfl)
  have inlt : inF (.str s) [.str "let", .str "try"] = decide (s ∈ [("let" : Str), "try"]) := inF_texts s ["let", "try"]
  rw [inlt] at i2
  have ej : ∀ {ρ : Ev}, ρ[2]? = some (some (.imm (nat j))) → Gv (xB (xBin (rdEqP false) (xV 2) (xC (.int 1)))) ρ (decide ((j : Int) = 1)) := fun h => gv_b (gv_eq (neg := false) (gv_v 2 h) gv_c rfl)
  have e0 : ∀ (z : Str) {ρ : Ev}, ρ[12]? = some (some (.imm (tg s r))) → Gv (xB (xBin (rdEqP false) (xBin rdIx (xQ (xV 12)) (xC (.int 0))) (xC (.str z)))) ρ (decide (s = z)) := fun z ρ h => gv_b (gv_eq (neg := false) (gv_t0 (gv_qt (gv_v 12 h))) gv_c rfl)
  by_cases h1 : s = "fn"
  · obtain ⟨ps, a, rfl⟩ := hps h1
    rw [if_pos h1] at hb
    have hb := Option.some.inj hb
    have g := e0 "fn" (ρ := [some (.raw v0), some (.raw (.ref st)), some (.imm (nat j)), s3, s4, s5, s6, s7, s8, s9, s10, s11, some (.imm (tg s [.tuple (ps.map parD), a])), s13, s14, s15, some (.imm (.tuple (ar.map PyData.str))), some (.imm (.tuple [])), s18, s19]) rfl
    rw [decide_eq_true h1] at g
    refine sq_ifT0 g ?_
    have hpl : ps.length ≤ 3 := by
      rw [← hb, List.length_map, List.length_map] at hm
      exact hm
    have gl := gv_lcM (ρ := [some (.raw v0), some (.raw (.ref st)), some (.imm (nat j)), s3, s4, s5, s6, s7, s8, s9, s10, s11, some (.imm (tg s [.tuple (ps.map parD), a])), s13, s14, s15, some (.imm (.tuple (ar.map PyData.str))), some (.imm (.tuple [])), s18, s19]) (g := yTup 2 (yCons (yName 18) (yCons (yName 19) yNil))) (te := xV 18) (vs := [18, 19]) fstD (gv_iT (gv_t1 (gv_qt (gv_v 12 rfl)))) (line3 (by rw [List.length_map]; omega)) fun i d hd => by
      rw [List.getElem?_map] at hd
      obtain ⟨p, _, rfl⟩ := Option.map_eq_some_iff.mp hd
      exact ⟨_, gt_tup2, gv_v 18 rfl⟩
    rw [hb] at gl
    refine st_set (gv_tuple (gv_nq gl)) ?_
    have g2 := gv_and (i2 (ρ := [some (.raw v0), some (.raw (.ref st)), some (.imm (nat j)), s3, s4, s5, s6, s7, s8, s9, s10, s11, some (.imm (tg s [.tuple (ps.map parD), a])), s13, s14, s15, some (.imm (.tuple (ar.map PyData.str))), some (.imm (.tuple bs)), s18, s19]) rfl) fun _ => ej rfl
    rw [decide_eq_false (show s ∉ [("let" : Str), "try"] by rw [h1]; decide +kernel), Bool.false_and] at g2
    exact sq_ifF g2 q
  rw [if_neg h1] at hb
  have g := e0 "fn" (ρ := [some (.raw v0), some (.raw (.ref st)), some (.imm (nat j)), s3, s4, s5, s6, s7, s8, s9, s10, s11, some (.imm (tg s r)), s13, s14, s15, some (.imm (.tuple (ar.map PyData.str))), some (.imm (.tuple [])), s18, s19]) rfl
  rw [decide_eq_false h1] at g
  refine sq_ifF g ?_
  have g2 := gv_and (i2 (ρ := [some (.raw v0), some (.raw (.ref st)), some (.imm (nat j)), s3, s4, s5, s6, s7, s8, s9, s10, s11, some (.imm (tg s r)), s13, s14, s15, some (.imm (.tuple (ar.map PyData.str))), some (.imm (.tuple [])), s18, s19]) rfl) fun _ => ej rfl
  have g3 := e0 "let" (ρ := [some (.raw v0), some (.raw (.ref st)), some (.imm (nat j)), s3, s4, s5, s6, s7, s8, s9, s10, s11, some (.imm (tg s r)), s13, s14, s15, some (.imm (.tuple (ar.map PyData.str))), some (.imm (.tuple [])), s18, s19]) rfl
  by_cases h2 : s = "let" ∧ (j : Int) = 1
  · rw [if_pos h2] at hb
    rw [decide_eq_true (show s ∈ [("let" : Str), "try"] by rw [h2.1]; decide +kernel), decide_eq_true h2.2] at g2
    rw [decide_eq_true h2.1] at g3
    split at hb
    · cases hb
      exact sq_ifT0 g2 (st_set (gv_ifT g3 (gv_tup (gv_cons (gv_t1 (gv_qt (gv_v 12 rfl))) gv_nil))) q)
    · cases hb
  rw [if_neg h2] at hb
  by_cases h3 : s = "try" ∧ (j : Int) = 1
  · rw [if_pos h3] at hb
    rw [decide_eq_true (show s ∈ [("let" : Str), "try"] by rw [h3.1]; decide +kernel), decide_eq_true h3.2] at g2
    rw [decide_eq_false (show s ≠ "let" by rw [h3.1]; decide +kernel)] at g3
    split at hb
    · cases hb
      exact sq_ifT0 g2 (st_set (gv_ifF g3 (gv_tup (gv_cons (gv_t2 (gv_qt (gv_v 12 rfl))) gv_nil))) q)
    · cases hb
  rw [if_neg h3] at hb
  cases hb
  have hfalse : (decide (s ∈ [("let" : Str), "try"]) && decide ((j : Int) = 1)) = false := by
    by_cases hj : (j : Int) = 1
    · rw [decide_eq_false (fun z => by
        rcases List.mem_cons.mp z with z | z
        · exact h2 ⟨z, hj⟩
        · exact h3 ⟨List.mem_singleton.mp z, hj⟩), Bool.false_and]
    · rw [decide_eq_false hj, Bool.and_false]
  rw [hfalse] at g2
  exact sq_ifF g2 q
end
end K5
set_option Elab.async false
set_option linter.all false
set_option maxRecDepth 100000
set_option maxHeartbeats 8000000
set_option pp.maxSteps 500
namespace K5
open PySem PySem.Spec PyProof.Rows L2 PL
theorem lay_strs : ∀ (l : List Str), (∀ x ∈ l, PyData.strOk x = true) → PyData.canLayAll0 (l.map PyData.str) = true ∧ PyData.depthAll (l.map PyData.str) = 0
  | [], _ => ⟨by simp [PyData.canLayAll0], by simp [PyData.depthAll]⟩
  | x :: l, h => by
    obtain ⟨h1, h2⟩ := lay_strs l fun y hy => h y (List.mem_cons_of_mem _ hy)
    have hx := h x List.mem_cons_self
    refine ⟨by rw [List.map_cons, PyData.canLayAll0, h1, PyData.canLay0, hx]; rfl, ?_⟩
    rw [List.map_cons, PyData.depthAll, h2]
    simp [PyData.depth]
theorem bnd_strOk (t : T) (i : Nat) : ∀ x ∈ t.bnd i, PyData.strOk x = true := fun x hx => by
  unfold T.bnd at hx
  split at hx
  · obtain ⟨p, _, rfl⟩ := List.mem_map.mp hx
    cases p.1 <;> decide +kernel
  · rw [List.mem_singleton.mp hx]
    rename_i z _ _
    cases z <;> decide +kernel
  · rw [List.mem_singleton.mp hx]
    rename_i z _ _
    cases z <;> decide +kernel
  · cases hx
/-- the law's walk for free names -/
structure Fw (t : T) (fs : List Str) (l : List Qt) : Prop where
  nd : fs.Nodup
  nm : ∀ x ∈ fs, x ∈ NMS
  fr : ∀ x, t.fr x = true ↔ (x ∈ fs ∨ ∃ p ∈ l, p.1.fr x = true ∧ x ∉ p.2)
  wy : ∀ p ∈ l, Wq p
  sz : szq l ≤ t.sz
section
variable {dl : Dl} {st c : Addr} {v0 : V} {s2 s3 s4 s5 s6 s7 s8 s9 s10 s11 s12 s13 s14 s15 s16 s17 s18 s19 : Option PV} {P : Es} {u : TSt} {ps : List (Str × T)} {t : T} {m0 : Nat} {ms : List Nat}
theorem t10_ok (hd : t.dp ≤ 15) (F0 : Fw t [] [(t, [])]) (q : ∀ (fs : List Str) (x2 x7 x11 x12 x16 x17 : Option PV), (m0 < 3000 → fs.Nodup ∧ (∀ x ∈ fs, x ∈ NMS) ∧ ∀ x, x ∈ fs ↔ t.fr x = true) →
    u P [some (.raw v0), some (.raw (.ref st)), x2, s3, s4, some (.imm (.list ((m0 :: ms).map nat))), s6, x7, s8, s9, some (.imm t.d), x11, x12, s13, s14, some (.own (.dic (fsD fs))), x16, x17, s18, s19]) :
    zSeq (t10 dl) u P [some (.raw v0), some (.raw (.ref st)), s2, s3, s4, some (.imm (.list ((m0 :: ms).map nat))), s6, some (.own (.lst [qD (t, [])])), s8, s9, some (.imm t.d), s11, s12, s13, s14, some (.own (.dic [])), s16, s17, s18, s19] := by
  have hT := sz_small hd
  refine sq_while (fun m ρ => ∃ (fs : List Str) (l : List Qt) (x2 x11 x12 x16 x17 : Option PV), ρ = [some (.raw v0), some (.raw (.ref st)), x2, s3, s4, some (.imm (.list ((m0 :: ms).map nat))), s6, some (.own (.lst (l.map qD))), s8, s9, some (.imm t.d), x11, x12, s13, s14, some (.own (.dic (fsD fs))), x16, x17, s18, s19] ∧ m = szq l ∧ Fw t fs l)
    (m := szq [(t, [])]) ⟨[], [(t, [])], s2, s11, s12, s16, s17, rfl, rfl, F0⟩ fun m ρ hW => ?_
  obtain ⟨fs, l, x2, x11, x12, x16, x17, rfl, rfl, W⟩ := hW
  refine ⟨_, gv_and (gv_b (gv_i0 (gv_len (gv_vq 7 rfl)) gv_c)) (fun _ => gv_b (gv_i0 (gv_t0 (gv_ql (gv_v 5 rfl))) gv_c)), fun h => ?_, fun h => ?_⟩
  · obtain ⟨h1, h2⟩ := Bool.and_eq_true_iff.mp h
    obtain ⟨l', p, rfl⟩ : ∃ l' p, l = l' ++ [p] := by
      rcases List.eq_nil_or_concat l with rfl | ⟨l', u, e⟩
      · cases h1
      · exact ⟨l', u, by rw [e, List.concat_eq_append]⟩
    obtain ⟨v, ar⟩ := p
    have hw := W.wy (v, ar) (List.mem_append_right _ (List.mem_singleton.mpr rfl))
    obtain ⟨hf, hv15, har⟩ := id hw
    have hf : v.fine := hf
    have hv15 : v.dp ≤ 15 := hv15
    have har : ar.length + 3 * v.dp ≤ 60 := har
    have hszl := W.sz
    rw [szq_app, szq_kq] at hszl
    have hkl := kids_le v
    have hkq : (kq (v, ar)).length = v.kids.length := by unfold kq; rw [List.length_map, List.length_zipIdx]
    have hl1 := szq_len l'
    rw [show (l' ++ [(v, ar)]).map qD = l'.map qD ++ [qD (v, ar)] from List.map_append]
    refine sq_popG (d := qD (v, ar)) rfl gt_tup2 ?_
    -- the rest of the body, for the names found so far
    have rest_ok : ∀ fs' : List Str, Fw t fs' (l' ++ kq (v, ar)) →
        zSeq (t10b2 dl) (t10b3 dl) { P with nx := fun ρ' => ∃ m', m' < szq (l' ++ [(v, ar)]) ∧ ∃ (fs : List Str) (l : List Qt) (x2 x11 x12 x16 x17 : Option PV), ρ' = [some (.raw v0), some (.raw (.ref st)), x2, s3, s4, some (.imm (.list ((m0 :: ms).map nat))), s6, some (.own (.lst (l.map qD))), s8, s9, some (.imm t.d), x11, x12, s13, s14, some (.own (.dic (fsD fs))), x16, x17, s18, s19] ∧ m' = szq l ∧ Fw t fs l, ct := fun ρ' => ∃ m', m' < szq (l' ++ [(v, ar)]) ∧ ∃ (fs : List Str) (l : List Qt) (x2 x11 x12 x16 x17 : Option PV), ρ' = [some (.raw v0), some (.raw (.ref st)), x2, s3, s4, some (.imm (.list ((m0 :: ms).map nat))), s6, some (.own (.lst (l.map qD))), s8, s9, some (.imm t.d), x11, x12, s13, s14, some (.own (.dic (fsD fs))), x16, x17, s18, s19] ∧ m' = szq l ∧ Fw t fs l, bk := u P }
          [some (.raw v0), some (.raw (.ref st)), x2, s3, s4, some (.imm (.list ((m0 :: ms).map nat))), s6, some (.own (.lst (l'.map qD))), s8, s9, some (.imm t.d), x11, some (.imm v.d), s13, s14, some (.own (.dic (fsD fs'))), some (.imm (.tuple (ar.map PyData.str))), x17, s18, s19] := fun fs' W' => by
      refine sq_set (gv_call (gv_vc (gv_v 12 rfl) gv_v0) fun Q q => ⟨v, rfl, q⟩) ?_
      refine st_forI (it := intsD 0 v.kids.length) (fun j ρ => ∃ y2 y17 : Option PV, ρ = [some (.raw v0), some (.raw (.ref st)), y2, s3, s4, some (.imm (.list ((m0 :: ms).map nat))), s6, some (.own (.lst ((l' ++ (kq (v, ar)).take j).map qD))), s8, s9, some (.imm t.d), some (.imm (.tuple (v.kids.map T.d))), some (.imm v.d), s13, s14, some (.own (.dic (fsD fs'))), some (.imm (.tuple (ar.map PyData.str))), y17, s18, s19])
        (gv_r1 ?_ (by omega)) ⟨x2, x17, by rw [List.take_zero, List.append_nil]; rfl⟩ (fun j d ρ R hj hI hR => ?_) fun ρ hI => ?_
      · have g := gv_len (ρ := [some (.raw v0), some (.raw (.ref st)), x2, s3, s4, some (.imm (.list ((m0 :: ms).map nat))), s6, some (.own (.lst (l'.map qD))), s8, s9, some (.imm t.d), some (.imm (.tuple (v.kids.map T.d))), some (.imm v.d), s13, s14, some (.own (.dic (fsD fs'))), some (.imm (.tuple (ar.map PyData.str))), x17, s18, s19]) (gv_qt (gv_v 11 rfl))
        rw [List.length_map] at g
        exact g
      · obtain ⟨y2, y17, rfl⟩ := hI
        obtain ⟨hjl, rfl⟩ := intsD_get hj
        refine ⟨_, gt_name, ?_⟩
        have hb3 := bnd3 hf j
        obtain ⟨z1, z2⟩ := lay_strs (v.bnd j) (bnd_strOk v j)
        refine more_ok hf ?_
        refine sq_ifF (gv_neS (gv_call (tf := tfBound) (dl := dl) (d := .tuple ((v.bnd j).map PyData.str)) (gv_vc (f := PV.imm) (gv_v 12 rfl) (gv_vc (f := PV.imm) (gv_v 2 rfl) gv_v0)) fun Q q => ⟨v, j, rfl, by omega, q⟩) (gv_v 17 rfl) (by rw [PyData.canLay0]; exact z1) (by rw [PyData.depth, z2]; omega)) ?_
        have hk2 : (v.kids.map T.d)[j]? = some v.kids[j].d := by rw [List.getElem?_map, List.getElem?_eq_getElem hjl] <;> rfl
        refine st_app (xs := (l' ++ (kq (v, ar)).take j).map qD) (d := qD (v.kids[j], ar ++ v.bnd j)) rfl ?_ (lineL (by rw [List.length_map, List.length_append, List.length_take]; omega)) (hR _ ⟨some (.imm (nat j)), some (.imm (.tuple ((v.bnd j).map PyData.str))), ?_⟩)
        · have gc := gv_catT (ρ := [some (.raw v0), some (.raw (.ref st)), some (.imm (nat j)), s3, s4, some (.imm (.list ((m0 :: ms).map nat))), s6, some (.own (.lst ((l' ++ (kq (v, ar)).take j).map qD))), s8, s9, some (.imm t.d), some (.imm (.tuple (v.kids.map T.d))), some (.imm v.d), s13, s14, some (.own (.dic (fsD fs'))), some (.imm (.tuple (ar.map PyData.str))), some (.imm (.tuple ((v.bnd j).map PyData.str))), s18, s19]) (gv_v 16 rfl) (gv_v 17 rfl) (by rw [List.length_map, List.length_map]; exact line3 (by omega))
          rw [← List.map_append] at gc
          exact gv_tup (gv_cons (gv_ix (gv_qt (gv_v 11 rfl)) (gv_v 2 rfl) (atI_nat hk2)) (gv_cons gc gv_nil))
        · rw [List.take_add_one, kq_get (p := (v, ar)) (List.getElem?_eq_getElem hjl)]
          simp only [List.map_append, List.append_assoc]
          rfl
      · obtain ⟨y2, y17, rfl⟩ := hI
        rw [intsD_len, List.take_of_length_le (by omega)]
        exact ⟨szq (l' ++ kq (v, ar)), by rw [szq_app, szq_app, szq_kq]; omega, fs', l' ++ kq (v, ar), y2, _, _, _, y17, rfl, rfl, W'⟩
    have gs := gv_sort (t := v) (ρ := [some (.raw v0), some (.raw (.ref st)), x2, s3, s4, some (.imm (.list ((m0 :: ms).map nat))), s6, some (.own (.lst (l'.map qD))), s8, s9, some (.imm t.d), x11, some (.imm v.d), s13, s14, some (.own (.dic (fsD fs))), some (.imm (.tuple (ar.map PyData.str))), x17, s18, s19]) 12 rfl
    have hfl := nodup_few fs NMS W.nd W.nm
    rw [NMS_len] at hfl
    by_cases hn : sortOf v = "name"
    · obtain ⟨x, rfl⟩ : ∃ x : Nm, v = .n0 (.name x) := by
        match v, hn with
        | .n0 z, hn => cases z <;> first | exact ⟨_, rfl⟩ | exact absurd hn (of_decide_eq_false rfl)
        | .n1 z a, hn => cases z <;> exact absurd hn (of_decide_eq_false rfl)
        | .n2 z a b, hn => cases z <;> exact absurd hn (of_decide_eq_false rfl)
        | .n3 z a b c, hn => cases z <;> exact absurd hn (of_decide_eq_false rfl)
      have hkn : kq (T.n0 (.name x), ar) = [] := rfl
      have gc := gv_and (gv_b (gv_eq (neg := false) gs (gv_c (d := PyData.str "name")) rfl)) fun _ => gv_b (gv_in (neg := true) (x := .str x.t) (ys := ar.map PyData.str) (gv_t1 (gv_qt (gv_v 12 rfl))) (gv_qt (gv_v 16 rfl)) rfl (flat_texts ar))
      have wb : ∀ fs' : List Str, fs'.Nodup → (∀ y ∈ fs', y ∈ NMS) → (∀ y, y ∈ fs' ↔ (y ∈ fs ∨ (y = x.t ∧ y ∉ ar))) → Fw t fs' (l' ++ kq (T.n0 (.name x), ar)) := fun fs' n1 n2 n3 => by
        rw [hkn, List.append_nil]
        refine ⟨n1, n2, fun y => ?_, fun p hp => W.wy p (List.mem_append_left _ hp), by omega⟩
        rw [W.fr y, n3 y]
        constructor
        · rintro (h | ⟨p, hp, h3, h4⟩)
          · exact .inl (.inl h)
          · rcases List.mem_append.mp hp with hp | hp
            · exact .inr ⟨p, hp, h3, h4⟩
            · rw [List.mem_singleton.mp hp] at h3 h4
              exact .inl (.inr ⟨of_decide_eq_true h3, h4⟩)
        · rintro ((h | ⟨h3, h4⟩) | ⟨p, hp, h3⟩)
          · exact .inl h
          · exact .inr ⟨_, List.mem_append_right _ (List.mem_singleton.mpr rfl), decide_eq_true h3, h4⟩
          · exact .inr ⟨p, List.mem_append_left _ hp, h3⟩
      rw [show (ng false (decide ((sortOf (T.n0 (.name x)) : Str) = "name")) && ng true (inF (.str x.t) (ar.map PyData.str))) = !decide (x.t ∈ ar) by rw [inF_texts]; rfl] at gc
      by_cases hx : x.t ∈ ar
      · rw [decide_eq_true hx] at gc
        refine sq_ifF gc (rest_ok fs (wb fs W.nd W.nm fun y => ⟨.inl, fun z => ?_⟩))
        rcases z with z | ⟨z1, z2⟩
        · exact z
        · rw [z1] at z2
          exact absurd hx z2
      · rw [decide_eq_false hx] at gc
        refine sq_ifT0 gc (st_dput gv_c rfl (s := x.t) (gv_t1 (gv_qt (gv_v 12 rfl))) (lineL (by rw [List.length_map]; omega)) ?_)
        rw [put_fs]
        refine rest_ok _ (wb _ ?_ (fun y hy => ?_) fun y => ?_)
        · split
          · exact W.nd
          · rename_i hm
            exact List.nodup_append.mpr ⟨W.nd, List.nodup_cons.mpr ⟨List.not_mem_nil, List.nodup_nil⟩, fun a ha b hb e => hm (by rw [List.mem_singleton.mp hb] at e; rw [← e]; exact ha)⟩
        · split at hy
          · exact W.nm y hy
          · rcases List.mem_append.mp hy with hy | hy
            · exact W.nm y hy
            · rw [List.mem_singleton.mp hy]
              exact nm_in x
        · split
          · rename_i hm
            exact ⟨.inl, fun z => z.elim id fun w => by rw [w.1]; exact hm⟩
          · rw [List.mem_append, List.mem_singleton]
            exact ⟨fun z => z.elim .inl fun e => .inr ⟨e, by rw [e]; exact hx⟩, fun z => z.elim .inl fun w => .inr w.1⟩
    · have gc := gv_and (c := false) (t := xB (xBin (rdIn true) (xBin rdIx (xQ (xV 12)) (xC (.int 1))) (xQ (xV 16)))) (gv_b (gv_eq (neg := false) gs (gv_c (d := PyData.str "name")) rfl)) fun h => absurd (of_decide_eq_true h) hn
      rw [Bool.and_false] at gc
      refine sq_ifF gc (rest_ok fs ⟨W.nd, W.nm, fun y => ?_, fun p hp => ?_, by rw [szq_app]; omega⟩)
      · rw [W.fr y]
        have hk := fr_kq y (v, ar) hn
        constructor
        · rintro (h | ⟨p, hp, h3⟩)
          · exact .inl h
          · rcases List.mem_append.mp hp with hp | hp
            · exact .inr ⟨p, List.mem_append_left _ hp, h3⟩
            · rw [List.mem_singleton.mp hp] at h3
              obtain ⟨c, hc, h4⟩ := hk.mp h3
              exact .inr ⟨c, List.mem_append_right _ hc, h4⟩
        · rintro (h | ⟨p, hp, h3⟩)
          · exact .inl h
          · rcases List.mem_append.mp hp with hp | hp
            · exact .inr ⟨p, List.mem_append_left _ hp, h3⟩
            · exact .inr ⟨(v, ar), List.mem_append_right _ (List.mem_singleton.mpr rfl), hk.mpr ⟨p, hp, h3⟩⟩
      · rcases List.mem_append.mp hp with hp | hp
        · exact W.wy p (List.mem_append_left _ hp)
        · exact wq_kq hw p hp
  · refine q fs x2 _ x11 x12 x16 x17 fun hlt => ⟨W.nd, W.nm, fun x => ?_⟩
    have hl0 : l = [] := by
      cases l with
      | nil => rfl
      | cons p r =>
        have h : (decide ((0 : Int) < (((p :: r).map qD).length : Nat)) && decide (((m0 : Nat) : Int) < 3000)) = false := h
        rw [decide_eq_true (by rw [List.length_map, List.length_cons]; omega), decide_eq_true (by omega)] at h
        cases h
    rw [W.fr x, hl0]
    exact ⟨.inl, fun z => z.elim id fun ⟨p, hp, _⟩ => by cases hp⟩
end
end K5
set_option Elab.async false
set_option linter.all false
set_option maxRecDepth 100000
set_option maxHeartbeats 8000000
set_option pp.maxSteps 500
namespace K5
open PySem PySem.Spec PyProof.Rows L2 PL
section
variable {ρ : Ev} {s t : TX Bool} {R : Bool → Prop}
theorem gs_andT (h : Gv s ρ true) (h2 : Gs t ρ R) : Gs (xAnd s t) ρ R := fun Q q => h _ (iteT (h2 Q q))
end
theorem fre_strOk {t : T} {ns : List Str} (h : Fre t ns) : ∀ x ∈ ns, PyData.strOk x = true := fun x hx => by
  have hn : ∀ y ∈ NMS, PyData.strOk y = true := by decide +kernel
  exact hn x (fr_nm x t ((h.2.2 x).mp hx))
section
variable {dl : Dl} {st c : Addr} {v0 : V} {s2 s3 s4 s5 s6 s7 s8 s9 s10 s11 s12 s13 s14 s15 s16 s17 s18 s19 : Option PV} {P : Es} {u : TSt} {ps : List (Str × T)} {t : T} {m0 : Nat} {ms : List Nat} {fs : List Str}
theorem t11_ok (hf : t.fine) (hd : t.dp ≤ 15) (h : m0 < 3000 → fs.Nodup ∧ (∀ x ∈ fs, x ∈ NMS) ∧ ∀ x, x ∈ fs ↔ t.fr x = true)
    (q : u P [some (.raw v0), some (.raw (.ref st)), s2, s3, s4, some (.imm (.list ((m0 :: ms).map nat))), s6, s7, s8, s9, some (.imm t.d), s11, s12, s13, s14, some (.own (.dic (fsD fs))), s16, s17, s18, s19]) :
    zSeq (t11 dl) u P [some (.raw v0), some (.raw (.ref st)), s2, s3, s4, some (.imm (.list ((m0 :: ms).map nat))), s6, s7, s8, s9, some (.imm t.d), s11, s12, s13, s14, some (.own (.dic (fsD fs))), s16, s17, s18, s19] := by
  have g0 : Gv (xB (xBin (rd0 fun i j => PyData.bool (decide (i < j))) (xBin rdIx (xQ (xV 5)) (xC (PyData.int 0))) (xC (PyData.int 3000)))) [some (.raw v0), some (.raw (.ref st)), s2, s3, s4, some (.imm (.list ((m0 :: ms).map nat))), s6, s7, s8, s9, some (.imm t.d), s11, s12, s13, s14, some (.own (.dic (fsD fs))), s16, s17, s18, s19] (decide (((m0 : Nat) : Int) < 3000)) := gv_b (gv_i0 (gv_t0 (gv_ql (gv_v 5 rfl))) gv_c)
  by_cases hm : m0 < 3000
  · obtain ⟨f1, f2, f3⟩ := h hm
    rw [decide_eq_true (show ((m0 : Nat) : Int) < 3000 by omega)] at g0
    have hfl := nodup_few fs NMS f1 f2
    rw [NMS_len] at hfl
    refine sq_ifS (R := fun b => b = false) (gs_andT g0 (gs_b (gs_bin (R := fun d => ∃ ns, d = .tuple (ns.map PyData.str) ∧ Fre t ns) (S := fun x y => x = y)
      (gs_call (gv_vc (gv_v 10 rfl) gv_v0) fun Q q => ⟨t, rfl, by omega, fine_few t hf, fun ns hn => q _ ⟨ns, rfl, hn⟩⟩) (fun x hx => ?_) fun x y hx e Q q => ?_))) (fun z => nomatch z) fun _ => q
    · obtain ⟨ns, rfl, hn⟩ := hx
      intro Q q
      refine ⟨fs, fsD_keys fs, by omega, fun ys hp hs => ?_⟩
      have e : ns = ys := sortedS_eq hn.1 hs (same_perm hn.2.1 (hp.nodup_iff.mpr f1) fun k => (hn.2.2 k).trans ((f3 k).symm.trans (hp.mem_iff).symm))
      subst e
      exact ⟨rfl, q _ rfl⟩
    · subst e
      obtain ⟨ns, rfl, hn⟩ := hx
      obtain ⟨z1, z2⟩ := lay_strs ns (fre_strOk hn)
      have hc : (PyData.tuple (ns.map PyData.str)).canLay0 = true := by rw [PyData.canLay0]; exact z1
      have hs : SeqAt.shaped (PyData.tuple (ns.map PyData.str)) = true := by
        unfold SeqAt.shaped
        rw [hc, decide_eq_true (by rw [PyData.depth, z2]; omega)]
        rfl
      refine ⟨hs, hs, q _ ⟨_, rfl, ?_⟩⟩
      rw [SeqAt.eqv_refl _ hc]
      rfl
  · rw [decide_eq_false (show ¬ ((m0 : Nat) : Int) < 3000 by omega)] at g0
    have g := gv_and (c := false) (t := xB (xBin (rdEq true) (xCall (tfFree 19) dl (vCons PV.imm (xV 10) (xC []))) (xUn rdTuple (xNQ (xSortD 15))))) g0 fun z => nomatch z
    exact sq_ifF g q
abbrev aF : T := .n2 .call (.n0 (.name .f)) (.n0 .unit)
abbrev aX : T := .n2 (.let .x) (.n0 (.name .x)) (.n0 (.name .x))
theorem t12_ok {ρ : Ev} (q : P.rt (.imm (.bool true))) : t12 dl P ρ := by
  have g1 := gv_eqDT (n := 37) (ρ := ρ) (ta := xCall tfParts dl (vCons PV.imm (xTup (xCons (xC (PyData.str (Str.ofString "call"))) (xCons (xTup (xCons (xC (PyData.str (Str.ofString "name"))) (xCons (xC (PyData.str (Str.ofString "f"))) (xC [])))) (xCons (xTup (xCons (xTup (xCons (xC (PyData.str (Str.ofString "unit"))) (xC []))) (xC []))) (xC []))))) (xC []))) (gv_call (gv_vc (gv_tup (gv_cons gv_c (gv_cons (gv_tup (gv_cons gv_c (gv_cons gv_c gv_nil))) (gv_cons (gv_tup (gv_cons (gv_tup (gv_cons gv_c gv_nil)) gv_nil)) gv_nil)))) gv_v0) fun Q q => ⟨aF, rfl, q⟩)
    (tb := xTup (xCons (xTup (xCons (xC (PyData.str (Str.ofString "name"))) (xCons (xC (PyData.str (Str.ofString "f"))) (xC [])))) (xCons (xTup (xCons (xC (PyData.str (Str.ofString "unit"))) (xC []))) (xC [])))) (gv_tup (gv_cons (gv_tup (gv_cons gv_c (gv_cons gv_c gv_nil))) (gv_cons (gv_tup (gv_cons gv_c gv_nil)) gv_nil))) (okD_kids (t := aF) (by exact ⟨trivial, trivial⟩) (by decide)) (by decide)
  have hfre : Fre aX ["x"] := by
    refine ⟨by decide +kernel, by decide +kernel, fun x => ?_⟩
    by_cases hx : x = "x"
    · subst hx
      decide +kernel
    · constructor
      · intro h
        exact absurd (List.mem_singleton.mp h) hx
      · intro h
        exfalso
        have h : (decide (x = "x") && decide (x ∉ ([] : List Str)) || decide (x = "x") && decide (x ∉ [("x" : Str)])) = true := h
        rw [decide_eq_false hx] at h
        exact nomatch h
  have gf : Gv (xCall (tfFree 19) dl (vCons PV.imm (xTup (xCons (xC (PyData.str (Str.ofString "let"))) (xCons (xC (PyData.str (Str.ofString "x"))) (xCons (xTup (xCons (xC (PyData.str (Str.ofString "name"))) (xCons (xC (PyData.str (Str.ofString "x"))) (xC [])))) (xCons (xTup (xCons (xC (PyData.str (Str.ofString "name"))) (xCons (xC (PyData.str (Str.ofString "x"))) (xC [])))) (xC [])))))) (xC []))) ρ (.tuple [.str "x"]) := gv_call (gv_vc (gv_tup (gv_cons gv_c (gv_cons gv_c (gv_cons (gv_tup (gv_cons gv_c (gv_cons gv_c gv_nil))) (gv_cons (gv_tup (gv_cons gv_c (gv_cons gv_c gv_nil))) gv_nil))))) gv_v0) fun Q q => ⟨aX, rfl, by decide, by exact ⟨trivial, trivial⟩, fun ns hn => by
    rw [fre_eq hn hfre]
    exact q⟩
  have g2 := gv_eqDT (n := 1) gf (tb := xTup (xCons (xC (PyData.str (Str.ofString "x"))) (xC []))) (gv_tup (gv_cons gv_c gv_nil)) (okD_tup fun d hd => by
    rw [List.mem_singleton.mp hd]
    exact okD_nm .x) (by decide)
  exact st_ret (gv_andV g1 fun _ => g2) q
theorem tLaw_ok (S : St1In dl st c) (q : P.rt (.imm (.bool true))) : tLaw dl P [some (.raw v0), some (.raw (.ref st)), s2, s3, s4, s5, s6, s7, s8, s9, s10, s11, s12, s13, s14, s15, s16, s17, s18, s19] := by
  refine t0_ok S fun ps hp => ?_
  refine sq_par (gv_lst gv_nil) (gv_lst gv_nil) ?_
  refine t2_ok hp fun due many x6 x7 x8 x9 x10 x11 C => ?_
  refine t3_ok hp C ?_
  obtain ⟨⟨nm, t⟩, ps', rfl⟩ : ∃ p ps', ps = p :: ps' := by
    cases ps with
    | nil => exact absurd hp.lo (by decide)
    | cons p r => exact ⟨p, r, rfl⟩
  obtain ⟨m0, ms, rfl⟩ : ∃ m0 ms, many = m0 :: ms := by
    cases many with
    | nil => exact absurd C.len (by simp)
    | cons p r => exact ⟨p, r, rfl⟩
  obtain ⟨hf, hd⟩ := hp.ok (nm, t) List.mem_cons_self
  have hf : t.fine := hf
  have hd : t.dp ≤ 15 := hd
  refine tMid_ok (t := t) (nm := nm) rfl hf hd fun x13 x14 => ?_
  refine sq_par gv_c (gv_lst (ds := [qD (t, [])]) (gv_cons (gv_tup (gv_cons (gv_v 10 rfl) (gv_cons (gv_tup gv_nil) gv_nil))) gv_nil)) ?_
  refine t10_ok hd ⟨List.nodup_nil, fun x h => (by cases h), fun x => ⟨fun h => .inr ⟨(t, []), List.mem_singleton.mpr rfl, h, List.not_mem_nil⟩, fun h => h.elim (fun z => (by cases z)) fun ⟨p, hp, h1, _⟩ => (by rw [List.mem_singleton.mp hp] at h1; exact h1)⟩, fun p hp => (by rw [List.mem_singleton.mp hp]; exact ⟨hf, hd, by show 0 + 3 * t.dp ≤ 60; omega⟩), by show t.sz + 0 ≤ t.sz; omega⟩ fun fs x2 x7 x11 x12 x16 x17 h => ?_
  refine t11_ok hf hd h ?_
  exact t12_ok q
end
end K5
set_option Elab.async false
set_option linter.all false
set_option maxRecDepth 100000
set_option maxHeartbeats 8000000
set_option pp.maxSteps 900
namespace K5
open PySem PySem.Spec PyProof.Rows L2 PL
section
variable {P : Program} {w : World} {K : PySem.W.Frag} {mg : Str → Option Value} {base : Heap} {f : Addr} {fd : FuncData} {f_parts f_with_parts f_tree_at f_bound_in f_free_names f_addresses f_size_of f__law_draw f__law_tree f__law_parts : Addr} {fd_parts fd_with_parts fd_tree_at fd_bound_in fd_free_names fd_addresses fd_size_of fd__law_draw fd__law_tree fd__law_parts : FuncData}
theorem ok_free_names (F_free_names : Fun K "free_names" "free_names" s_free_names f fd) (g_free_names : mg "free_names" = some (.ref f)) (b_free_names : Binds K fd ["tree"] []) (m_enumerate : mg "enumerate" = none) (m_sorted : mg "sorted" = none) (m_set : mg "set" = none) (m_tuple : mg "tuple" = none) (G_parts : FnOk P w K mg base CX0 1 f_parts fd_parts ["tree"] (Prm K tfParts)) (g_parts : mg "parts" = some (.ref f_parts)) (F_parts : Fun K "parts" "parts" s_parts f_parts fd_parts) (b_parts : Binds K fd_parts ["tree"] [])
    (G_bound_in : FnOk P w K mg base CX0 1 f_bound_in fd_bound_in ["tree", "at"] (Prm K tfBound)) (g_bound_in : mg "bound_in" = some (.ref f_bound_in)) (F_bound_in : Fun K "bound_in" "bound_in" s_bound_in f_bound_in fd_bound_in) (b_bound_in : Binds K fd_bound_in ["tree", "at"] []) :
    FnOk P w K mg base CX0 20 f fd ["tree"] (Prm K (tfFree 19)) := by
  have h : ∀ n : Nat, FnOk P w K mg base CX0 (n + 1) f fd ["tree"] (Prm K (tfFree n)) := fun n => by
    induction n with
    | zero => exact ok0_free_names
    | succ n ih => exact okS_free_names n F_free_names g_free_names b_free_names ih m_enumerate m_sorted m_set m_tuple G_parts g_parts F_parts b_parts G_bound_in g_bound_in F_bound_in b_bound_in
  exact h 19
def spLaw (K : PySem.W.Frag) : Sp := fun vs H Q _ => ∃ (a : Addr) (ns : List Int), vs = [.ref a] ∧ SqL K H a (ns.map V.int) ∧ ns.length ≤ 63 ∧ ∀ H', Q (.bl true) H'
theorem ok_law (m_len : mg "len" = none) (m_int : mg "int" = none) (m_str : mg "str" = none) (m_tuple : mg "tuple" = none) (m_range : mg "range" = none) (m_max : mg "max" = none) (m_sorted : mg "sorted" = none) (G_parts : FnOk P w K mg base CX0 1 f_parts fd_parts ["tree"] (Prm K tfParts)) (g_parts : mg "parts" = some (.ref f_parts)) (F_parts : Fun K "parts" "parts" s_parts f_parts fd_parts) (b_parts : Binds K fd_parts ["tree"] []) (G_with_parts : FnOk P w K mg base CX0 1 f_with_parts fd_with_parts ["tree", "some"] (Prm K tfWith)) (g_with_parts : mg "with_parts" = some (.ref f_with_parts)) (F_with_parts : Fun K "with_parts" "with_parts" s_with_parts f_with_parts fd_with_parts) (b_with_parts : Binds K fd_with_parts ["tree", "some"] []) (G_tree_at : FnOk P w K mg base CX0 2 f_tree_at fd_tree_at ["program", "address"] (Prm K tfTreeAt)) (g_tree_at : mg "tree_at" = some (.ref f_tree_at)) (F_tree_at : Fun K "tree_at" "tree_at" s_tree_at f_tree_at fd_tree_at) (b_tree_at : Binds K fd_tree_at ["program", "address"] []) (G_bound_in : FnOk P w K mg base CX0 1 f_bound_in fd_bound_in ["tree", "at"] (Prm K tfBound)) (g_bound_in : mg "bound_in" = some (.ref f_bound_in)) (F_bound_in : Fun K "bound_in" "bound_in" s_bound_in f_bound_in fd_bound_in) (b_bound_in : Binds K fd_bound_in ["tree", "at"] []) (G_free_names : FnOk P w K mg base CX0 20 f_free_names fd_free_names ["tree"] (Prm K (tfFree 19))) (g_free_names : mg "free_names" = some (.ref f_free_names)) (F_free_names : Fun K "free_names" "free_names" s_free_names f_free_names fd_free_names) (b_free_names : Binds K fd_free_names ["tree"] []) (G_addresses : FnOk P w K mg base CX0 2 f_addresses fd_addresses ["program"] (Prm K tfAddr)) (g_addresses : mg "addresses" = some (.ref f_addresses)) (F_addresses : Fun K "addresses" "addresses" s_addresses f_addresses fd_addresses) (b_addresses : Binds K fd_addresses ["program"] []) (G_size_of : FnOk P w K mg base CX0 2 f_size_of fd_size_of ["tree"] (Prm K tfSize)) (g_size_of : mg "size_of" = some (.ref f_size_of)) (F_size_of : Fun K "size_of" "size_of" s_size_of f_size_of fd_size_of) (b_size_of : Binds K fd_size_of ["tree"] []) (G__law_draw : FnOk P w K mg base CX0 1 f__law_draw fd__law_draw ["state", "many"] (Prm K tfDraw1)) (g__law_draw : mg "_law_draw" = some (.ref f__law_draw)) (F__law_draw : Fun K "_law_draw" "_law_draw" s__law_draw f__law_draw fd__law_draw) (b__law_draw : Binds K fd__law_draw ["state", "many"] []) (G__law_tree : FnG P w K mg base 4 f__law_tree fd__law_tree ["state", "many"] (Prm K tfTree)) (g__law_tree : mg "_law_tree" = some (.ref f__law_tree)) (F__law_tree : Fun K "_law_tree" "_law_tree" s__law_tree f__law_tree fd__law_tree) (b__law_tree : Binds K fd__law_tree ["state", "many"] []) (G__law_parts : FnOk P w K mg base CX0 1 f__law_parts fd__law_parts ["tree"] (Prm K tfParts)) (g__law_parts : mg "_law_parts" = some (.ref f__law_parts)) (F__law_parts : Fun K "_law_parts" "_law_parts" s__law_parts f__law_parts fd__law_parts) (b__law_parts : Binds K fd__law_parts ["tree"] []) {f__law_state : Addr} {fd__law_state : FuncData} (G__law_state : FnOk P w K mg base CX0 1 f__law_state fd__law_state ["script"] (spState K)) (g__law_state : mg "_law_state" = some (.ref f__law_state)) (F__law_state : Fun K "_law_state" "_law_state" s__law_state f__law_state fd__law_state) (b__law_state : Binds K fd__law_state ["script"] []) (F : Fun K "law" "law" s_law f fd) :
    FnG P w K mg base 21 f fd ["script"] (spLaw K) := by
  refine okG F sc_law (fun _ _ _ _ ⟨_, _, e, _⟩ => by rw [e] <;> rfl) fun cdv A outer s H vs Q E hgd hr ⟨a, ns, ev, hs, hl, q⟩ => ?_
  subst ev
  refine ⟨_, pss_cons (ps_set (i := 1) sc_law.nd rfl (.inr rfl) (pe_call G__law_state (hr.mono (by decide)) (by rfl) g__law_state F__law_state.kp b__law_state .nil pass0 (pa_cons (pv 0) pa_nil))) (ent_any fun e => der_law m_len m_int m_str m_tuple m_range m_max m_sorted G_parts g_parts F_parts b_parts G_with_parts g_with_parts F_with_parts b_with_parts G_tree_at g_tree_at F_tree_at b_tree_at G_bound_in g_bound_in F_bound_in b_bound_in G_free_names g_free_names F_free_names b_free_names G_addresses g_addresses F_addresses b_addresses G_size_of g_size_of F_size_of b_size_of G__law_draw g__law_draw F__law_draw b__law_draw G__law_tree g__law_tree F__law_tree b__law_tree G__law_parts g__law_parts F__law_parts b__law_parts hgd hr e), ?_⟩
  refine ⟨_, rfl, a, ns, rfl, hs, hl, fun st c H1 _ _ _ sk => ?_⟩
  exact ⟨ent1 st c H1, fun _ => none, some (.raw (.ref a)) :: some (.raw (.ref st)) :: List.replicate 18 none, lawEs, start1 sk 18, tLaw_ok start1_in rfl, lawLk q⟩
end
end K5
set_option Elab.async false
set_option linter.all false
set_option maxRecDepth 100000
set_option maxHeartbeats 8000000
namespace K5
open PySem PySem.Spec PyProof.Rows L2 PL
/-- the texts that a list of values holds -/
def L2.strsV : List Value → Option (List Str)
  | [] => some []
  | .str x _ :: r => (L2.strsV r).map (x :: ·)
  | _ :: _ => none
theorem strs_valsD {K : PySem.W.Frag} {F : Hp} : ∀ {us : List Value} {xs : List Str}, L2.strsV us = some xs → Vals (xs.map V.str) us ∧ DpAll K F (xs.map V.str) (xs.map PyData.str)
  | [], xs, h => by
    cases h
    exact ⟨.nil, .nil⟩
  | u :: r, xs, h => by
    cases u with
    | str x t =>
      unfold L2.strsV at h
      cases hr : L2.strsV r with
      | none => rw [hr] at h; cases h
      | some ys =>
        rw [hr] at h
        cases h
        exact ⟨.cons ⟨t, rfl⟩ (strs_valsD (K := K) (F := F) hr).1, .cons (.str x) (strs_valsD hr).2⟩
    | _ => cases h
theorem tupD_of {K : PySem.W.Frag} {a : Addr} {od : Option Addr} {its : Array Value} {n : Nat} {sl : Array (Option Value)} {xs : List Str} (l : K.lookup a = some ⟨.type "tuple", od, .seq its n, sl⟩) (h : L2.strsV its.toList = some xs) (hz : xs.length ≤ 1000) (F : Hp) : Dp K F (.ref a) (.tuple (xs.map PyData.str)) := by
  obtain ⟨v, d⟩ := strs_valsD (K := K) (F := F) h
  refine .tup (.inr ⟨_, its, n, l, rfl, rfl, ?_, v⟩) d
  have := v.length
  rw [List.length_map] at this
  have e2 : its.size = its.toList.length := by simp
  exact Nat.le_trans (show its.size ≤ 1000 by omega) (by decide)
theorem all_mk {l : PySem.W.OpenLaw} {w : World} {K : PySem.W.Frag} {h : Heap} {mg : Str → Option Value} {fa : Addr} (X : K.In h) (G : h.Ns mainGlobals mg) (hfa : mg "law" = some (.ref fa))
    (y_tuple : PySem.W.nsIn K mainGlobals "tuple" = some none)
    (y_enumerate : PySem.W.nsIn K mainGlobals "enumerate" = some none)
    (y_sorted : PySem.W.nsIn K mainGlobals "sorted" = some none)
    (y_set : PySem.W.nsIn K mainGlobals "set" = some none)
    (y_list : PySem.W.nsIn K mainGlobals "list" = some none)
    (y_int : PySem.W.nsIn K mainGlobals "int" = some none)
    (y_abs : PySem.W.nsIn K mainGlobals "abs" = some none)
    (y_len : PySem.W.nsIn K mainGlobals "len" = some none)
    (y_range : PySem.W.nsIn K mainGlobals "range" = some none)
    (y_str : PySem.W.nsIn K mainGlobals "str" = some none)
    (y_max : PySem.W.nsIn K mainGlobals "max" = some none)
    {aP : Addr}
    (k_PLAIN : PySem.W.nsIn K mainGlobals "PLAIN" = some (some (.ref aP)))
    {odTPLAIN : Option Addr} {iTPLAIN : Array Value} {nTPLAIN : Nat} {slTPLAIN : Array (Option Value)} (lTPLAIN : K.lookup aP = some ⟨.type "tuple", odTPLAIN, .seq iTPLAIN nTPLAIN, slTPLAIN⟩) (vTPLAIN : L2.strsV iTPLAIN.toList = some (["num", "bool", "unit", "name"] : List Str))
    {F0 : Addr} {od0 an0 : Option Addr} {sl0 : Array (Option Value)} {oc0 kV0 dc0 pm0 cd0 ct0 : Value}
    (a0 : PySem.W.nsIn K mainGlobals "parts" = some (some (.ref F0))) (l0 : K.lookup F0 = some ⟨oc0, od0, .func (PySem.W.fnOf "parts" "parts" (defArgs s_parts) (defBody s_parts) (defScope s_parts) .none kV0 dc0 pm0 an0 cd0 ct0), sl0⟩) (c0 : PySem.W.codeIn K cd0 "parts" = true) (p0 : PySem.W.keepIn K (.ref F0) = true)
    {F1 : Addr} {od1 an1 : Option Addr} {sl1 : Array (Option Value)} {oc1 kV1 dc1 pm1 cd1 ct1 : Value}
    (a1 : PySem.W.nsIn K mainGlobals "with_parts" = some (some (.ref F1))) (l1 : K.lookup F1 = some ⟨oc1, od1, .func (PySem.W.fnOf "with_parts" "with_parts" (defArgs s_with_parts) (defBody s_with_parts) (defScope s_with_parts) .none kV1 dc1 pm1 an1 cd1 ct1), sl1⟩) (c1 : PySem.W.codeIn K cd1 "with_parts" = true) (p1 : PySem.W.keepIn K (.ref F1) = true)
    {F2 : Addr} {od2 an2 : Option Addr} {sl2 : Array (Option Value)} {oc2 kV2 dc2 pm2 cd2 ct2 : Value}
    (a2 : PySem.W.nsIn K mainGlobals "tree_at" = some (some (.ref F2))) (l2 : K.lookup F2 = some ⟨oc2, od2, .func (PySem.W.fnOf "tree_at" "tree_at" (defArgs s_tree_at) (defBody s_tree_at) (defScope s_tree_at) .none kV2 dc2 pm2 an2 cd2 ct2), sl2⟩) (c2 : PySem.W.codeIn K cd2 "tree_at" = true) (p2 : PySem.W.keepIn K (.ref F2) = true)
    {F3 : Addr} {od3 an3 : Option Addr} {sl3 : Array (Option Value)} {oc3 kV3 dc3 pm3 cd3 ct3 : Value}
    (a3 : PySem.W.nsIn K mainGlobals "bound_in" = some (some (.ref F3))) (l3 : K.lookup F3 = some ⟨oc3, od3, .func (PySem.W.fnOf "bound_in" "bound_in" (defArgs s_bound_in) (defBody s_bound_in) (defScope s_bound_in) .none kV3 dc3 pm3 an3 cd3 ct3), sl3⟩) (c3 : PySem.W.codeIn K cd3 "bound_in" = true) (p3 : PySem.W.keepIn K (.ref F3) = true)
    {F4 : Addr} {od4 an4 : Option Addr} {sl4 : Array (Option Value)} {oc4 kV4 dc4 pm4 cd4 ct4 : Value}
    (a4 : PySem.W.nsIn K mainGlobals "free_names" = some (some (.ref F4))) (l4 : K.lookup F4 = some ⟨oc4, od4, .func (PySem.W.fnOf "free_names" "free_names" (defArgs s_free_names) (defBody s_free_names) (defScope s_free_names) .none kV4 dc4 pm4 an4 cd4 ct4), sl4⟩) (c4 : PySem.W.codeIn K cd4 "free_names" = true) (p4 : PySem.W.keepIn K (.ref F4) = true)
    {F5 : Addr} {od5 an5 : Option Addr} {sl5 : Array (Option Value)} {oc5 kV5 dc5 pm5 cd5 ct5 : Value}
    (a5 : PySem.W.nsIn K mainGlobals "addresses" = some (some (.ref F5))) (l5 : K.lookup F5 = some ⟨oc5, od5, .func (PySem.W.fnOf "addresses" "addresses" (defArgs s_addresses) (defBody s_addresses) (defScope s_addresses) .none kV5 dc5 pm5 an5 cd5 ct5), sl5⟩) (c5 : PySem.W.codeIn K cd5 "addresses" = true) (p5 : PySem.W.keepIn K (.ref F5) = true)
    {F6 : Addr} {od6 an6 : Option Addr} {sl6 : Array (Option Value)} {oc6 kV6 dc6 pm6 cd6 ct6 : Value}
    (a6 : PySem.W.nsIn K mainGlobals "size_of" = some (some (.ref F6))) (l6 : K.lookup F6 = some ⟨oc6, od6, .func (PySem.W.fnOf "size_of" "size_of" (defArgs s_size_of) (defBody s_size_of) (defScope s_size_of) .none kV6 dc6 pm6 an6 cd6 ct6), sl6⟩) (c6 : PySem.W.codeIn K cd6 "size_of" = true) (p6 : PySem.W.keepIn K (.ref F6) = true)
    {F7 : Addr} {od7 an7 : Option Addr} {sl7 : Array (Option Value)} {oc7 kV7 dc7 pm7 cd7 ct7 : Value}
    (a7 : PySem.W.nsIn K mainGlobals "_law_state" = some (some (.ref F7))) (l7 : K.lookup F7 = some ⟨oc7, od7, .func (PySem.W.fnOf "_law_state" "_law_state" (defArgs s__law_state) (defBody s__law_state) (defScope s__law_state) .none kV7 dc7 pm7 an7 cd7 ct7), sl7⟩) (c7 : PySem.W.codeIn K cd7 "_law_state" = true) (p7 : PySem.W.keepIn K (.ref F7) = true)
    {F8 : Addr} {od8 an8 : Option Addr} {sl8 : Array (Option Value)} {oc8 kV8 dc8 pm8 cd8 ct8 : Value}
    (a8 : PySem.W.nsIn K mainGlobals "_law_draw" = some (some (.ref F8))) (l8 : K.lookup F8 = some ⟨oc8, od8, .func (PySem.W.fnOf "_law_draw" "_law_draw" (defArgs s__law_draw) (defBody s__law_draw) (defScope s__law_draw) .none kV8 dc8 pm8 an8 cd8 ct8), sl8⟩) (c8 : PySem.W.codeIn K cd8 "_law_draw" = true) (p8 : PySem.W.keepIn K (.ref F8) = true)
    {F9 : Addr} {od9 an9 : Option Addr} {sl9 : Array (Option Value)} {oc9 kV9 dc9 pm9 cd9 ct9 : Value}
    (a9 : PySem.W.nsIn K mainGlobals "_law_type" = some (some (.ref F9))) (l9 : K.lookup F9 = some ⟨oc9, od9, .func (PySem.W.fnOf "_law_type" "_law_type" (defArgs s__law_type) (defBody s__law_type) (defScope s__law_type) .none kV9 dc9 pm9 an9 cd9 ct9), sl9⟩) (c9 : PySem.W.codeIn K cd9 "_law_type" = true) (p9 : PySem.W.keepIn K (.ref F9) = true)
    {F10 : Addr} {od10 an10 : Option Addr} {sl10 : Array (Option Value)} {oc10 kV10 dc10 pm10 cd10 ct10 : Value}
    (a10 : PySem.W.nsIn K mainGlobals "_law_node" = some (some (.ref F10))) (l10 : K.lookup F10 = some ⟨oc10, od10, .func (PySem.W.fnOf "_law_node" "_law_node" (defArgs s__law_node) (defBody s__law_node) (defScope s__law_node) .none kV10 dc10 pm10 an10 cd10 ct10), sl10⟩) (c10 : PySem.W.codeIn K cd10 "_law_node" = true) (p10 : PySem.W.keepIn K (.ref F10) = true)
    {F11 : Addr} {od11 an11 : Option Addr} {sl11 : Array (Option Value)} {oc11 kV11 dc11 pm11 cd11 ct11 : Value}
    (a11 : PySem.W.nsIn K mainGlobals "_law_tree" = some (some (.ref F11))) (l11 : K.lookup F11 = some ⟨oc11, od11, .func (PySem.W.fnOf "_law_tree" "_law_tree" (defArgs s__law_tree) (defBody s__law_tree) (defScope s__law_tree) .none kV11 dc11 pm11 an11 cd11 ct11), sl11⟩) (c11 : PySem.W.codeIn K cd11 "_law_tree" = true) (p11 : PySem.W.keepIn K (.ref F11) = true)
    {F12 : Addr} {od12 an12 : Option Addr} {sl12 : Array (Option Value)} {oc12 kV12 dc12 pm12 cd12 ct12 : Value}
    (a12 : PySem.W.nsIn K mainGlobals "_law_parts" = some (some (.ref F12))) (l12 : K.lookup F12 = some ⟨oc12, od12, .func (PySem.W.fnOf "_law_parts" "_law_parts" (defArgs s__law_parts) (defBody s__law_parts) (defScope s__law_parts) .none kV12 dc12 pm12 an12 cd12 ct12), sl12⟩) (c12 : PySem.W.codeIn K cd12 "_law_parts" = true) (p12 : PySem.W.keepIn K (.ref F12) = true)
    {F13 : Addr} {od13 an13 : Option Addr} {sl13 : Array (Option Value)} {oc13 kV13 dc13 pm13 cd13 ct13 : Value}
    (a13 : PySem.W.nsIn K mainGlobals "law" = some (some (.ref F13))) (l13 : K.lookup F13 = some ⟨oc13, od13, .func (PySem.W.fnOf "law" "law" (defArgs s_law) (defBody s_law) (defScope s_law) .none kV13 dc13 pm13 an13 cd13 ct13), sl13⟩) (c13 : PySem.W.codeIn K cd13 "law" = true) (p13 : PySem.W.keepIn K (.ref F13) = true)
    : ∃ fd : FuncData, (∀ (s : Shared) (v : Value), BindsTo s fd ⟨[v], []⟩ [("script", v)]) ∧ ∀ base : Heap, K.In base → base.Ns mainGlobals mg → FnG l.prog w K mg base 21 fa fd ["script"] (spLaw K) := by
  have e := hfa.symm.trans (PySem.W.mg_of X G a13)
  cases e
  have m_tuple := PySem.W.mg_none_of X G y_tuple
  have m_enumerate := PySem.W.mg_none_of X G y_enumerate
  have m_sorted := PySem.W.mg_none_of X G y_sorted
  have m_set := PySem.W.mg_none_of X G y_set
  have m_list := PySem.W.mg_none_of X G y_list
  have m_int := PySem.W.mg_none_of X G y_int
  have m_abs := PySem.W.mg_none_of X G y_abs
  have m_len := PySem.W.mg_none_of X G y_len
  have m_range := PySem.W.mg_none_of X G y_range
  have m_str := PySem.W.mg_none_of X G y_str
  have m_max := PySem.W.mg_none_of X G y_max
  have g_PLAIN := PySem.W.mg_of X G k_PLAIN
  have hPLAIN := tupD_of lTPLAIN vTPLAIN (by decide)
  have F_parts := fun_mk (st := s_parts) l0 c0 p0
  have g_parts := PySem.W.mg_of X G a0
  have b_parts := F_parts.binds (ps := ["tree"]) fun _ _ _ _ _ _ us hl => match us, hl with | [_], _ => rfl
  have F_with_parts := fun_mk (st := s_with_parts) l1 c1 p1
  have g_with_parts := PySem.W.mg_of X G a1
  have b_with_parts := F_with_parts.binds (ps := ["tree", "some"]) fun _ _ _ _ _ _ us hl => match us, hl with | [_, _], _ => rfl
  have F_tree_at := fun_mk (st := s_tree_at) l2 c2 p2
  have g_tree_at := PySem.W.mg_of X G a2
  have b_tree_at := F_tree_at.binds (ps := ["program", "address"]) fun _ _ _ _ _ _ us hl => match us, hl with | [_, _], _ => rfl
  have F_bound_in := fun_mk (st := s_bound_in) l3 c3 p3
  have g_bound_in := PySem.W.mg_of X G a3
  have b_bound_in := F_bound_in.binds (ps := ["tree", "at"]) fun _ _ _ _ _ _ us hl => match us, hl with | [_, _], _ => rfl
  have F_free_names := fun_mk (st := s_free_names) l4 c4 p4
  have g_free_names := PySem.W.mg_of X G a4
  have b_free_names := F_free_names.binds (ps := ["tree"]) fun _ _ _ _ _ _ us hl => match us, hl with | [_], _ => rfl
  have F_addresses := fun_mk (st := s_addresses) l5 c5 p5
  have g_addresses := PySem.W.mg_of X G a5
  have b_addresses := F_addresses.binds (ps := ["program"]) fun _ _ _ _ _ _ us hl => match us, hl with | [_], _ => rfl
  have F_size_of := fun_mk (st := s_size_of) l6 c6 p6
  have g_size_of := PySem.W.mg_of X G a6
  have b_size_of := F_size_of.binds (ps := ["tree"]) fun _ _ _ _ _ _ us hl => match us, hl with | [_], _ => rfl
  have F__law_state := fun_mk (st := s__law_state) l7 c7 p7
  have g__law_state := PySem.W.mg_of X G a7
  have b__law_state := F__law_state.binds (ps := ["script"]) fun _ _ _ _ _ _ us hl => match us, hl with | [_], _ => rfl
  have F__law_draw := fun_mk (st := s__law_draw) l8 c8 p8
  have g__law_draw := PySem.W.mg_of X G a8
  have b__law_draw := F__law_draw.binds (ps := ["state", "many"]) fun _ _ _ _ _ _ us hl => match us, hl with | [_, _], _ => rfl
  have F__law_type := fun_mk (st := s__law_type) l9 c9 p9
  have g__law_type := PySem.W.mg_of X G a9
  have b__law_type := F__law_type.binds (ps := ["state"]) fun _ _ _ _ _ _ us hl => match us, hl with | [_], _ => rfl
  have F__law_node := fun_mk (st := s__law_node) l10 c10 p10
  have g__law_node := PySem.W.mg_of X G a10
  have b__law_node := F__law_node.binds (ps := ["state", "some"]) fun _ _ _ _ _ _ us hl => match us, hl with | [_, _], _ => rfl
  have F__law_tree := fun_mk (st := s__law_tree) l11 c11 p11
  have g__law_tree := PySem.W.mg_of X G a11
  have b__law_tree := F__law_tree.binds (ps := ["state", "many"]) fun _ _ _ _ _ _ us hl => match us, hl with | [_, _], _ => rfl
  have F__law_parts := fun_mk (st := s__law_parts) l12 c12 p12
  have g__law_parts := PySem.W.mg_of X G a12
  have b__law_parts := F__law_parts.binds (ps := ["tree"]) fun _ _ _ _ _ _ us hl => match us, hl with | [_], _ => rfl
  have F_law := fun_mk (st := s_law) l13 c13 p13
  have g_law := PySem.W.mg_of X G a13
  refine ⟨PySem.W.fnOf "law" "law" (defArgs s_law) (defBody s_law) (defScope s_law) .none kV13 dc13 pm13 an13 cd13 ct13, fun s v => .of_eq rfl, fun base _ _ => ?_⟩
  have G_parts := (show FnOk l.prog w K mg base CX0 1 F0 _ ["tree"] (Prm K tfParts) from ok_parts F_parts g_PLAIN hPLAIN)
  have G_with_parts := (show FnOk l.prog w K mg base CX0 1 F1 _ ["tree", "some"] (Prm K tfWith) from ok_with_parts F_with_parts g_PLAIN hPLAIN m_tuple)
  have G_tree_at := (show FnOk l.prog w K mg base CX0 2 F2 _ ["program", "address"] (Prm K tfTreeAt) from ok_tree_at F_tree_at G_parts g_parts F_parts b_parts)
  have G_bound_in := (show FnOk l.prog w K mg base CX0 1 F3 _ ["tree", "at"] (Prm K tfBound) from ok_bound_in F_bound_in m_tuple)
  have G_free_names := (show FnOk l.prog w K mg base CX0 20 F4 _ ["tree"] (Prm K (tfFree 19)) from ok_free_names F_free_names g_free_names b_free_names m_enumerate m_sorted m_set m_tuple G_parts g_parts F_parts b_parts G_bound_in g_bound_in F_bound_in b_bound_in)
  have G_addresses := (show FnOk l.prog w K mg base CX0 2 F5 _ ["program"] (Prm K tfAddr) from ok_addresses F_addresses m_enumerate m_sorted G_parts g_parts F_parts b_parts)
  have G_size_of := (show FnOk l.prog w K mg base CX0 2 F6 _ ["tree"] (Prm K tfSize) from ok_size_of F_size_of m_list G_parts g_parts F_parts b_parts)
  have G__law_state := (show FnOk l.prog w K mg base CX0 1 F7 _ ["script"] (spState K) from ok_state F__law_state m_int m_abs)
  have G__law_draw := (show FnOk l.prog w K mg base CX0 1 F8 _ ["state", "many"] (Prm K tfDraw1) from ok__law_draw F__law_draw m_len m_int)
  have G__law_type := (show FnOk l.prog w K mg base CX0 2 F9 _ ["state"] (Prm K tfType) from ok__law_type F__law_type G__law_draw g__law_draw F__law_draw b__law_draw)
  have G__law_node := (show FnOk l.prog w K mg base CX0 3 F10 _ ["state", "some"] (Prm K tfNode) from ok__law_node F__law_node m_len m_range m_tuple G__law_draw g__law_draw F__law_draw b__law_draw G__law_type g__law_type F__law_type b__law_type)
  have G__law_tree := (show FnG l.prog w K mg base 4 F11 _ ["state", "many"] (Prm K tfTree) from ok__law_tree F__law_tree m_len m_range m_str G__law_draw g__law_draw F__law_draw b__law_draw G__law_node g__law_node F__law_node b__law_node)
  have G__law_parts := (show FnOk l.prog w K mg base CX0 1 F12 _ ["tree"] (Prm K tfParts) from ok__law_parts F__law_parts m_tuple)
  exact ok_law m_len m_int m_str m_tuple m_range m_max m_sorted G_parts g_parts F_parts b_parts G_with_parts g_with_parts F_with_parts b_with_parts G_tree_at g_tree_at F_tree_at b_tree_at G_bound_in g_bound_in F_bound_in b_bound_in G_free_names g_free_names F_free_names b_free_names G_addresses g_addresses F_addresses b_addresses G_size_of g_size_of F_size_of b_size_of G__law_draw g__law_draw F__law_draw b__law_draw G__law_tree g__law_tree F__law_tree b__law_tree G__law_parts g__law_parts F__law_parts b__law_parts G__law_state g__law_state F__law_state b__law_state F_law
end K5
open PySem PySem.W PyProof.Rows
set_option maxRecDepth 100000 in
set_option maxHeartbeats 0 in
theorem PySem.Challenge.cw_stagesworn_k05_trees_and_addresses_holds : PySem.Challenge.rw_stagesworn_k05_trees_and_addresses.Holds := by
  w_on; o_law; k_head; (case hw => w_witness2)
  k_fill
  refine PL.walk_ofG (l := PySem.Challenge.rw_stagesworn_k05_trees_and_addresses) (n := 63) (k := 21) (x := "script") (sp := fun w => K5.spLaw _) rfl (by decide) rfl ⟨rfl, by decide, by decide⟩ (fun w h Y => PySem.W.kIn_of Y) ?F (fun _ _ a ns hl _ _ hS => ⟨a, ns, rfl, hS, hl, fun _ => rfl⟩)
  case F =>
    intro w mg fa h KX G hmg
    refine' K5.all_mk (l := PySem.Challenge.rw_stagesworn_k05_trees_and_addresses) KX G hmg ?y_tuple ?y_enumerate ?y_sorted ?y_set ?y_list ?y_int ?y_abs ?y_len ?y_range ?y_str ?y_max ?k_PLAIN ?lTPLAIN ?vTPLAIN ?a0 ?l0 ?c0 ?p0 ?a1 ?l1 ?c1 ?p1 ?a2 ?l2 ?c2 ?p2 ?a3 ?l3 ?c3 ?p3 ?a4 ?l4 ?c4 ?p4 ?a5 ?l5 ?c5 ?p5 ?a6 ?l6 ?c6 ?p6 ?a7 ?l7 ?c7 ?p7 ?a8 ?l8 ?c8 ?p8 ?a9 ?l9 ?c9 ?p9 ?a10 ?l10 ?c10 ?p10 ?a11 ?l11 ?c11 ?p11 ?a12 ?l12 ?c12 ?p12 ?a13 ?l13 ?c13 ?p13
    (case y_tuple => k_is)
    (case y_enumerate => k_is)
    (case y_sorted => k_is)
    (case y_set => k_is)
    (case y_list => k_is)
    (case y_int => k_is)
    (case y_abs => k_is)
    (case y_len => k_is)
    (case y_range => k_is)
    (case y_str => k_is)
    (case y_max => k_is)
    (case k_PLAIN => k_is)
    (case lTPLAIN => k_is)
    (case vTPLAIN => decide +kernel)
    (case a0 => k_is)
    (case l0 => k_is)
    (case c0 => k_is)
    (case p0 => k_is)
    (case a1 => k_is)
    (case l1 => k_is)
    (case c1 => k_is)
    (case p1 => k_is)
    (case a2 => k_is)
    (case l2 => k_is)
    (case c2 => k_is)
    (case p2 => k_is)
    (case a3 => k_is)
    (case l3 => k_is)
    (case c3 => k_is)
    (case p3 => k_is)
    (case a4 => k_is)
    (case l4 => k_is)
    (case c4 => k_is)
    (case p4 => k_is)
    (case a5 => k_is)
    (case l5 => k_is)
    (case c5 => k_is)
    (case p5 => k_is)
    (case a6 => k_is)
    (case l6 => k_is)
    (case c6 => k_is)
    (case p6 => k_is)
    (case a7 => k_is)
    (case l7 => k_is)
    (case c7 => k_is)
    (case p7 => k_is)
    (case a8 => k_is)
    (case l8 => k_is)
    (case c8 => k_is)
    (case p8 => k_is)
    (case a9 => k_is)
    (case l9 => k_is)
    (case c9 => k_is)
    (case p9 => k_is)
    (case a10 => k_is)
    (case l10 => k_is)
    (case c10 => k_is)
    (case p10 => k_is)
    (case a11 => k_is)
    (case l11 => k_is)
    (case c11 => k_is)
    (case p11 => k_is)
    (case a12 => k_is)
    (case l12 => k_is)
    (case c12 => k_is)
    (case p12 => k_is)
    (case a13 => k_is)
    (case l13 => k_is)
    (case c13 => k_is)
    (case p13 => k_is)
#print axioms PySem.Challenge.cw_stagesworn_k05_trees_and_addresses_holds
