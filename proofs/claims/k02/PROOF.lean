import PyProof.Rows.All
import Wide.All
import OpenK.AllK
import Wide.FinOn
import HandS.ForMost
import HandS.ForExc
import HandS.TupAny
import HandS.IsInst
import HandS.ExcIs
import HandS.Deep
import PySem.Challenge.RW_metergap_k02_days_share
set_option Elab.async false
set_option linter.all false
set_option maxRecDepth 100000
set_option maxHeartbeats 8000000
namespace Mg
open PySem PySem.Spec PyProof.Rows L2
abbrev D := PyData
abbrev St := L2.St

/-! ### two heaps: F, the frozen part, below H, all that is tracked -/
structure Step (F H F' H' : Hp) : Prop where
  fr : Same F F'
  inn : Same F' H'
  pv : ∀ a o, H a = some o → F a = none → F' a = none ∧ H' a = some o
section
variable {F H F1 H1 F2 H2 F' H' : Hp} {p a : Addr} {o : HO} {K : PySem.W.Frag}
theorem Step.refl (h : Same F H) : Step F H F H := ⟨Same.refl F, h, fun _ _ a b => ⟨b, a⟩⟩
theorem Step.trans (a : Step F H F1 H1) (b : Step F1 H1 F2 H2) : Step F H F2 H2 :=
  ⟨a.fr.trans b.fr, b.inn, fun c o h n => let ⟨n1, h1⟩ := a.pv c o h n; b.pv c o h1 n1⟩
theorem Step.same (i : Same F H) (a : Step F H F' H') : Same H H' := fun c o h => by
  cases q : F c with
  | none => exact (a.pv c o h q).2
  | some u =>
    have e := i c u q
    rw [h] at e
    cases e
    exact a.inn c o (a.fr c o q)
theorem none_of_same (i : Same F H) (n : H p = none) : F p = none := i.free n
theorem same_upd2 (i : Same F H) (n : H p = none) : Same (upd F p o) (upd H p o) := fun b u e => by
  by_cases hb : b = p
  · subst hb
    rw [upd_same] at e ⊢
    exact e
  · rw [upd_ne hb] at e ⊢
    exact i b u e
theorem same_new (n : H p = none) : Same H (upd H p o) := fun b u e => by
  rw [upd_ne (ne_of_none e n)]
  exact e
theorem Step.new (i : Same F H) (n : H p = none) : Step F H (upd F p o) (upd H p o) :=
  ⟨same_new (i.free n), same_upd2 i n, fun b u e f => by
    have hb : b ≠ p := ne_of_none e n
    rw [upd_ne hb, upd_ne hb]
    exact ⟨f, e⟩⟩
theorem Step.priv (i : Same F H) (n : H p = none) : Step F H F (upd H p o) :=
  ⟨Same.refl F, i.trans (same_new n), fun b u e f => by
    rw [upd_ne (ne_of_none e n)]
    exact ⟨f, e⟩⟩
/-- a private object is frozen -/
theorem Step.frz (s : Step F H F' H') (n : H p = none) (f : F' p = none) (h : H' p = some o) : Step F H (upd F' p o) H' :=
  ⟨s.fr.trans (same_new f), fun b u e => by
    by_cases hb : b = p
    · subst hb
      rw [upd_same] at e
      cases e
      exact h
    · rw [upd_ne hb] at e
      exact s.inn b u e,
   fun b u e g => by
    rw [upd_ne (ne_of_none e n)]
    exact s.pv b u e g⟩
theorem same_seqT {xs : List V} (e : Same H H') (h : SqT K H a xs) : SqT K H' a xs := by
  rcases h with (h | ⟨o, h⟩) | h
  · exact .inl (.inl (e _ _ h))
  · exact .inl (.inr ⟨o, e _ _ h⟩)
  · exact .inr h
mutual
theorem dp_mono (e : Same H H') : ∀ {v : V} {d : D}, Dp K H v d → Dp K H' v d
  | _, _, .non => .non
  | _, _, .bl b => .bl b
  | _, _, .int i => .int i
  | _, _, .str x => .str x
  | _, _, .lst h hs => .lst (e.seq h) (dps_mono e hs)
  | _, _, .tup h hs => .tup (same_seqT e h) (dps_mono e hs)
theorem dps_mono (e : Same H H') : ∀ {vs : List V} {ds : List D}, DpAll K H vs ds → DpAll K H' vs ds
  | _, _, .nil => .nil
  | _, _, .cons h hs => .cons (dp_mono e h) (dps_mono e hs)
end
theorem dps_len : ∀ {vs : List V} {ds : List D}, DpAll K H vs ds → vs.length = ds.length
  | _, _, .nil => rfl
  | _, _, .cons _ hs => congrArg (· + 1) (dps_len hs)
theorem dps_get : ∀ {vs : List V} {ds : List D} {i : Nat} {v : V}, DpAll K H vs ds → vs[i]? = some v → ∃ d, ds[i]? = some d ∧ Dp K H v d
  | _, _, _, _, .nil, e => by simp at e
  | _, _, 0, _, .cons h _, e => by
    simp at e
    subst e
    exact ⟨_, rfl, h⟩
  | _, _, i + 1, v, .cons _ hs, e => by
    obtain ⟨d, h1, h2⟩ := dps_get (i := i) (v := v) hs (by simpa using e)
    exact ⟨d, by simpa using h1, h2⟩
theorem dps_get' : ∀ {vs : List V} {ds : List D} {i : Nat} {d : D}, DpAll K H vs ds → ds[i]? = some d → ∃ v, vs[i]? = some v ∧ Dp K H v d
  | _, _, _, _, .nil, e => by simp at e
  | _, _, 0, _, .cons h _, e => by
    simp at e
    subst e
    exact ⟨_, rfl, h⟩
  | _, _, i + 1, v, .cons _ hs, e => by
    obtain ⟨d, h1, h2⟩ := dps_get' (i := i) (d := v) hs (by simpa using e)
    exact ⟨d, by simpa using h1, h2⟩
theorem dps_app : ∀ {vs us : List V} {ds es : List D}, DpAll K H vs ds → DpAll K H us es → DpAll K H (vs ++ us) (ds ++ es)
  | _, _, _, _, .nil, h => h
  | _, _, _, _, .cons a b, h => .cons a (dps_app b h)
theorem dps_take : ∀ (n : Nat) {vs : List V} {ds : List D}, DpAll K H vs ds → DpAll K H (vs.take n) (ds.take n)
  | 0, _, _, _ => .nil
  | _ + 1, _, _, .nil => .nil
  | n + 1, _, _, .cons a b => .cons a (dps_take n b)
theorem dps_drop : ∀ (n : Nat) {vs : List V} {ds : List D}, DpAll K H vs ds → DpAll K H (vs.drop n) (ds.drop n)
  | 0, _, _, h => h
  | _ + 1, _, _, .nil => .nil
  | n + 1, _, _, .cons _ b => dps_drop n b
theorem dps_set {v : V} {d : D} (r : Dp K H v d) : ∀ (i : Nat) {vs : List V} {ds : List D}, DpAll K H vs ds → DpAll K H (vs.set i v) (ds.set i d)
  | _, _, _, .nil => .nil
  | 0, _, _, .cons _ b => .cons r b
  | i + 1, _, _, .cons a b => .cons a (dps_set r i b)
theorem dps_ints : ∀ (ns : List Int), DpAll K H (ns.map V.int) (ns.map PyData.int)
  | [] => .nil
  | _ :: r => .cons (.int _) (dps_ints r)
end

/-! ### answers -/
/-- the five refusals -/
inductive Xc where
  | noMeter | stands | notLater | noValue | noReading
  deriving DecidableEq
inductive An (α : Type) where
  | bad
  | ok (a : α)
  | exc (c : Xc)
def An.bnd {α β : Type} (a : An α) (k : α → An β) : An β := match a with
  | .bad => .bad
  | .ok x => k x
  | .exc c => .exc c
theorem bnd_ok {α β : Type} {x : α} {k : α → An β} : (An.ok x).bnd k = k x := rfl
theorem bnd_exc {α β : Type} {c : Xc} {k : α → An β} : (An.exc c).bnd k = .exc c := rfl
theorem bnd_bad {α β : Type} {k : α → An β} : (An.bad : An α).bnd k = .bad := rfl
/-- a name's value: not known; data, frozen; a list of the def's own; the exception that is handled -/
inductive Slot where
  | un
  | val (d : D)
  | own (ds : List D)
  | err
/-- the written part; where the handled exception lies -/
abbrev KX := PySem.W.Frag × Addr
abbrev Env := List Slot
inductive Out where
  | bad
  | nx (env : Env)
  | ct (env : Env)
  | ret (d : D)
  | exc (c : Xc) (env : Env)
abbrev EX := Env → An D
abbrev TX := Env → An Bool
abbrev AX := Env → An (List D)
abbrev SX := Env → Out

/-! ### the state -/
def SlotOk (k : KX) (B F H : Hp) : Slot → Option (Option V) → Addr → Prop
  | .un, _, _ => True
  | .val d, x, _ => ∃ v, x = some (some v) ∧ Dp k.1 F v d
  | .own ds, x, a => x = some (some (.ref a)) ∧ B a = none ∧ F a = none ∧ ∃ vs, H a = some (.lst vs) ∧ DpAll k.1 F vs ds
  | .err, x, _ => x = some (some (.ref k.2))
structure SR (k : KX) (BF B : Hp) (env : Env) (σ : St) (F H : Hp) : Prop where
  len : σ.length = env.length
  stp : Step BF B F H
  bse : Same BF B
  slots : ∃ ad : Nat → Addr, (∀ i s, env[i]? = some s → SlotOk k B F H s (σ[i]?) (ad i)) ∧ (∀ i j ds es, env[i]? = some (.own ds) → env[j]? = some (.own es) → ad i = ad j → i = j)
section
variable {k : KX} {BF B F H F' H' : Hp} {env : Env} {σ : St} {i : Nat} {d : D} {ds : List D} {v : V}
theorem SR.inn (s : SR k BF B env σ F H) : Same F H := s.stp.inn
theorem SR.bs (s : SR k BF B env σ F H) : Same B H := s.stp.same s.bse
theorem SR.step (s : SR k BF B env σ F H) (t : Step F H F' H') : SR k BF B env σ F' H' := by
  obtain ⟨ad, h1, h2⟩ := s.slots
  refine ⟨s.len, s.stp.trans t, s.bse, ad, fun i x e => ?_, h2⟩
  have q := h1 i x e
  cases x with
  | un => trivial
  | val d =>
    obtain ⟨v, e1, r⟩ := q
    exact ⟨v, e1, dp_mono t.fr r⟩
  | own ds =>
    obtain ⟨e1, hb, hf, vs, e2, r⟩ := q
    obtain ⟨z1, z2⟩ := t.pv _ _ e2 hf
    exact ⟨e1, hb, z1, vs, z2, dps_mono t.fr r⟩
  | err => exact q
theorem SR.val (s : SR k BF B env σ F H) (e : env[i]? = some (.val d)) : ∃ v, σ[i]? = some (some v) ∧ Dp k.1 F v d := by
  obtain ⟨ad, h1, _⟩ := s.slots
  exact h1 i _ e
theorem SR.own (s : SR k BF B env σ F H) (e : env[i]? = some (.own ds)) : ∃ a vs, σ[i]? = some (some (.ref a)) ∧ B a = none ∧ F a = none ∧ H a = some (.lst vs) ∧ DpAll k.1 F vs ds := by
  obtain ⟨ad, h1, _⟩ := s.slots
  obtain ⟨e1, hb, hf, vs, e2, r⟩ := h1 i _ e
  exact ⟨_, vs, e1, hb, hf, e2, r⟩
theorem get_set_eq {α : Type} {l : List α} {i j : Nat} {x y : α} (h : (l.set i x)[j]? = some y) : (i = j ∧ y = x ∧ i < l.length) ∨ (i ≠ j ∧ l[j]? = some y) := by
  by_cases hj : i = j
  · subst hj
    by_cases hl : i < l.length
    · rw [List.getElem?_set_self hl] at h
      exact .inl ⟨rfl, (Option.some.inj h).symm, hl⟩
    · rw [List.getElem?_eq_none (by simpa using hl)] at h
      cases h
  · rw [List.getElem?_set_ne hj] at h
    exact .inr ⟨hj, h⟩
theorem SR.set (s : SR k BF B env σ F H) (r : Dp k.1 F v d) : SR k BF B (env.set i (.val d)) (σ.set i (some v)) F H := by
  obtain ⟨ad, h1, h2⟩ := s.slots
  refine ⟨by rw [List.length_set, List.length_set]; exact s.len, s.stp, s.bse, ad, fun j x e => ?_, fun j l xs ys e1 e2 => ?_⟩
  · rcases get_set_eq e with ⟨rfl, rfl, hl⟩ | ⟨hj, e⟩
    · exact ⟨v, List.getElem?_set_self (by rw [s.len]; exact hl), r⟩
    · rw [List.getElem?_set_ne hj]
      exact h1 j x e
  · rcases get_set_eq e1 with ⟨_, z, _⟩ | ⟨_, e1⟩
    · cases z
    · rcases get_set_eq e2 with ⟨_, z, _⟩ | ⟨_, e2⟩
      · cases z
      · exact h2 j l xs ys e1 e2
theorem SR.unset (s : SR k BF B env σ F H) {x : Option V} : SR k BF B (env.set i .un) (σ.set i x) F H := by
  obtain ⟨ad, h1, h2⟩ := s.slots
  refine ⟨by rw [List.length_set, List.length_set]; exact s.len, s.stp, s.bse, ad, fun j x e => ?_, fun j l xs ys e1 e2 => ?_⟩
  · rcases get_set_eq e with ⟨rfl, rfl, hl⟩ | ⟨hj, e⟩
    · trivial
    · rw [List.getElem?_set_ne hj]
      exact h1 j x e
  · rcases get_set_eq e1 with ⟨_, z, _⟩ | ⟨_, e1⟩
    · cases z
    · rcases get_set_eq e2 with ⟨_, z, _⟩ | ⟨_, e2⟩
      · cases z
      · exact h2 j l xs ys e1 e2
/-- a new list of one's own -/
theorem SR.setOwn (s : SR k BF B env σ F H) {p : Addr} {vs : List V} (t : Step F H F' H') (n : H p = none) (f : F' p = none) (h : H' p = some (.lst vs)) (r : DpAll k.1 F' vs ds) : SR k BF B (env.set i (.own ds)) (σ.set i (some (.ref p))) F' H' := by
  have bn : B p = none := s.bs.free n
  have s' := s.step t
  obtain ⟨ad, h1, h2⟩ := s.slots
  obtain ⟨ad', h1', h2'⟩ := s'.slots
  have old : ∀ j xs, env[j]? = some (.own xs) → ad j ≠ p := fun j xs e z => by
    obtain ⟨_, _, _, ws, e2, _⟩ := h1 j _ e
    rw [z, n] at e2
    cases e2
  refine ⟨by rw [List.length_set, List.length_set]; exact s.len, s'.stp, s.bse, fun j => if j = i then p else ad j, fun j x e => ?_, fun j l xs ys e1 e2 ha => ?_⟩
  · rcases get_set_eq e with ⟨rfl, rfl, hl⟩ | ⟨hj, e⟩
    · show SlotOk k B F' H' (.own ds) _ (if i = i then p else ad i)
      rw [if_pos rfl]
      exact ⟨List.getElem?_set_self (by rw [s.len]; exact hl), bn, f, vs, h, r⟩
    · rw [List.getElem?_set_ne hj]
      show SlotOk k B F' H' x _ (if j = i then p else ad j)
      rw [if_neg (Ne.symm hj)]
      have q := h1 j x e
      cases x with
      | un => trivial
      | val d =>
        obtain ⟨v, e1, r⟩ := q
        exact ⟨v, e1, dp_mono t.fr r⟩
      | own ds =>
        obtain ⟨e1, hb, hf, vs, e2, r⟩ := q
        obtain ⟨z1, z2⟩ := t.pv _ _ e2 hf
        exact ⟨e1, hb, z1, vs, z2, dps_mono t.fr r⟩
      | err => exact q
  · have ha : (if j = i then p else ad j) = (if l = i then p else ad l) := ha
    rcases get_set_eq e1 with ⟨a1, _, _⟩ | ⟨a1, e1⟩
    · rcases get_set_eq e2 with ⟨a2, _, _⟩ | ⟨a2, e2⟩
      · exact a1.symm.trans a2
      · rw [if_pos a1.symm, if_neg (Ne.symm a2)] at ha
        exact absurd ha.symm (old l ys e2)
    · rcases get_set_eq e2 with ⟨a2, _, _⟩ | ⟨a2, e2⟩
      · rw [if_pos a2.symm, if_neg (Ne.symm a1)] at ha
        exact absurd ha (old j xs e1)
      · rw [if_neg (Ne.symm a1), if_neg (Ne.symm a2)] at ha
        exact h2 j l xs ys e1 e2 ha
/-- the own list in slot i becomes another one -/
theorem SR.mut (s : SR k BF B env σ F H) {a : Addr} {es : List D} {us : List V} (e : env[i]? = some (.own ds)) (ea : σ[i]? = some (some (.ref a))) (r : DpAll k.1 F us es) : SR k BF B (env.set i (.own es)) σ F (upd H a (.lst us)) := by
  obtain ⟨ad, h1, h2⟩ := s.slots
  obtain ⟨e1, hb, hf, vs, e2, _⟩ := h1 i _ e
  obtain rfl : a = ad i := by
    rw [e1] at ea
    exact (V.ref.inj (Option.some.inj (Option.some.inj ea))).symm
  refine ⟨by rw [List.length_set]; exact s.len, ⟨s.stp.fr, fun b o q => ?_, fun b o q n => ?_⟩, s.bse, ad, fun j x ej => ?_, fun j l xs ys e1 e2 => ?_⟩
  · rw [upd_ne (ne_of_none q hf)]
    exact s.stp.inn b o q
  · rw [upd_ne (ne_of_none q hb)]
    exact s.stp.pv b o q n
  · rcases get_set_eq ej with ⟨rfl, rfl, hl⟩ | ⟨hj, ej⟩
    · exact ⟨e1, hb, hf, us, upd_same, r⟩
    · have q := h1 j x ej
      cases x with
      | un => trivial
      | val d => exact q
      | own xs =>
        obtain ⟨z1, zb, zf, ws, z2, zr⟩ := q
        refine ⟨z1, zb, zf, ws, ?_, zr⟩
        rw [upd_ne (fun z => hj (h2 _ _ _ _ e ej z.symm))]
        exact z2
      | err => exact q
  · rcases get_set_eq e1 with ⟨a1, _, _⟩ | ⟨a1, e1⟩
    · rcases get_set_eq e2 with ⟨a2, _, _⟩ | ⟨a2, e2⟩
      · exact fun _ => a1.symm.trans a2
      · subst a1
        exact h2 _ _ _ _ e e2
    · rcases get_set_eq e2 with ⟨a2, _, _⟩ | ⟨a2, e2⟩
      · subst a2
        exact h2 _ _ _ _ e1 e
      · exact h2 j l xs ys e1 e2
/-- the own list in slot i is frozen -/
theorem SR.frz (s : SR k BF B env σ F H) (e : env[i]? = some (.own ds)) : ∃ F', Same F F' ∧ SR k BF B (env.set i (.val (.list ds))) σ F' H := by
  obtain ⟨ad, h1, h2⟩ := s.slots
  obtain ⟨e1, hb, hf, vs, e2, r⟩ := h1 i _ e
  have t : Same F (upd F (ad i) (.lst vs)) := same_new hf
  refine ⟨upd F (ad i) (.lst vs), t, by rw [List.length_set]; exact s.len, s.stp.frz hb hf e2, s.bse, ad, fun j x ej => ?_, fun j l xs ys e1 e2 => ?_⟩
  · rcases get_set_eq ej with ⟨rfl, rfl, hl⟩ | ⟨hj, ej⟩
    · exact ⟨_, e1, .lst (SqL.of upd_same) (dps_mono t r)⟩
    · have q := h1 j x ej
      cases x with
      | un => trivial
      | val d =>
        obtain ⟨v, e1, r⟩ := q
        exact ⟨v, e1, dp_mono t r⟩
      | own xs =>
        obtain ⟨z1, zb, zf, ws, z2, zr⟩ := q
        refine ⟨z1, zb, ?_, ws, z2, dps_mono t zr⟩
        rw [upd_ne (fun z => hj (h2 _ _ _ _ e ej z.symm))]
        exact zf
      | err => exact q
  · rcases get_set_eq e1 with ⟨_, z, _⟩ | ⟨_, e1⟩
    · cases z
    · rcases get_set_eq e2 with ⟨_, z, _⟩ | ⟨_, e2⟩
      · cases z
      · exact h2 j l xs ys e1 e2
theorem SR.errAt (s : SR k BF B env σ F H) (e : env[i]? = some .err) : σ[i]? = some (some (.ref k.2)) := by
  obtain ⟨ad, h1, _⟩ := s.slots
  exact h1 i _ e
theorem SR.setErr (s : SR k BF B env σ F H) : SR k BF B (env.set i .err) (σ.set i (some (.ref k.2))) F H := by
  obtain ⟨ad, h1, h2⟩ := s.slots
  refine ⟨by rw [List.length_set, List.length_set]; exact s.len, s.stp, s.bse, ad, fun j x e => ?_, fun j l xs ys e1 e2 => ?_⟩
  · rcases get_set_eq e with ⟨rfl, rfl, hl⟩ | ⟨hj, e⟩
    · exact List.getElem?_set_self (by rw [s.len]; exact hl)
    · rw [List.getElem?_set_ne hj]
      exact h1 j x e
  · rcases get_set_eq e1 with ⟨_, z, _⟩ | ⟨_, e1⟩
    · cases z
    · rcases get_set_eq e2 with ⟨_, z, _⟩ | ⟨_, e2⟩
      · cases z
      · exact h2 j l xs ys e1 e2
def Slot.plain : Slot → Bool
  | .err => false
  | _ => true
/-- no name holds an exception -/
def noErr (env : Env) : Bool := env.all Slot.plain
theorem SR.other {ea : Addr} (s : SR k BF B env σ F H) (n : noErr env = true) : SR (k.1, ea) BF B env σ F H := by
  obtain ⟨ad, h1, h2⟩ := s.slots
  refine ⟨s.len, s.stp, s.bse, ad, fun j x e => ?_, h2⟩
  have q := h1 j x e
  cases x with
  | un => trivial
  | val d => exact q
  | own ds => exact q
  | err =>
    have z := List.all_eq_true.mp n _ (List.mem_of_getElem? e)
    cases z
end

/-! ### what an expression's reading is worth -/
abbrev Wx := Xc → St → Hp → Prop
def Ret {α β : Type} (R : Hp → Hp → Hp → β → α → Prop) (W : Wx) (σ : St) (F H : Hp) (a : An α) (T : (β → Hp → Prop) → Prop) : Prop := match a with
  | .bad => True
  | .ok d => ∀ Q : β → Hp → Prop, (∀ v F' H', Step F H F' H' → R H F' H' v d → Q v H') → T Q
  | .exc c => ∀ Q : β → Hp → Prop, (∀ F' H', Step F H F' H' → W c σ H') → T Q
abbrev RD (K : PySem.W.Frag) : Hp → Hp → Hp → V → D → Prop := fun _ F' _ v d => Dp K F' v d
abbrev RA (K : PySem.W.Frag) : Hp → Hp → Hp → List V → List D → Prop := fun _ F' _ v d => DpAll K F' v d
abbrev RB : Hp → Hp → Hp → Bool → Bool → Prop := fun _ _ _ v d => v = d
/-- a new list -/
abbrev RL (K : PySem.W.Frag) : Hp → Hp → Hp → V → List D → Prop := fun H F' H' v ds => ∃ p vs, v = .ref p ∧ H p = none ∧ F' p = none ∧ H' p = some (.lst vs) ∧ DpAll K F' vs ds
/-- what has come so far goes on -/
theorem Ret.bnd {α β γ δ : Type} {R : Hp → Hp → Hp → β → α → Prop} {R' : Hp → Hp → Hp → δ → γ → Prop} {W : Wx} {σ : St} {F H : Hp} {a : An α} {T : (β → Hp → Prop) → Prop} {k : α → An γ} {T' : β → Hp → (δ → Hp → Prop) → Prop}
    (ga : Ret R W σ F H a T) (hR : ∀ H1 F2 H2 v d, Same H H1 → R' H1 F2 H2 v d → R' H F2 H2 v d) (i : Same F H)
    (hk : ∀ d v F1 H1, a = .ok d → Step F H F1 H1 → R H F1 H1 v d → Ret R' W σ F1 H1 (k d) (T' v H1)) : Ret R' W σ F H (a.bnd k) (fun Q => T fun v H1 => T' v H1 Q) := by
  cases a with
  | bad => trivial
  | exc c => exact fun Q h => ga _ h
  | ok d =>
    show Ret R' W σ F H (k d) _
    cases e : k d with
    | bad => trivial
    | exc c =>
      intro Q h
      refine ga _ fun v F1 H1 st r => ?_
      have q := hk d v F1 H1 rfl st r
      rw [e] at q
      exact q Q fun F' H' st' => h F' H' (st.trans st')
    | ok z =>
      intro Q h
      refine ga _ fun v F1 H1 st r => ?_
      have q := hk d v F1 H1 rfl st r
      rw [e] at q
      exact q Q fun v' F' H' st' r' => h v' F' H' (st.trans st') (hR H1 F' H' v' z (st.same i) r')
theorem RL.back {K : PySem.W.Frag} {H : Hp} : ∀ H1 F2 H2 v d, Same H H1 → RL K H1 F2 H2 v d → RL K H F2 H2 v d := fun H1 F2 H2 v d s ⟨p, vs, a, b, c⟩ => ⟨p, vs, a, s.free b, c⟩

/-! ### judgements -/
def kx (X : Cx) : KX := (X.K, match X.pn with | p :: _ => p.1 | [] => 0)
def SE (X : Cx) (W : Wx) (e : Expr) (f : EX) : Prop := ∃ t : TE, PE X e t ∧ ∀ BF B env σ F H, SR (kx X) BF B env σ F H → Ret (RD X.K) W σ F H (f env) (t σ H)
def SL (X : Cx) (W : Wx) (e : Expr) (f : AX) : Prop := ∃ t : TE, PE X e t ∧ ∀ BF B env σ F H, SR (kx X) BF B env σ F H → Ret (RL X.K) W σ F H (f env) (t σ H)
def SA (X : Cx) (W : Wx) (es : List Expr) (f : AX) : Prop := ∃ t : TA, PA X es t ∧ ∀ BF B env σ F H, SR (kx X) BF B env σ F H → Ret (RA X.K) W σ F H (f env) (t σ H)
def ST (X : Cx) (W : Wx) (e : Expr) (f : TX) : Prop := ∃ t : TT, PT X e t ∧ ∀ BF B env σ F H, SR (kx X) BF B env σ F H → Ret RB W σ F H (f env) (t σ H)
/-- what is wanted behind a statement -/
def Post (k : KX) (W : Wx) (BF B : Hp) (E : Ends) (F0 : Hp) : Out → Prop
  | .bad => False
  | .nx env => ∀ σ F H, Same F0 F → SR k BF B env σ F H → E.nx σ H
  | .ct env => ∀ σ F H, Same F0 F → SR k BF B env σ F H → E.ct σ H
  | .ret d => ∀ v F H, Step BF B F H → Dp k.1 F v d → E.rt v H
  | .exc c env => ∀ σ F H, Same F0 F → SR k BF B env σ F H → W c σ H
def SS (X : Cx) (W : Wx) (st : Stmt) (s : SX) : Prop := ∃ t : TS, PS X st t ∧ ∀ BF B env σ F H E, SR (kx X) BF B env σ F H → Post (kx X) W BF B E F (s env) → t E σ H
def SSs (X : Cx) (W : Wx) (st : List Stmt) (s : SX) : Prop := ∃ t : TS, PSs X st t ∧ ∀ BF B env σ F H E, SR (kx X) BF B env σ F H → Post (kx X) W BF B E F (s env) → t E σ H
end Mg
namespace Mg
open PySem PySem.Spec PyProof.Rows L2
/-! ### denotations of expressions -/
def xVar (i : Nat) : EX := fun env => match env[i]? with
  | some (.val d) => .ok d
  | _ => .bad
def xC (d : D) : EX := fun _ => .ok d
def xOp (o : D → D → An D) (f g : EX) : EX := fun env => (f env).bnd fun a => (g env).bnd fun b => o a b
def xUn (o : D → An D) (f : EX) : EX := fun env => (f env).bnd o
def xApp (o : List D → An D) (f : AX) : EX := fun env => (f env).bnd o
def xAppL (o : List D → An (List D)) (f : AX) : AX := fun env => (f env).bnd o
def xTup (f : AX) : EX := fun env => (f env).bnd fun ds => .ok (.tuple ds)
/-- a fresh list as a value -/
def xL (f : AX) : EX := fun env => (f env).bnd fun ds => .ok (.list ds)
def aNil : AX := fun _ => .ok []
def aCons (f : EX) (g : AX) : AX := fun env => (f env).bnd fun d => (g env).bnd fun ds => .ok (d :: ds)
def oBool : D → An Bool
  | .bool b => .ok b
  | _ => .bad
def tOf (f : EX) : TX := fun env => (f env).bnd oBool
def tAndX (f g : TX) : TX := fun env => (f env).bnd fun b => if b = true then g env else .ok false
def tOrX (f g : TX) : TX := fun env => (f env).bnd fun b => if b = true then .ok true else g env
def tNotX (f : TX) : TX := fun env => (f env).bnd fun b => .ok (!b)
def xAnd (f g : EX) : EX := fun env => (f env).bnd fun d => (oBool d).bnd fun b => if b = true then g env else .ok (.bool false)
def xOr (f g : EX) : EX := fun env => (f env).bnd fun d => (oBool d).bnd fun b => if b = true then .ok (.bool true) else g env
def xNot (f : EX) : EX := fun env => (f env).bnd fun d => (oBool d).bnd fun b => .ok (.bool (!b))

/-! ### operators upon data -/
def oI2 (g : Int → Int → An D) : D → D → An D
  | .int i, .int j => g i j
  | _, _ => .bad
def oSub : D → D → An D := oI2 fun i j => .ok (.int (i - j))
def oMul : D → D → An D := oI2 fun i j => if (-(2 ^ 64) < i ∧ i < 2 ^ 64) ∨ (-(2 ^ 64) < j ∧ j < 2 ^ 64) then .ok (.int (i * j)) else .bad
def oFdiv : D → D → An D := oI2 fun i j => if 0 < j ∧ j < 1073741824 then .ok (.int (i / j)) else .bad
def oMod : D → D → An D := oI2 fun i j => if 0 < j then .ok (.int (i % j)) else .bad
def oPow : D → D → An D := oI2 fun i j => if (0 ≤ j ∧ j ≤ 1000) ∧ (-(2 ^ 64) < i ∧ i < 2 ^ 64) then .ok (.int (i ^ j.toNat)) else .bad
def oLt : D → D → An D := oI2 fun i j => .ok (.bool (decide (i < j)))
def oLe : D → D → An D := oI2 fun i j => .ok (.bool (decide (i ≤ j)))
def oGt : D → D → An D := oI2 fun i j => .ok (.bool (decide (j < i)))
def oGe : D → D → An D := oI2 fun i j => .ok (.bool (decide (j ≤ i)))
/-- ==, of two scalars of one kind -/
def sEq : D → D → Option Bool
  | .int i, .int j => some (decide (i = j))
  | .str x, .str y => some (decide (x = y))
  | .bool x, .bool y => some (decide (x = y))
  | .none, .none => some true
  | _, _ => Option.none
def oEqS (a b : D) : An D := match sEq a b with
  | some r => .ok (.bool r)
  | none => .bad
def oEq (a b : D) : An D := match sEq a b with
  | some r => .ok (.bool r)
  | none => if (SeqAt.shaped a && SeqAt.shaped b) = true then .ok (.bool (PyData.eqv a b)) else .bad
def oNe (a b : D) : An D := match sEq a b with
  | some r => .ok (.bool (!r))
  | none => if (SeqAt.shaped a && SeqAt.shaped b) = true then .ok (.bool (!PyData.eqv a b)) else .bad
def isNone : D → Bool
  | .none => true
  | _ => false
def oIsN (a b : D) : An D := if isNone b = true then .ok (.bool (isNone a)) else .bad
def oIsnN (a b : D) : An D := if isNone b = true then .ok (.bool (!isNone a)) else .bad
/-- ints, tuples -/
def oAdd : D → D → An D
  | .int i, .int j => .ok (.int (i + j))
  | .tuple a, .tuple b => if a.length + b.length ≤ 100000 then .ok (.tuple (a ++ b)) else .bad
  | _, _ => .bad
def oIdx : D → D → An D
  | .list a, .int i => (match atI a i with | some d => .ok d | none => .bad)
  | .tuple a, .int i => (match atI a i with | some d => .ok d | none => .bad)
  | _, _ => .bad
def oNeg : D → An D
  | .int i => .ok (.int (-i))
  | _ => .bad
def cutD (xs : List D) (lo hi : Option Int) : List D := (xs.drop (HT.sIx xs.length 0 lo)).take (HT.sIx xs.length xs.length hi - HT.sIx xs.length 0 lo)
def oSl (a : D) (lo hi : Option Int) : An D := match a with
  | .list xs => .ok (.list (cutD xs lo hi))
  | .tuple xs => .ok (.tuple (cutD xs lo hi))
  | _ => .bad
def oInt : D → An (Option Int)
  | .int i => .ok (some i)
  | _ => .bad
abbrev OX := Env → An (Option Int)
def pNo : OX := fun _ => .ok none
def pAt (f : EX) : OX := fun env => (f env).bnd oInt
def xSl (f : EX) (lo hi : OX) : EX := fun env => (f env).bnd fun a => (lo env).bnd fun l => (hi env).bnd fun u => oSl a l u
def oLen : List D → An D
  | [.list a] => .ok (.int a.length)
  | [.tuple a] => .ok (.int a.length)
  | _ => .bad
def oList : List D → An (List D)
  | [.list a] => .ok a
  | [.tuple a] => .ok a
  | _ => .bad
def oTuple : List D → An D
  | [.list a] => .ok (.tuple a)
  | [.tuple a] => .ok (.tuple a)
  | _ => .bad
def oMin : List D → An D
  | [.int i, .int j] => .ok (.int (if j < i then j else i))
  | _ => .bad
def oMax : List D → An D
  | [.int i, .int j] => .ok (.int (if j > i then j else i))
  | _ => .bad
def oIntOf : List D → An D
  | [.int i] => .ok (.int i)
  | [.bool b] => .ok (.int (if b then 1 else 0))
  | _ => .bad
def tyD : D → String
  | .none => "NoneType"
  | .bool _ => "bool"
  | .int _ => "int"
  | .str _ => "str"
  | .list _ => "list"
  | .tuple _ => "tuple"
  | .dict _ => "dict"
/-- isinstance(x, T), T a built-in type -/
def oIsA (T : String) (d : D) : An D := match kitB (tyD d) T with
  | some b => .ok (.bool b)
  | none => .bad

/-! ### the rules by values -/
section
variable {K : PySem.W.Frag} {W : Wx} {σ : St} {F H : Hp}
theorem ret_of {α β : Type} {R : Hp → Hp → Hp → β → α → Prop} {d : α} {v : β} {T : (β → Hp → Prop) → Prop} (i : Same F H) (h : ∀ Q : β → Hp → Prop, Q v H → T Q) (r : R H F H v d) : Ret R W σ F H (.ok d) T :=
  fun Q q => h Q (q v F H (Step.refl i) r)
/-- a new object at p -/
theorem ret_new {d : D} {o : HO} {T : (V → Hp → Prop) → Prop} (i : Same F H) (h : ∀ Q : VK, (∀ p, H p = none → Q (.ref p) (upd H p o)) → T Q) (r : ∀ p F', Same F F' → F' p = some o → Dp K F' (.ref p) d) : Ret (RD K) W σ F H (.ok d) T :=
  fun Q q => h Q fun p hp => q _ (upd F p o) _ (Step.new i hp) (r p _ (same_new (i.free hp)) upd_same)
theorem ret_newL {ds : List D} {vs : List V} {T : (V → Hp → Prop) → Prop} (i : Same F H) (h : ∀ Q : VK, (∀ p, H p = none → Q (.ref p) (upd H p (.lst vs))) → T Q) (r : DpAll K F vs ds) : Ret (RL K) W σ F H (.ok ds) T :=
  fun Q q => h Q fun p hp => q _ F _ (Step.priv i hp) ⟨p, vs, rfl, hp, i.free hp, upd_same, r⟩
def OG (K : PySem.W.Frag) (W : Wx) (r : R2) (o : D → D → An D) : Prop := ∀ F H σ x y a b, Same F H → Dp K F x a → Dp K F y b → Ret (RD K) W σ F H (o a b) (r x y H)
def UG (K : PySem.W.Frag) (W : Wx) (r : V → Hp → VK → Prop) (o : D → An D) : Prop := ∀ F H σ x a, Same F H → Dp K F x a → Ret (RD K) W σ F H (o a) (r x H)
def CG (K : PySem.W.Frag) (W : Wx) (r : List V → Hp → VK → Prop) (o : List D → An D) : Prop := ∀ F H σ vs ds, Same F H → DpAll K F vs ds → Ret (RD K) W σ F H (o ds) (r vs H)
def CGL (K : PySem.W.Frag) (W : Wx) (r : List V → Hp → VK → Prop) (o : List D → An (List D)) : Prop := ∀ F H σ vs ds, Same F H → DpAll K F vs ds → Ret (RL K) W σ F H (o ds) (r vs H)
theorem og_i {C : Int → Int → Prop} {g : Int → Int → V} {g' : Int → Int → An D} (h : ∀ i j, g' i j = .bad ∨ (C i j ∧ ∃ d, g' i j = .ok d ∧ Dp K F (g i j) d)) {x y : V} {a b : D} (i : Same F H) (ra : Dp K F x a) (rb : Dp K F y b) : Ret (RD K) W σ F H (oI2 g' a b) (rI C g x y H) := by
  unfold oI2
  split
  · cases ra
    cases rb
    rename_i m n
    rcases h m n with e | ⟨c, d, e, r⟩
    · rw [e]
      trivial
    · rw [e]
      exact ret_of i (fun Q q => ⟨m, n, rfl, rfl, c, q⟩) r
  · trivial
theorem og_i0 {g : Int → Int → V} {g' : Int → Int → D} (h : ∀ F i j, Dp K F (g i j) (g' i j)) : OG K W (rI0 g) (oI2 fun i j => .ok (g' i j)) := by
  intro F H σ x y a b i ra rb
  unfold oI2
  split
  · cases ra
    cases rb
    rename_i m n
    exact ret_of i (fun Q q => ⟨m, n, rfl, rfl, q⟩) (h F m n)
  · trivial
theorem og_sub : OG K W (rI0 fun i j => .int (i - j)) oSub := og_i0 fun _ _ _ => .int _
theorem og_lt : OG K W (rI0 fun i j => .bl (decide (i < j))) oLt := og_i0 fun _ _ _ => .bl _
theorem og_le : OG K W (rI0 fun i j => .bl (decide (i ≤ j))) oLe := og_i0 fun _ _ _ => .bl _
theorem og_gt : OG K W (rI0 fun i j => .bl (decide (j < i))) oGt := og_i0 fun _ _ _ => .bl _
theorem og_ge : OG K W (rI0 fun i j => .bl (decide (j ≤ i))) oGe := og_i0 fun _ _ _ => .bl _
theorem og_mod : OG K W (rI (fun _ j => 0 < j) fun i j => .int (i % j)) oMod := by
  intro F H σ x y a b i ra rb
  refine og_i (fun m n => ?_) i ra rb
  by_cases h : 0 < n
  · exact .inr ⟨h, _, if_pos h, .int _⟩
  · exact .inl (if_neg h)
theorem og_fdiv : OG K W (rI CDiv fun i j => .int (i / j)) oFdiv := by
  intro F H σ x y a b i ra rb
  refine og_i (fun m n => ?_) i ra rb
  by_cases h : 0 < n ∧ n < 1073741824
  · exact .inr ⟨h, _, if_pos h, .int _⟩
  · exact .inl (if_neg h)
theorem og_mul : OG K W (rI CMul fun i j => .int (i * j)) oMul := by
  intro F H σ x y a b i ra rb
  refine og_i (fun m n => ?_) i ra rb
  by_cases h : (-(2 ^ 64) < m ∧ m < 2 ^ 64) ∨ (-(2 ^ 64) < n ∧ n < 2 ^ 64)
  · exact .inr ⟨h, _, if_pos h, .int _⟩
  · exact .inl (if_neg h)
theorem og_pow : OG K W (rI CPow fun i j => .int (i ^ j.toNat)) oPow := by
  intro F H σ x y a b i ra rb
  refine og_i (fun m n => ?_) i ra rb
  by_cases h : (0 ≤ n ∧ n ≤ 1000) ∧ (-(2 ^ 64) < m ∧ m < 2 ^ 64)
  · refine .inr ⟨⟨h.1.1, Int.le_trans h.1.2 (by decide), ?_⟩, _, if_pos h, .int _⟩
    have := h.2
    omega
  · exact .inl (if_neg h)
theorem sEq_of {x y : V} {a b : D} {r : Bool} (ra : Dp K F x a) (rb : Dp K F y b) (h : sEq a b = some r) : scal x y = true ∧ decide (x = y) = r := by
  unfold sEq at h
  split at h
  · cases ra
    cases rb
    cases h
    refine ⟨rfl, ?_⟩
    simp
  · cases ra
    cases rb
    cases h
    refine ⟨rfl, ?_⟩
    simp
  · cases ra
    cases rb
    cases h
    refine ⟨rfl, ?_⟩
    simp
  · cases ra
    cases rb
    cases h
    exact ⟨rfl, rfl⟩
  · cases h
theorem og_eqS : OG K W rEq oEqS := by
  intro F H σ x y a b i ra rb
  unfold oEqS
  split
  · rename_i r e
    obtain ⟨h1, h2⟩ := sEq_of ra rb e
    exact ret_of i (fun Q q => ⟨h1, by rw [h2]; exact q⟩) (.bl _)
  · trivial
theorem og_eq : OG K W (fun x y H Q => rEq x y H Q ∨ rEqD K x y H Q) oEq := by
  intro F H σ x y a b i ra rb
  unfold oEq
  split
  · rename_i r e
    obtain ⟨h1, h2⟩ := sEq_of ra rb e
    exact ret_of i (fun Q q => .inl ⟨h1, by rw [h2]; exact q⟩) (.bl _)
  · split
    · rename_i h
      obtain ⟨h1, h2⟩ := Bool.and_eq_true_iff.mp h
      exact ret_of i (fun Q q => .inr ⟨a, b, dp_mono i ra, dp_mono i rb, h1, h2, q⟩) (.bl _)
    · trivial
theorem og_ne : OG K W (fun x y H Q => rNe x y H Q ∨ rNeD K x y H Q) oNe := by
  intro F H σ x y a b i ra rb
  unfold oNe
  split
  · rename_i r e
    obtain ⟨h1, h2⟩ := sEq_of ra rb e
    exact ret_of i (fun Q q => .inl ⟨h1, by rw [h2]; exact q⟩) (.bl _)
  · split
    · rename_i h
      obtain ⟨h1, h2⟩ := Bool.and_eq_true_iff.mp h
      exact ret_of i (fun Q q => .inr ⟨a, b, dp_mono i ra, dp_mono i rb, h1, h2, q⟩) (.bl _)
    · trivial
theorem isNone_of {v : V} {d : D} (r : Dp K F v d) : isNone d = decide (v = .non) := by
  cases r <;> rfl
theorem og_isN : OG K W (fun x y H Q => y = .non ∧ Q (.bl (decide (x = .non))) H) oIsN := by
  intro F H σ x y a b i ra rb
  unfold oIsN
  split
  · rename_i h
    rw [isNone_of rb] at h
    rw [isNone_of ra]
    exact ret_of i (fun Q q => ⟨of_decide_eq_true h, q⟩) (.bl _)
  · trivial
theorem og_isnN : OG K W (fun x y H Q => y = .non ∧ Q (.bl (!decide (x = .non))) H) oIsnN := by
  intro F H σ x y a b i ra rb
  unfold oIsnN
  split
  · rename_i h
    rw [isNone_of rb] at h
    rw [isNone_of ra]
    exact ret_of i (fun Q q => ⟨of_decide_eq_true h, q⟩) (.bl _)
  · trivial
theorem og_add : OG K W (fun x y H Q => rI0 (fun i j => .int (i + j)) x y H Q ∨ rCatA K x y H Q) oAdd := by
  intro F H σ x y a b i ra rb
  unfold oAdd
  split
  · cases ra
    cases rb
    exact ret_of i (fun Q q => .inl ⟨_, _, rfl, rfl, q⟩) (.int _)
  · split
    · rename_i hz
      cases ra with
      | @tup a1 vs _ ha hs =>
        cases rb with
        | @tup b1 us _ hb ht =>
          have l1 := dps_len hs
          have l2 := dps_len ht
          have hl : vs.length + us.length ≤ sizeLine := Nat.le_trans (by omega : vs.length + us.length ≤ 100000) (by decide)
          intro Q q
          refine .inr ⟨a1, b1, vs, us, rfl, rfl, same_seqT i ha, same_seqT i hb, hl, fun e => ?_, fun e e2 => ?_, fun _ _ p hp => ?_⟩
          · subst e
            cases hs
            exact q _ F H (Step.refl i) (.tup hb ht)
          · subst e2
            cases ht
            refine q _ F H (Step.refl i) ?_
            rw [List.append_nil]
            exact .tup ha hs
          · have s1 : Same F (upd F p (.tup (vs ++ us))) := same_new (i.free hp)
            exact q _ (upd F p (.tup (vs ++ us))) _ (Step.new i hp) (.tup (SqT.of upd_same) (dps_app (dps_mono s1 hs) (dps_mono s1 ht)))
    · trivial
  · trivial
theorem atI_dps {vs : List V} {ds : List D} {i : Int} {d : D} (r : DpAll K F vs ds) (e : atI ds i = some d) : ∃ v, atI vs i = some v ∧ Dp K F v d := by
  unfold atI at e ⊢
  rw [dps_len r]
  cases q : ixN ds.length i with
  | none =>
    rw [q] at e
    cases e
  | some j =>
    rw [q] at e
    exact dps_get' (i := j) r e
theorem og_idx : OG K W (fun x y H Q => rIxL K x y H Q ∨ rIxT K x y H Q) oIdx := by
  intro F H σ x y a b i ra rb
  unfold oIdx
  split
  · rename_i xs j
    cases e : atI xs j with
    | none => trivial
    | some d =>
      cases ra with
      | lst ha hs =>
        cases rb
        obtain ⟨v, e2, r⟩ := atI_dps hs e
        exact ret_of i (fun Q q => .inl ⟨_, _, j, v, rfl, rfl, i.seq ha, e2, q⟩) r
  · rename_i xs j
    cases e : atI xs j with
    | none => trivial
    | some d =>
      cases ra with
      | tup ha hs =>
        cases rb
        obtain ⟨v, e2, r⟩ := atI_dps hs e
        exact ret_of i (fun Q q => .inr ⟨_, _, j, v, rfl, rfl, same_seqT i ha, e2, q⟩) r
  · trivial
theorem ug_neg : UG K W (rU fun i => .int (-i)) oNeg := by
  intro F H σ x a i ra
  unfold oNeg
  split
  · cases ra
    exact ret_of i (fun Q q => ⟨_, rfl, q⟩) (.int _)
  · trivial
theorem dps_cut {vs : List V} {ds : List D} (r : DpAll K F vs ds) (lo hi : Option Int) : DpAll K F (cutV vs lo hi) (cutD ds lo hi) := by
  unfold cutV cutD
  rw [dps_len r]
  exact dps_take _ (dps_drop _ r)
theorem cut_whole (xs : List D) (lo hi : Option Int) (h1 : HT.sIx xs.length 0 lo = 0) (h2 : HT.sIx xs.length xs.length hi = xs.length) : cutD xs lo hi = xs := by
  unfold cutD
  rw [h1, h2]
  simp
theorem sl_ret {x : V} {a : D} (lo hi : Option Int) (i : Same F H) (ra : Dp K F x a) : Ret (RD K) W σ F H (oSl a lo hi) ((fun x lo hi H Q => rSlL K x lo hi H Q ∨ rSlA K x lo hi H Q) x lo hi H) := by
  unfold oSl
  split
  · cases ra with
    | lst ha hs => exact ret_new i (fun Q q => .inl ⟨_, _, rfl, i.seq ha, q⟩) fun p F' s h => .lst (SqL.of h) (dps_mono s (dps_cut hs lo hi))
  · rename_i zs
    cases ra with
    | @tup a1 vs _ ha hs =>
      have hl := dps_len hs
      intro Q q
      refine .inr ⟨a1, vs, rfl, same_seqT i ha, fun e => ?_, fun _ p hp => ?_⟩
      · rw [hl] at e
        rw [cut_whole zs lo hi e.1 e.2] at q
        exact q _ F H (Step.refl i) (.tup ha hs)
      · have s1 : Same F (upd F p (.tup (cutV vs lo hi))) := same_new (i.free hp)
        exact q _ (upd F p (.tup (cutV vs lo hi))) _ (Step.new i hp) (.tup (SqT.of upd_same) (dps_mono s1 (dps_cut hs lo hi)))
  · trivial
theorem cg_len : CG K W (fun xs H Q => ∃ p ys, xs = [.ref p] ∧ (SqL K H p ys ∨ SqT K H p ys) ∧ Q (.int ys.length) H) oLen := by
  intro F H σ vs ds i r
  unfold oLen
  split
  · rename_i a
    cases r with
    | cons r1 r2 =>
      cases r2
      cases r1 with
      | lst ha hs => exact ret_of i (fun Q q => ⟨_, _, rfl, .inl (i.seq ha), by rw [dps_len hs]; exact q⟩) (.int _)
  · rename_i a
    cases r with
    | cons r1 r2 =>
      cases r2
      cases r1 with
      | tup ha hs => exact ret_of i (fun Q q => ⟨_, _, rfl, .inr (same_seqT i ha), by rw [dps_len hs]; exact q⟩) (.int _)
  · trivial
theorem cg_list : CGL K W (fun xs H Q => ∃ p ys, xs = [.ref p] ∧ (SqL K H p ys ∨ SqT K H p ys) ∧ ∀ l, H l = none → Q (.ref l) (upd H l (.lst ys))) oList := by
  intro F H σ vs ds i r
  unfold oList
  split
  · cases r with
    | cons r1 r2 =>
      cases r2
      cases r1 with
      | lst ha hs => exact ret_newL i (fun Q q => ⟨_, _, rfl, .inl (i.seq ha), q⟩) hs
  · cases r with
    | cons r1 r2 =>
      cases r2
      cases r1 with
      | tup ha hs => exact ret_newL i (fun Q q => ⟨_, _, rfl, .inr (same_seqT i ha), q⟩) hs
  · trivial
theorem cg_tuple : CG K W (fun xs H Q => ∃ p ys, xs = [.ref p] ∧ ((SqL K H p ys ∧ ∀ l, H l = none → Q (.ref l) (upd H l (.tup ys))) ∨ (SqT K H p ys ∧ Q (.ref p) H))) oTuple := by
  intro F H σ vs ds i r
  unfold oTuple
  split
  · cases r with
    | cons r1 r2 =>
      cases r2
      cases r1 with
      | lst ha hs => exact ret_new i (fun Q q => ⟨_, _, rfl, .inl ⟨i.seq ha, q⟩⟩) fun p F' s h => .tup (SqT.of h) (dps_mono s hs)
  · cases r with
    | cons r1 r2 =>
      cases r2
      cases r1 with
      | tup ha hs => exact ret_of i (fun Q q => ⟨_, _, rfl, .inr ⟨same_seqT i ha, q⟩⟩) (.tup ha hs)
  · trivial
theorem cg_min : CG K W (fun xs H Q => ∃ i j, xs = [.int i, .int j] ∧ Q (.int (if j < i then j else i)) H) oMin := by
  intro F H σ vs ds i r
  unfold oMin
  split
  · cases r with
    | cons r1 r2 =>
      cases r2 with
      | cons r2 r3 =>
        cases r3
        cases r1
        cases r2
        exact ret_of i (fun Q q => ⟨_, _, rfl, q⟩) (.int _)
  · trivial
theorem cg_max : CG K W (fun xs H Q => ∃ i j, xs = [.int i, .int j] ∧ Q (.int (if j > i then j else i)) H) oMax := by
  intro F H σ vs ds i r
  unfold oMax
  split
  · cases r with
    | cons r1 r2 =>
      cases r2 with
      | cons r2 r3 =>
        cases r3
        cases r1
        cases r2
        exact ret_of i (fun Q q => ⟨_, _, rfl, q⟩) (.int _)
  · trivial
theorem cg_int : CG K W (fun xs H Q => (∃ i, xs = [.int i] ∧ Q (.int i) H) ∨ ∃ k, xs = [.bl k] ∧ Q (.int (if k then 1 else 0)) H) oIntOf := by
  intro F H σ vs ds i r
  unfold oIntOf
  split
  · cases r with
    | cons r1 r2 =>
      cases r2
      cases r1
      exact ret_of i (fun Q q => .inl ⟨_, rfl, q⟩) (.int _)
  · cases r with
    | cons r1 r2 =>
      cases r2
      cases r1
      exact ret_of i (fun Q q => .inr ⟨_, rfl, q⟩) (.int _)
  · trivial
theorem ty_of {v : V} {d : D} (r : Dp K H v d) : TyX K H v (.type (tyD d)) := by
  cases r with
  | non => exact .base .non
  | bl b => exact .base (.bl b)
  | int i => exact .base (.int i)
  | str x => exact .base (.str x)
  | lst h hs =>
    rcases h with (h | ⟨o, h⟩) | ⟨o, its, n, hk, hc, _⟩
    · exact .base (.lst h)
    · exact .base (.frz h)
    · exact .kList hk hc
  | tup h hs =>
    rcases h with (h | ⟨o, h⟩) | ⟨o, its, n, hk, hc, _⟩
    · exact .base (.tup h)
    · exact .fTuple h
    · exact .kTuple hk hc
end

/-! ### the constructs -/
section
variable {X : Cx} {W : Wx} {a b e : Expr} {es rest : List Expr} {f g : EX} {fs : AX} {pos : Pos}
theorem se_var (i : Nat) {x : Str} {pos : Pos} (hN : X.N[i]? = some x := by rfl) (hv : Vis X.env.scope x := by first | exact Or.inl rfl | exact Or.inr (Or.inl rfl) | exact Or.inr (Or.inr rfl)) (hd : (x == ("__debug__" : Str)) = false := by decide)
    (hcd : (x == ("__classdict__" : Str)) = false := by decide) : SE X W (.Name x pos) (xVar i) := by
  refine ⟨_, pe_var hN hv hd hcd, fun BF B env σ F H sr => ?_⟩
  unfold xVar
  split
  · rename_i d e
    obtain ⟨v, e1, r⟩ := sr.val e
    exact ret_of sr.inn (fun Q q => ⟨v, e1, q⟩) r
  · trivial
theorem se_int {i j pos} : SE X W (.Constant (.int i) j pos) (xC (.int i)) := ⟨_, pe_int, fun _ _ _ _ _ _ sr => ret_of sr.inn (fun _ q => q) (.int i)⟩
theorem se_bool {i j pos} : SE X W (.Constant (.bool i) j pos) (xC (.bool i)) := ⟨_, pe_bl, fun _ _ _ _ _ _ sr => ret_of sr.inn (fun _ q => q) (.bl i)⟩
theorem se_none {j pos} : SE X W (.Constant .none j pos) (xC .none) := ⟨_, pe_non, fun _ _ _ _ _ _ sr => ret_of sr.inn (fun _ q => q) .non⟩
theorem se_str {i j pos} : SE X W (.Constant (.str i) j pos) (xC (.str i)) := ⟨_, pe_str, fun _ _ _ _ _ _ sr => ret_of sr.inn (fun _ q => q) (.str i)⟩
theorem op_ret {r : R2} {o : D → D → An D} {ta tb : TE} (gr : OG X.K W r o) {BF B : Hp} {env : Env} {σ : St} {F H : Hp} (sr : SR (kx X) BF B env σ F H)
    (ga : ∀ BF B env σ F H, SR (kx X) BF B env σ F H → Ret (RD X.K) W σ F H (f env) (ta σ H)) (gb : ∀ BF B env σ F H, SR (kx X) BF B env σ F H → Ret (RD X.K) W σ F H (g env) (tb σ H)) : Ret (RD X.K) W σ F H (xOp o f g env) (tOp r ta tb σ H) :=
  Ret.bnd (R := RD X.K) (R' := RD X.K) (ga _ _ _ _ _ _ sr) (fun _ _ _ _ _ _ h => h) sr.inn (T' := fun x H1 Q => tb σ H1 fun y H2 => r x y H2 Q) fun d v F1 H1 _ st ra =>
    Ret.bnd (R := RD X.K) (R' := RD X.K) (gb _ _ _ _ _ _ (sr.step st)) (fun _ _ _ _ _ _ h => h) st.inn (T' := fun y H2 Q => r v y H2 Q) fun d2 v2 F2 H2 _ st2 rb => gr F2 H2 σ v v2 d d2 st2.inn (dp_mono st2.fr ra) rb
theorem se_op {op : Operator} {r : R2} {o : D → D → An D} (ho : OpR X (binaryOp op) r) (gr : OG X.K W r o) (ha : SE X W a f) (hb : SE X W b g) : SE X W (.BinOp a op b pos) (xOp o f g) := by
  obtain ⟨ta, pa, ga⟩ := ha
  obtain ⟨tb, pb, gb⟩ := hb
  exact ⟨_, pe_op ho pa pb, fun BF B env σ F H sr => op_ret gr sr ga gb⟩
theorem se_add (ha : SE X W a f) (hb : SE X W b g) : SE X W (.BinOp a .Add b pos) (xOp oAdd f g) := se_op (op_add.or op_catA) og_add ha hb
theorem se_sub (ha : SE X W a f) (hb : SE X W b g) : SE X W (.BinOp a .Sub b pos) (xOp oSub f g) := se_op op_sub og_sub ha hb
theorem se_mul (ha : SE X W a f) (hb : SE X W b g) : SE X W (.BinOp a .Mult b pos) (xOp oMul f g) := se_op op_mul og_mul ha hb
theorem se_mod (ha : SE X W a f) (hb : SE X W b g) : SE X W (.BinOp a .Mod b pos) (xOp oMod f g) := se_op op_mod og_mod ha hb
theorem se_fdiv (ha : SE X W a f) (hb : SE X W b g) : SE X W (.BinOp a .FloorDiv b pos) (xOp oFdiv f g) := se_op op_fdiv og_fdiv ha hb
theorem se_pow (ha : SE X W a f) (hb : SE X W b g) : SE X W (.BinOp a .Pow b pos) (xOp oPow f g) := se_op op_pow og_pow ha hb
theorem se_neg (ha : SE X W a f) : SE X W (.UnaryOp .USub a pos) (xUn oNeg f) := by
  obtain ⟨ta, pa, ga⟩ := ha
  exact ⟨_, pe_un un_neg pa, fun BF B env σ F H sr => Ret.bnd (R := RD X.K) (R' := RD X.K) (ga _ _ _ _ _ _ sr) (fun _ _ _ _ _ _ h => h) sr.inn (T' := fun x H1 Q => rU (fun i => V.int (-i)) x H1 Q) fun d v F1 H1 _ st r => ug_neg F1 H1 σ v d st.inn r⟩
/-- a comparison, as a value and as a test -/
theorem se_cmp {op : CmpOp} {r : R2} {o : D → D → An D} (ho : OpR X (compareOp op) r) (gr : OG X.K W r o) (ha : SE X W a f) (hb : SE X W b g) (hm : behindInMarks op b = false) : SE X W (.Compare a [op] [b] pos) (xOp o f g) := by
  obtain ⟨ta, pa, ga⟩ := ha
  obtain ⟨tb, pb, gb⟩ := hb
  exact ⟨_, pe_cmpR ho pa pb hm, fun BF B env σ F H sr => op_ret gr sr ga gb⟩
theorem test_ret {te : TE} {BF B : Hp} {env : Env} {σ : St} {F H : Hp} (sr : SR (kx X) BF B env σ F H) (ga : Ret (RD X.K) W σ F H (f env) (te σ H)) : Ret RB W σ F H (tOf f env) (tTest te σ H) :=
  Ret.bnd ga (fun _ _ _ _ _ _ h => h) sr.inn (T' := fun x H' Q => ∃ k, x = .bl k ∧ Q k H') fun d v F1 H1 _ st r => by
    unfold oBool
    split
    · cases r
      exact ret_of st.inn (fun Q q => ⟨_, rfl, q⟩) rfl
    · trivial
theorem st_cmp {op : CmpOp} {r : R2} {o : D → D → An D} (ho : OpR X (compareOp op) r) (gr : OG X.K W r o) (ha : SE X W a f) (hb : SE X W b g) (hm : behindInMarks op b = false) : ST X W (.Compare a [op] [b] pos) (tOf (xOp o f g)) := by
  obtain ⟨ta, pa, ga⟩ := ha
  obtain ⟨tb, pb, gb⟩ := hb
  exact ⟨_, pt_cmpR ho pa pb hm, fun BF B env σ F H sr => test_ret sr (op_ret gr sr ga gb)⟩
theorem st_val (ha : SE X W e f) (he : ∀ whole, isTrue e X.env whole = (do let v ← whole; standAt e.pos; holding [v] (truthy v)) := by intro _; rfl) : ST X W e (tOf f) := by
  obtain ⟨ta, pa, ga⟩ := ha
  exact ⟨_, pt_val pa he, fun BF B env σ F H sr => test_ret sr (ga _ _ _ _ _ _ sr)⟩
def SW (X : Cx) (W : Wx) (e : Expr) (f : TX) : Prop := ∃ t : TT, PW X e t ∧ ∀ BF B env σ F H, SR (kx X) BF B env σ F H → Ret RB W σ F H (f env) (t σ H)
variable {tf tg : TX}
theorem SW.st (h : SW X W e tf) : ST X W e tf := by
  obtain ⟨t, p, r⟩ := h
  exact ⟨t, p.pt, r⟩
theorem sw_and1 (ha : ST X W a tf) : SW X W (.BoolOp .And [a] pos) tf := by
  obtain ⟨t, p, r⟩ := ha
  exact ⟨t, pw_and1 p, r⟩
theorem sw_or1 (ha : ST X W a tf) : SW X W (.BoolOp .Or [a] pos) tf := by
  obtain ⟨t, p, r⟩ := ha
  exact ⟨t, pw_or1 p, r⟩
theorem sw_and (ha : ST X W a tf) (hb : SW X W (.BoolOp .And (b :: rest) pos) tg) : SW X W (.BoolOp .And (a :: b :: rest) pos) (tAndX tf tg) := by
  obtain ⟨t, p, r⟩ := ha
  obtain ⟨u, p2, r2⟩ := hb
  refine ⟨_, pw_and p p2, fun BF B env σ F H sr => Ret.bnd (r _ _ _ _ _ _ sr) (fun _ _ _ _ _ _ h => h) sr.inn (T' := fun c H1 Q => if c = true then u σ H1 Q else Q false H1) fun d v F1 H1 _ st e => ?_⟩
  have e : v = d := e
  subst e
  cases v with
  | true => exact r2 _ _ _ _ _ _ (sr.step st)
  | false => exact ret_of st.inn (fun Q q => q) rfl
theorem sw_or (ha : ST X W a tf) (hb : SW X W (.BoolOp .Or (b :: rest) pos) tg) : SW X W (.BoolOp .Or (a :: b :: rest) pos) (tOrX tf tg) := by
  obtain ⟨t, p, r⟩ := ha
  obtain ⟨u, p2, r2⟩ := hb
  refine ⟨_, pw_or p p2, fun BF B env σ F H sr => Ret.bnd (r _ _ _ _ _ _ sr) (fun _ _ _ _ _ _ h => h) sr.inn (T' := fun c H1 Q => if c = true then Q true H1 else u σ H1 Q) fun d v F1 H1 _ st e => ?_⟩
  have e : v = d := e
  subst e
  cases v with
  | true => exact ret_of st.inn (fun Q q => q) rfl
  | false => exact r2 _ _ _ _ _ _ (sr.step st)
theorem st_not (ha : ST X W a tf) : ST X W (.UnaryOp .Not a pos) (tNotX tf) := by
  obtain ⟨t, p, r⟩ := ha
  refine ⟨_, pt_not p, fun BF B env σ F H sr => Ret.bnd (r _ _ _ _ _ _ sr) (fun _ _ _ _ _ _ h => h) sr.inn (T' := fun c H1 Q => Q (!c) H1) fun d v F1 H1 _ st e => ?_⟩
  have e : v = d := e
  subst e
  exact ret_of st.inn (fun Q q => q) rfl
theorem se_one {op} (h : SE X W a f) : SE X W (.BoolOp op [a] pos) f := by
  obtain ⟨t, p, r⟩ := h
  exact ⟨t, pe_one p, r⟩
theorem bool_ret {K : PySem.W.Frag} {α β : Type} {R : Hp → Hp → Hp → β → α → Prop} {σ : St} {F H : Hp} {v : V} {d : D} {k : Bool → An α} {T : Bool → (β → Hp → Prop) → Prop} (r : Dp K F v d)
    (h : ∀ c, v = .bl c → Ret R W σ F H (k c) (T c)) : Ret R W σ F H ((oBool d).bnd k) (fun Q => ∃ c, v = .bl c ∧ T c Q) := by
  unfold oBool
  split
  · cases r
    rename_i c
    have q := h c rfl
    show Ret R W σ F H (k c) _
    cases e : k c with
    | bad => trivial
    | ok z =>
      rw [e] at q
      exact fun Q hQ => ⟨c, rfl, q Q hQ⟩
    | exc z =>
      rw [e] at q
      exact fun Q hQ => ⟨c, rfl, q Q hQ⟩
  · trivial
theorem se_and (ha : SE X W a f) (hb : SE X W (.BoolOp .And (b :: rest) pos) g) : SE X W (.BoolOp .And (a :: b :: rest) pos) (xAnd f g) := by
  obtain ⟨t, p, r⟩ := ha
  obtain ⟨u, p2, r2⟩ := hb
  refine ⟨_, pe_and p p2, fun BF B env σ F H sr => Ret.bnd (R := RD X.K) (R' := RD X.K) (r _ _ _ _ _ _ sr) (fun _ _ _ _ _ _ h => h) sr.inn (T' := fun x H1 Q => ∃ c, x = .bl c ∧ if c = true then u σ H1 Q else Q (.bl false) H1) fun d v F1 H1 _ st rd => ?_⟩
  refine bool_ret rd fun c _ => ?_
  cases c with
  | true => exact r2 _ _ _ _ _ _ (sr.step st)
  | false => exact ret_of st.inn (fun Q q => q) (.bl _)
theorem se_or (ha : SE X W a f) (hb : SE X W (.BoolOp .Or (b :: rest) pos) g) : SE X W (.BoolOp .Or (a :: b :: rest) pos) (xOr f g) := by
  obtain ⟨t, p, r⟩ := ha
  obtain ⟨u, p2, r2⟩ := hb
  refine ⟨_, pe_or p p2, fun BF B env σ F H sr => Ret.bnd (R := RD X.K) (R' := RD X.K) (r _ _ _ _ _ _ sr) (fun _ _ _ _ _ _ h => h) sr.inn (T' := fun x H1 Q => ∃ c, x = .bl c ∧ if c = true then Q (.bl true) H1 else u σ H1 Q) fun d v F1 H1 _ st rd => ?_⟩
  refine bool_ret rd fun c _ => ?_
  cases c with
  | true => exact ret_of st.inn (fun Q q => q) (.bl _)
  | false => exact r2 _ _ _ _ _ _ (sr.step st)
theorem se_not (ha : SE X W a f) : SE X W (.UnaryOp .Not a pos) (xNot f) := by
  obtain ⟨t, p, r⟩ := ha
  refine ⟨_, pe_not p, fun BF B env σ F H sr => Ret.bnd (R := RD X.K) (R' := RD X.K) (r _ _ _ _ _ _ sr) (fun _ _ _ _ _ _ h => h) sr.inn (T' := fun x H1 Q => ∃ c, x = V.bl c ∧ Q (V.bl (!c)) H1) fun d v F1 H1 _ st rd => ?_⟩
  exact bool_ret rd fun c _ => ret_of st.inn (fun Q q => q) (.bl _)
theorem se_ix (ha : SE X W a f) (hb : SE X W b g) (hs : PlainIx b) : SE X W (.Subscript a b pos) (xOp oIdx f g) := by
  obtain ⟨ta, pa, ga⟩ := ha
  obtain ⟨tb, pb, gb⟩ := hb
  exact ⟨_, pe_ix (ix_list.or ix_tup) pa pb hs, fun BF B env σ F H sr => op_ret og_idx sr ga gb⟩
/-- argument lists: their length is that of the text -/
theorem sa_nil : SA X W [] aNil := ⟨_, pa_nil, fun _ _ _ _ _ _ sr => ret_of sr.inn (fun _ q => q) .nil⟩
theorem sa_cons (ha : SE X W e f) (hr : SA X W es fs) (hs : starEach (e :: es) X.env = (false, eval e X.env) :: starEach es X.env := by rfl) : SA X W (e :: es) (aCons f fs) := by
  obtain ⟨ta, pa, ga⟩ := ha
  obtain ⟨tr, pr, gr⟩ := hr
  refine ⟨_, pa_cons pa pr hs, fun BF B env σ F H sr => Ret.bnd (ga _ _ _ _ _ _ sr) (fun _ _ _ _ _ _ h => h) sr.inn (T' := fun x H1 Q => tr σ H1 fun xs H2 => Q (x :: xs) H2) fun d v F1 H1 _ st r1 => ?_⟩
  exact Ret.bnd (gr _ _ _ _ _ _ (sr.step st)) (fun _ _ _ _ _ _ h => h) st.inn (T' := fun xs H2 Q => Q (v :: xs) H2) fun ds vs F2 H2 _ st2 r2 => ret_of st2.inn (fun Q q => q) (.cons (dp_mono st2.fr r1) r2)
theorem se_tup {x1} (h : SA X W es fs) (hl : ∀ env ds, fs env = .ok ds → ds.length ≤ 100000) : SE X W (.Tuple es x1 pos) (xTup fs) := by
  obtain ⟨t, p, r⟩ := h
  refine ⟨_, pe_tup p, fun BF B env σ F H sr => Ret.bnd (R := RA X.K) (R' := RD X.K) (r _ _ _ _ _ _ sr) (fun _ _ _ _ _ _ h => h) sr.inn (T' := fun xs H1 Q => xs.length ≤ sizeLine ∧ ∀ p, H1 p = none → Q (V.ref p) (upd H1 p (HO.tup xs))) fun ds vs F1 H1 e st rd => ?_⟩
  have hz := hl env ds e
  rw [← dps_len rd] at hz
  exact ret_new st.inn (fun Q q => ⟨Nat.le_trans hz (by decide), q⟩) fun p F' s h => .tup (SqT.of h) (dps_mono s rd)
theorem sl_lst (h : SA X W es fs) (hl : ∀ env ds, fs env = .ok ds → ds.length ≤ 100000) : SL X W (.List es pos) fs := by
  obtain ⟨t, p, r⟩ := h
  refine ⟨_, pe_lst p, fun BF B env σ F H sr => ?_⟩
  have q : Ret (RL X.K) W σ F H ((fs env).bnd fun ds => .ok ds) (tLst t σ H) := Ret.bnd (r _ _ _ _ _ _ sr) RL.back sr.inn (T' := fun xs H1 Q => xs.length ≤ sizeLine ∧ ∀ p, H1 p = none → Q (V.ref p) (upd H1 p (HO.lst xs))) fun ds vs F1 H1 e st rd => by
    have hz := hl env ds e
    rw [← dps_len rd] at hz
    exact ret_newL st.inn (fun Q q => ⟨Nat.le_trans hz (by decide), q⟩) rd
  cases e : fs env with
  | bad => trivial
  | ok ds =>
    rw [e] at q
    exact q
  | exc c =>
    rw [e] at q
    exact q
theorem aNil_len : ∀ env ds, aNil env = .ok ds → ds.length ≤ 0 := fun env ds e => by
  cases e
  exact Nat.le_refl _
theorem aCons_len {n : Nat} (h : ∀ env ds, fs env = .ok ds → ds.length ≤ n) : ∀ env ds, aCons f fs env = .ok ds → ds.length ≤ n + 1 := fun env ds e => by
  unfold aCons at e
  cases e1 : f env with
  | bad =>
    rw [e1] at e
    cases e
  | exc c =>
    rw [e1] at e
    cases e
  | ok d =>
    rw [e1] at e
    cases e2 : fs env with
    | bad =>
      rw [e2] at e
      cases e
    | exc c =>
      rw [e2] at e
      cases e
    | ok ds' =>
      rw [e2] at e
      cases e
      have := h env ds' e2
      show ds'.length + 1 ≤ n + 1
      omega
theorem len_ok {n : Nat} (h : ∀ env ds, fs env = .ok ds → ds.length ≤ n) (hn : n ≤ 100000) : ∀ env ds, fs env = .ok ds → ds.length ≤ 100000 := fun env ds e => Nat.le_trans (h env ds e) hn
/-- a fresh list as a value -/
theorem se_of_sl (h : SL X W e fs) : SE X W e (xL fs) := by
  obtain ⟨t, p, r⟩ := h
  refine ⟨t, p, fun BF B env σ F H sr => ?_⟩
  have q := r _ _ _ _ _ _ sr
  unfold xL
  cases e : fs env with
  | bad => trivial
  | exc c =>
    rw [e] at q
    exact q
  | ok ds =>
    rw [e] at q
    intro Q hQ
    refine q Q fun v F' H' st rl => ?_
    obtain ⟨p, vs, rfl, h1, h2, h3, h4⟩ := rl
    exact hQ _ _ _ (st.frz h1 h2 h3) (.lst (SqL.of upd_same) (dps_mono (same_new h2) h4))
/-- slices -/
def SO (X : Cx) (W : Wx) (e : Option Expr) (f : OX) : Prop := ∃ t : TO, PO X e t ∧ ∀ BF B env σ F H, SR (kx X) BF B env σ F H → Ret (fun _ _ _ v d => v = d) W σ F H (f env) (t σ H)
theorem so_none : SO X W none pNo := ⟨_, po_none, fun _ _ _ _ _ _ sr => ret_of sr.inn (fun _ q => q) rfl⟩
theorem so_some (h : SE X W e f) : SO X W (some e) (pAt f) := by
  obtain ⟨t, p, r⟩ := h
  refine ⟨_, po_some p, fun BF B env σ F H sr => Ret.bnd (r _ _ _ _ _ _ sr) (fun _ _ _ _ _ _ h => h) sr.inn (T' := fun x H1 Q => ∃ i, x = .int i ∧ Q (some i) H1) fun d v F1 H1 _ st rd => ?_⟩
  unfold oInt
  split
  · cases rd
    exact ret_of st.inn (fun Q q => ⟨_, rfl, q⟩) rfl
  · trivial
theorem se_slice {lo hi : Option Expr} {fl fh : OX} {p2 : Pos} (he : SE X W e f) (hl : SO X W lo fl) (hu : SO X W hi fh) : SE X W (.Subscript e (.Slice lo hi none p2) pos) (xSl f fl fh) := by
  obtain ⟨t, p, r⟩ := he
  obtain ⟨tl, pl, rl⟩ := hl
  obtain ⟨th, ph, rh⟩ := hu
  refine ⟨_, pe_slice (sl_list.or sl_tupA) p pl ph, fun BF B env σ F H sr => ?_⟩
  refine Ret.bnd (r _ _ _ _ _ _ sr) (fun _ _ _ _ _ _ h => h) sr.inn (T' := fun x H1 Q => tl σ H1 fun l H2 => th σ H2 fun u H3 => (rSlL X.K x l u H3 Q ∨ rSlA X.K x l u H3 Q)) fun d v F1 H1 _ st rd => ?_
  refine Ret.bnd (rl _ _ _ _ _ _ (sr.step st)) (fun _ _ _ _ _ _ h => h) st.inn (T' := fun l H2 Q => th σ H2 fun u H3 => (rSlL X.K v l u H3 Q ∨ rSlA X.K v l u H3 Q)) fun l l' F2 H2 _ st2 e2 => ?_
  refine Ret.bnd (rh _ _ _ _ _ _ ((sr.step st).step st2)) (fun _ _ _ _ _ _ h => h) st2.inn (T' := fun u H3 Q => (rSlL X.K v l' u H3 Q ∨ rSlA X.K v l' u H3 Q)) fun u u' F3 H3 _ st3 e3 => ?_
  have e2 : l' = l := e2
  have e3 : u' = u := e3
  subst e2
  subst e3
  exact sl_ret l' u' st3.inn (dp_mono (st2.trans st3).fr rd)
/-- calls of built-in functions and types -/
theorem cb_ret {r : List V → Hp → VK → Prop} {o : List D → An D} {t : TA} (gr : CG X.K W r o) {BF B : Hp} {env : Env} {σ : St} {F H : Hp} (sr : SR (kx X) BF B env σ F H) (ga : Ret (RA X.K) W σ F H (fs env) (t σ H)) : Ret (RD X.K) W σ F H (xApp o fs env) (tCB r t σ H) :=
  Ret.bnd ga (fun _ _ _ _ _ _ h => h) sr.inn (T' := fun vs H1 Q => r vs H1 Q) fun ds vs F1 H1 _ st rd => gr F1 H1 σ vs ds st.inn rd
theorem cbl_ret {r : List V → Hp → VK → Prop} {o : List D → An (List D)} {t : TA} (gr : CGL X.K W r o) {BF B : Hp} {env : Env} {σ : St} {F H : Hp} (sr : SR (kx X) BF B env σ F H) (ga : Ret (RA X.K) W σ F H (fs env) (t σ H)) : Ret (RL X.K) W σ F H (xAppL o fs env) (tCB r t σ H) :=
  Ret.bnd ga RL.back sr.inn (T' := fun vs H1 Q => r vs H1 Q) fun ds vs F1 H1 _ st rd => gr F1 H1 σ vs ds st.inn rd
theorem se_callB {id : String} {x : Str} {p : Pos} {r : List V → Hp → VK → Prop} {o : List D → An D} (hc : CallR X (.builtin id) r) (gr : CG X.K W r o) (hm : X.mg x = none) (ha : SA X W (e :: es) fs) (hg : Gl X x := by rfl) (hv : bootBuiltins x = some (.builtin id) := by decide +kernel) (hn : x ≠ "__name__" := by decide) (hdb : (x == ("__debug__" : Str)) = false := by decide)
    (he : starEach (e :: es) X.env = (false, eval e X.env) :: starEach es X.env := by rfl) (hpl : (backTo pos (starEach es X.env)).any (·.1) = false := by rfl) : SE X W (.Call (.Name x p) (e :: es) [] pos) (xApp o fs) := by
  obtain ⟨t, pt, rt⟩ := ha
  exact ⟨_, pe_callB hc hg hm hv pt hn hdb he hpl, fun BF B env σ F H sr => cb_ret gr sr (rt _ _ _ _ _ _ sr)⟩
theorem se_callT {T : String} {x : Str} {p : Pos} {r : List V → Hp → VK → Prop} {o : List D → An D} (hc : CallR X (.type T) r) (gr : CG X.K W r o) (hm : X.mg x = none) (ha : SA X W (e :: es) fs) (hg : Gl X x := by rfl) (hv : bootBuiltins x = some (.type T) := by decide +kernel) (hn : x ≠ "__name__" := by decide) (hdb : (x == ("__debug__" : Str)) = false := by decide)
    (he : starEach (e :: es) X.env = (false, eval e X.env) :: starEach es X.env := by rfl) (hpl : (backTo pos (starEach es X.env)).any (·.1) = false := by rfl) : SE X W (.Call (.Name x p) (e :: es) [] pos) (xApp o fs) := by
  obtain ⟨t, pt, rt⟩ := ha
  exact ⟨_, pe_callTy hc hg hm hv pt hn hdb he hpl, fun BF B env σ F H sr => cb_ret gr sr (rt _ _ _ _ _ _ sr)⟩
theorem sl_callT {T : String} {x : Str} {p : Pos} {r : List V → Hp → VK → Prop} {o : List D → An (List D)} (hc : CallR X (.type T) r) (gr : CGL X.K W r o) (hm : X.mg x = none) (ha : SA X W (e :: es) fs) (hg : Gl X x := by rfl) (hv : bootBuiltins x = some (.type T) := by decide +kernel) (hn : x ≠ "__name__" := by decide) (hdb : (x == ("__debug__" : Str)) = false := by decide)
    (he : starEach (e :: es) X.env = (false, eval e X.env) :: starEach es X.env := by rfl) (hpl : (backTo pos (starEach es X.env)).any (·.1) = false := by rfl) : SL X W (.Call (.Name x p) (e :: es) [] pos) (xAppL o fs) := by
  obtain ⟨t, pt, rt⟩ := ha
  exact ⟨_, pe_callTy hc hg hm hv pt hn hdb he hpl, fun BF B env σ F H sr => cbl_ret gr sr (rt _ _ _ _ _ _ sr)⟩
theorem se_len {p : Pos} (hm : X.mg "len" = none) (ha : SE X W e f) (hg : Gl X "len" := by rfl) (hs : starEach [e] X.env = (false, eval e X.env) :: starEach [] X.env := by rfl) (hpl : (backTo pos (starEach [] X.env)).any (·.1) = false := by rfl) :
    SE X W (.Call (.Name "len" p) [e] [] pos) (xApp oLen (aCons f aNil)) := se_callB call_len_seq cg_len hm (sa_cons ha sa_nil hs) hg boot_len (by decide) (by decide) hs hpl
theorem sl_list {p : Pos} (hm : X.mg "list" = none) (ha : SE X W e f) (hg : Gl X "list" := by rfl) (hs : starEach [e] X.env = (false, eval e X.env) :: starEach [] X.env := by rfl) (hpl : (backTo pos (starEach [] X.env)).any (·.1) = false := by rfl) :
    SL X W (.Call (.Name "list" p) [e] [] pos) (xAppL oList (aCons f aNil)) := sl_callT call_list_of cg_list hm (sa_cons ha sa_nil hs) hg (by decide +kernel) (by decide) (by decide) hs hpl
theorem se_tuple {p : Pos} (hm : X.mg "tuple" = none) (ha : SE X W e f) (hg : Gl X "tuple" := by rfl) (hs : starEach [e] X.env = (false, eval e X.env) :: starEach [] X.env := by rfl) (hpl : (backTo pos (starEach [] X.env)).any (·.1) = false := by rfl) :
    SE X W (.Call (.Name "tuple" p) [e] [] pos) (xApp oTuple (aCons f aNil)) := se_callT call_tuple_of cg_tuple hm (sa_cons ha sa_nil hs) hg (by decide +kernel) (by decide) (by decide) hs hpl
theorem se_intOf {p : Pos} (hm : X.mg "int" = none) (ha : SE X W e f) (hg : Gl X "int" := by rfl) (hs : starEach [e] X.env = (false, eval e X.env) :: starEach [] X.env := by rfl) (hpl : (backTo pos (starEach [] X.env)).any (·.1) = false := by rfl) :
    SE X W (.Call (.Name "int" p) [e] [] pos) (xApp oIntOf (aCons f aNil)) := se_callT call_int1 cg_int hm (sa_cons ha sa_nil hs) hg (by decide +kernel) (by decide) (by decide) hs hpl
/-- isinstance(x, T), T a built-in type -/
theorem se_isA {x : Str} {T : String} {p p2 : Pos} (hm : X.mg "isinstance" = none) (hx : X.mg x = none) (ha : SE X W e f) (hb : bootBuiltins x = some (.type T) := by decide +kernel) (hg : Gl X "isinstance" := by rfl) (hgx : Gl X x := by rfl) (hn : x ≠ "__name__" := by decide) (hdb : (x == ("__debug__" : Str)) = false := by decide)
    (hs : starEach [e, .Name x p2] X.env = (false, eval e X.env) :: starEach [.Name x p2] X.env := by rfl) (hs2 : starEach [.Name x p2] X.env = (false, eval (.Name x p2) X.env) :: starEach [] X.env := by rfl) (hpl : (backTo pos (starEach [.Name x p2] X.env)).any (·.1) = false := by rfl) :
    SE X W (.Call (.Name "isinstance" p) [e, .Name x p2] [] pos) (xUn (oIsA T) f) := by
  obtain ⟨t, pt, rt⟩ := ha
  refine ⟨_, pe_callB call_isi hg hm (by decide +kernel) (pa_cons pt (pa_cons (pe_bltn (v := .ty T) hgx hx hb rfl hn hdb) pa_nil hs2) hs) (by decide) (by decide) hs hpl, fun BF B env σ F H sr => ?_⟩
  refine Ret.bnd (rt _ _ _ _ _ _ sr) (fun _ _ _ _ _ _ h => h) sr.inn (T' := fun v H1 Q => rIsi X.K [v, .ty T] H1 Q) fun d v F1 H1 _ st rd => ?_
  unfold oIsA
  split
  · rename_i bb e1
    exact ret_of st.inn (fun Q q => ⟨v, .ty T, .type (tyD d), .type T, bb, rfl, .ty T, ty_of (dp_mono st.inn rd), kit_ty e1, q⟩) (.bl _)
  · trivial
end
end Mg
namespace Mg
open PySem PySem.Spec PyProof.Rows L2
/-! ### own defs -/
abbrev wx (cl : Xc → Addr) (W : Wx) : WX := fun cls d σ H => ∃ c, cls = .ref (cl c) ∧ d = none ∧ W c σ H
abbrev W0 : Wx := fun _ _ _ => False
theorem takes_none {X : Cx} {cl : Xc → Addr} : Takes X (wx cl W0) := fun _ _ x => by
  obtain ⟨_, _, _, _, _, _, _, _, _, _, _, _, _, _, _, _, _, _, _, z⟩ := x
  exact z.elim
def SpOk (K : PySem.W.Frag) (cl : Xc → Addr) (F H : Hp) (Q : VK) (E : XK) : An D → Prop
  | .bad => False
  | .ok d => ∀ v F' H', Step F H F' H' → Dp K F' v d → Q v H'
  | .exc c => ∀ F' H', Step F H F' H' → E (.ref (cl c)) none H'
def spG (K : PySem.W.Frag) (cl : Xc → Addr) (n : Nat) (spec : List D → An D) : Sp := fun vs H Q E =>
  ∃ F ds, Same F H ∧ DpAll K F vs ds ∧ ds.length = n ∧ SpOk K cl F H Q E (spec ds)
/-- the def x, of n parameters, that stands under the module's names, keeps spec -/
def FG (P : Program) (w : World) (K : PySem.W.Frag) (mg : Str → Option Value) (base : Heap) (cl : Xc → Addr) (x : Str) (k n : Nat) (spec : List D → An D) : Prop :=
  ∃ f fd ps, FnOk P w K mg base (L2.CX P w) k f fd ps (spG K cl n spec) ∧ mg x = some (.ref f) ∧ PySem.W.keepIn K (.ref f) = true ∧ Binds K fd ps [] ∧ ∀ ds, ds.length ≠ n → spec ds = .bad
/-- a def's worth by its body -/
def runDef (nN np : Nat) (body : SX) (ds : List D) : An D :=
  if ds.length = np then (match body (ds.map Slot.val ++ List.replicate (nN - np) Slot.un) with
    | .ret d => .ok d
    | .nx _ => .ok .none
    | .exc c _ => .exc c
    | _ => .bad) else .bad
theorem runDef_len {nN np : Nat} {body : SX} : ∀ ds : List D, ds.length ≠ np → runDef nN np body ds = .bad := fun ds h => if_neg h
section
variable {X : Cx} {W : Wx} {a b e : Expr} {es rest : List Expr} {f g : EX} {fs : AX} {pos : Pos}
theorem se_call {cl : Xc → Addr} {x : Str} {p : Pos} {k n : Nat} {spec : List D → An D} (G : FG X.prog X.w X.K X.mg X.base cl x k n spec) (hr : Room k X.A) (tk : Takes X (wx cl W)) (ha : SA X W (e :: es) fs) (hg : Gl X x := by rfl) (hdb : (x == ("__debug__" : Str)) = false := by decide)
    (he : starEach (e :: es) X.env = (false, eval e X.env) :: starEach es X.env := by rfl) (hpl : (backTo pos (starEach es X.env)).any (·.1) = false := by rfl) : SE X W (.Call (.Name x p) (e :: es) [] pos) (xApp spec fs) := by
  obtain ⟨t, pt, rt⟩ := ha
  obtain ⟨f, fd, ps, Fk, hm, hk, hb, hlen⟩ := G
  refine ⟨_, pe_callS Fk hr hg hm hk hb (fun σ => passAt tk σ) pt hdb he hpl, fun BF B env σ F H sr => ?_⟩
  refine Ret.bnd (R := RA X.K) (R' := RD X.K) (rt _ _ _ _ _ _ sr) (fun _ _ _ _ _ _ h => h) sr.inn (T' := fun vs H1 Q => spG X.K cl n spec vs H1 Q (WE (wx cl W) σ)) fun ds vs F1 H1 _ st rd => ?_
  have go : ∀ Q : VK, SpOk X.K cl F1 H1 Q (WE (wx cl W) σ) (spec ds) → spG X.K cl n spec vs H1 Q (WE (wx cl W) σ) := fun Q q => by
    refine ⟨F1, ds, st.inn, rd, ?_, q⟩
    by_cases hl : ds.length = n
    · exact hl
    · rw [hlen ds hl] at q
      exact q.elim
  cases e1 : spec ds with
  | bad => trivial
  | ok d => exact fun Q q => go Q (by rw [e1]; exact q)
  | exc c => exact fun Q q => go Q (by rw [e1]; exact fun F' H' st' => ⟨c, rfl, rfl, q F' H' st'⟩)

/-! ### the def's own lists, read -/
def xLenO (i : Nat) : EX := fun env => match env[i]? with
  | some (.own ds) => .ok (.int ds.length)
  | _ => .bad
def oIdxL (ds : List D) : D → An D
  | .int i => (match atI ds i with | some d => .ok d | none => .bad)
  | _ => .bad
def xIxO (i : Nat) (g : EX) : EX := fun env => match env[i]? with
  | some (.own ds) => (g env).bnd (oIdxL ds)
  | _ => .bad
theorem se_lenO (i : Nat) {x : Str} {p p2 : Pos} (hm : X.mg "len" = none) (hN : X.N[i]? = some x := by rfl) (hv : Vis X.env.scope x := by first | exact Or.inl rfl | exact Or.inr (Or.inl rfl) | exact Or.inr (Or.inr rfl)) (hd : (x == ("__debug__" : Str)) = false := by decide)
    (hcd : (x == ("__classdict__" : Str)) = false := by decide) (hg : Gl X "len" := by rfl) (hs : starEach [.Name x p2] X.env = (false, eval (.Name x p2) X.env) :: starEach [] X.env := by rfl) (hpl : (backTo pos (starEach [] X.env)).any (·.1) = false := by rfl) :
    SE X W (.Call (.Name "len" p) [.Name x p2] [] pos) (xLenO i) := by
  refine ⟨_, pe_callB call_len_seq hg hm boot_len (pa_cons (pe_var hN hv hd hcd) pa_nil hs) (by decide) (by decide) hs hpl, fun BF B env σ F H sr => ?_⟩
  unfold xLenO
  split
  · rename_i ds e
    obtain ⟨a, vs, e1, _, _, e2, r⟩ := sr.own e
    exact ret_of sr.inn (fun Q q => ⟨_, e1, a, vs, rfl, .inl (SqL.of e2), by rw [dps_len r]; exact q⟩) (.int _)
  · trivial
theorem se_ixO (i : Nat) {x : Str} {p2 : Pos} (hb : SE X W b g) (hs : PlainIx b) (hN : X.N[i]? = some x := by rfl) (hv : Vis X.env.scope x := by first | exact Or.inl rfl | exact Or.inr (Or.inl rfl) | exact Or.inr (Or.inr rfl)) (hd : (x == ("__debug__" : Str)) = false := by decide)
    (hcd : (x == ("__classdict__" : Str)) = false := by decide) : SE X W (.Subscript (.Name x p2) b pos) (xIxO i g) := by
  obtain ⟨tb, pb, gb⟩ := hb
  refine ⟨_, pe_ix ix_list (pe_var hN hv hd hcd) pb hs, fun BF B env σ F H sr => ?_⟩
  unfold xIxO
  split
  · rename_i ds e
    obtain ⟨a, vs, e1, _, fn, e2, r⟩ := sr.own e
    have q0 : Ret (RD X.K) W σ F H ((g env).bnd (oIdxL ds)) (fun Q => tb σ H fun y H2 => rIxL X.K (.ref a) y H2 Q) := by
      refine Ret.bnd (R := RD X.K) (R' := RD X.K) (gb _ _ _ _ _ _ sr) (fun _ _ _ _ _ _ h => h) sr.inn (T' := fun y H2 Q => rIxL X.K (.ref a) y H2 Q) fun d v F1 H1 _ st rd => ?_
      cases rd with
      | int j =>
        show Ret (RD X.K) W σ F1 H1 (match atI ds j with | some d => .ok d | none => .bad) _
        cases e6 : atI ds j with
        | none => trivial
        | some z =>
          obtain ⟨u, e7, r7⟩ := atI_dps (dps_mono st.fr r) e6
          exact ret_of st.inn (fun Q q => ⟨_, vs, j, u, rfl, rfl, SqL.of (st.pv _ _ e2 fn).2, e7, q⟩) r7
      | _ => trivial
    cases e3 : (g env).bnd (oIdxL ds) with
    | bad => trivial
    | ok z =>
      rw [e3] at q0
      exact fun Q q => ⟨_, e1, q0 Q q⟩
    | exc c =>
      rw [e3] at q0
      exact fun Q q => ⟨_, e1, q0 Q q⟩
  · trivial

/-! ### what is walked -/
/-- J walks ds, whose values stand in F -/
def JW (K : PySem.W.Frag) (J : It) (F : Hp) (ds : List D) : Prop := ∀ F1 H1, Same F F1 → Same F1 H1 → ∀ i,
  (∀ d, ds[i]? = some d → J.go i H1 ∧ ∀ x H2, J.yld i H1 x H2 → ∃ F2, Step F1 H1 F2 H2 ∧ Dp K F2 x d) ∧ (ds.length ≤ i → J.stop i H1)
abbrev RJ (K : PySem.W.Frag) : Hp → Hp → Hp → It → List D → Prop := fun _ F' _ J ds => JW K J F' ds
def SI (X : Cx) (W : Wx) (tg it : Expr) (src : AX) : Prop := ∃ wi : TI, PI X tg it wi ∧ ∀ BF B env σ F H, SR (kx X) BF B env σ F H → Ret (RJ X.K) W σ F H (src env) (wi σ H)
def oItemsL : D → An (List D)
  | .list ds => .ok ds
  | _ => .bad
def oItemsT : D → An (List D)
  | .tuple ds => .ok ds
  | _ => .bad
def iL (f : EX) : AX := fun env => (f env).bnd oItemsL
def iT (f : EX) : AX := fun env => (f env).bnd oItemsT
def oRng (lo hi : Int) : An (List D) := if (-100000 ≤ lo ∧ lo ≤ 100000) ∧ (-100000 ≤ hi ∧ hi ≤ 100000) then .ok ((List.range (hi - lo).toNat).map fun i : Nat => .int (lo + (i : Int))) else .bad
def oRng1 : List D → An (List D)
  | [.int n] => oRng 0 n
  | _ => .bad
def oRng2 : List D → An (List D)
  | [.int m, .int n] => oRng m n
  | _ => .bad
def iR1 (f : EX) : AX := fun env => (aCons f aNil env).bnd oRng1
def iR2 (f g : EX) : AX := fun env => (aCons f (aCons g aNil) env).bnd oRng2
def enumD (ds : List D) : List D := (List.range ds.length).map fun i : Nat => .tuple [.int (i : Int), ds.getD i .none]
def oEnum : List D → An (List D)
  | [.list ds] => .ok (enumD ds)
  | _ => .bad
def iE (f : EX) : AX := fun env => (aCons f aNil env).bnd oEnum
def zipD : List D → List D → List D
  | x :: xs, y :: ys => .tuple [x, y] :: zipD xs ys
  | _, _ => []
def oZip : List D → An (List D)
  | [.list ds, .list es] => .ok (zipD ds es)
  | _ => .bad
def iZ (f g : EX) : AX := fun env => (aCons f (aCons g aNil) env).bnd oZip
theorem jw_list {K : PySem.W.Frag} {a : Addr} {F : Hp} {vs : List V} {ds : List D} (h : SqL K F a vs) (r : DpAll K F vs ds) : JW K (Itl K a) F ds := by
  intro F1 H1 s1 s2 i
  have h1 : SqL K H1 a vs := s2.seq (s1.seq h)
  refine ⟨fun d e => ?_, fun e => ⟨vs, h1, by rw [dps_len r]; exact e⟩⟩
  obtain ⟨v, e2, rv⟩ := dps_get' r e
  refine ⟨⟨vs, v, h1, e2⟩, fun x H2 y => ?_⟩
  obtain ⟨rfl, y⟩ := y
  have e3 : x = v := Option.some.inj ((y vs h1).symm.trans e2)
  subst e3
  exact ⟨F1, Step.refl s2, dp_mono s1 rv⟩
theorem jw_tup {K : PySem.W.Frag} {a : Addr} {F : Hp} {vs : List V} {ds : List D} (h : SqT K F a vs) (r : DpAll K F vs ds) : JW K (Itt K a) F ds := by
  intro F1 H1 s1 s2 i
  have h1 : SqT K H1 a vs := same_seqT s2 (same_seqT s1 h)
  refine ⟨fun d e => ?_, fun e => ⟨vs, h1, by rw [dps_len r]; exact e⟩⟩
  obtain ⟨v, e2, rv⟩ := dps_get' r e
  refine ⟨⟨vs, v, h1, e2⟩, fun x H2 y => ?_⟩
  obtain ⟨rfl, y⟩ := y
  have e3 : x = v := Option.some.inj ((y vs h1).symm.trans e2)
  subst e3
  exact ⟨F1, Step.refl s2, dp_mono s1 rv⟩
theorem jw_rng {K : PySem.W.Frag} {F : Hp} (lo : Int) (n : Nat) : JW K (Itr lo n) F ((List.range n).map fun i : Nat => .int (lo + (i : Int))) := by
  intro F1 H1 s1 s2 i
  refine ⟨fun d e => ?_, fun e => by
    show n ≤ i
    simpa using e⟩
  rw [List.getElem?_map] at e
  have hi : i < n := by
    by_cases hi : i < n
    · exact hi
    · rw [List.getElem?_eq_none (by simpa using hi)] at e
      cases e
  rw [List.getElem?_range hi] at e
  cases e
  refine ⟨hi, fun x H2 y => ?_⟩
  obtain ⟨rfl, rfl⟩ := y
  exact ⟨F1, Step.refl s2, .int _⟩
theorem jw_enum {K : PySem.W.Frag} {a : Addr} {F : Hp} {vs : List V} {ds : List D} (h : SqL K F a vs) (r : DpAll K F vs ds) : JW K (Ite K a) F (enumD ds) := by
  intro F1 H1 s1 s2 i
  have h1 : SqL K H1 a vs := s2.seq (s1.seq h)
  have hl := dps_len r
  refine ⟨fun d e => ?_, fun e => ⟨vs, h1, ?_⟩⟩
  · unfold enumD at e
    rw [List.getElem?_map] at e
    have hi : i < ds.length := by
      by_cases hi : i < ds.length
      · exact hi
      · rw [List.getElem?_eq_none (by simpa using hi)] at e
        cases e
    rw [List.getElem?_range hi] at e
    cases e
    obtain ⟨v, e2, rv⟩ := dps_get' r (List.getElem?_eq_getElem hi)
    have eg : ds.getD i .none = ds[i] := by
      rw [List.getD_eq_getElem?_getD, List.getElem?_eq_getElem hi]
      rfl
    refine ⟨⟨vs, v, h1, e2⟩, fun x H2 y => ?_⟩
    obtain ⟨T, z, rfl, hT, rfl, y⟩ := y
    have e3 : z = v := Option.some.inj ((y vs h1).symm.trans e2)
    subst e3
    refine ⟨upd F1 T (.tup [.int (i : Nat), z]), Step.new s2 hT, ?_⟩
    have s3 : Same F1 (upd F1 T (.tup [.int (i : Nat), z])) := same_new (s2.free hT)
    show Dp K _ _ (.tuple [.int (i : Int), ds.getD i .none])
    rw [eg]
    exact .tup (SqT.of upd_same) (.cons (.int _) (.cons (dp_mono (s1.trans s3) rv) .nil))
  · unfold enumD at e
    rw [List.length_map, List.length_range] at e
    omega
theorem zipD_len : ∀ xs ys : List D, (zipD xs ys).length = min xs.length ys.length
  | [], _ => by simp [zipD]
  | _ :: _, [] => by simp [zipD]
  | x :: xs, y :: ys => by
    show (zipD xs ys).length + 1 = min (xs.length + 1) (ys.length + 1)
    rw [zipD_len xs ys]
    omega
theorem zipD_get : ∀ (xs ys : List D) (i : Nat) (d : D), (zipD xs ys)[i]? = some d → ∃ x y, xs[i]? = some x ∧ ys[i]? = some y ∧ d = .tuple [x, y]
  | [], _, i, d, h => by simp [zipD] at h
  | _ :: _, [], i, d, h => by simp [zipD] at h
  | x :: xs, y :: ys, 0, d, h => ⟨x, y, rfl, rfl, by simpa [zipD] using h.symm⟩
  | x :: xs, y :: ys, i + 1, d, h => by
    have h' : (zipD xs ys)[i]? = some d := by simpa [zipD] using h
    obtain ⟨u, v, a, b, c⟩ := zipD_get xs ys i d h'
    exact ⟨u, v, by simpa using a, by simpa using b, c⟩
theorem jw_zip {K : PySem.W.Frag} {a b : Addr} {F : Hp} {vs us : List V} {ds es : List D} (h : SqL K F a vs) (r : DpAll K F vs ds) (h2 : SqL K F b us) (r2 : DpAll K F us es) : JW K (Itz K a b) F (zipD ds es) := by
  intro F1 H1 s1 s2 i
  have k1 : SqL K H1 a vs := s2.seq (s1.seq h)
  have k2 : SqL K H1 b us := s2.seq (s1.seq h2)
  have hl := dps_len r
  have hl2 := dps_len r2
  refine ⟨fun d e => ?_, fun e => ⟨vs, us, k1, k2, ?_⟩⟩
  · obtain ⟨x, y, ex, ey, rfl⟩ := zipD_get ds es i d e
    obtain ⟨v, e2, rv⟩ := dps_get' r ex
    obtain ⟨u, e4, ru⟩ := dps_get' r2 ey
    refine ⟨⟨vs, us, v, u, k1, k2, e2, e4⟩, fun z H2 yy => ?_⟩
    obtain ⟨T, x', y', rfl, hT, rfl, y1, y2⟩ := yy
    have e5 : x' = v := Option.some.inj ((y1 vs k1).symm.trans e2)
    have e6 : y' = u := Option.some.inj ((y2 us k2).symm.trans e4)
    subst e5
    subst e6
    have s3 : Same F1 (upd F1 T (.tup [x', y'])) := same_new (s2.free hT)
    exact ⟨upd F1 T (.tup [x', y']), Step.new s2 hT, .tup (SqT.of upd_same) (.cons (dp_mono (s1.trans s3) rv) (.cons (dp_mono (s1.trans s3) ru) .nil))⟩
  · rw [zipD_len] at e
    omega
variable {tg : Expr}
theorem si_list (h : SE X W e f) : SI X W tg e (iL f) := by
  obtain ⟨t, p, r⟩ := h
  refine ⟨_, pi_list p, fun BF B env σ F H sr => Ret.bnd (R := RD X.K) (R' := RJ X.K) (r _ _ _ _ _ _ sr) (fun _ _ _ _ _ _ h => h) sr.inn (T' := fun x H1 R => ∃ a, x = .ref a ∧ (∃ xs, SqL X.K H1 a xs) ∧ R (Itl X.K a) H1) fun d v F1 H1 _ st rd => ?_⟩
  unfold oItemsL
  split
  · cases rd with
    | lst ha hs => exact ret_of st.inn (fun Q q => ⟨_, rfl, ⟨_, st.inn.seq ha⟩, q⟩) (jw_list ha hs)
  · trivial
theorem si_tup (h : SE X W e f) : SI X W tg e (iT f) := by
  obtain ⟨t, p, r⟩ := h
  refine ⟨_, pi_tup p, fun BF B env σ F H sr => Ret.bnd (R := RD X.K) (R' := RJ X.K) (r _ _ _ _ _ _ sr) (fun _ _ _ _ _ _ h => h) sr.inn (T' := fun x H1 R => ∃ a, x = .ref a ∧ (∃ xs, SqT X.K H1 a xs) ∧ R (Itt X.K a) H1) fun d v F1 H1 _ st rd => ?_⟩
  unfold oItemsT
  split
  · cases rd with
    | tup ha hs => exact ret_of st.inn (fun Q q => ⟨_, rfl, ⟨_, same_seqT st.inn ha⟩, q⟩) (jw_tup ha hs)
  · trivial
theorem si_rng1 {p : Pos} (hm : X.mg "range" = none) (h : SE X W e f) (hg : Gl X "range" := by rfl) (hs : starEach [e] X.env = [(false, eval e X.env)] := by rfl) : SI X W tg (.Call (.Name "range" p) [e] [] pos) (iR1 f) := by
  obtain ⟨t, pt, rt⟩ := sa_cons h sa_nil hs
  refine ⟨_, pi_range1 hg hm pt hs, fun BF B env σ F H sr => Ret.bnd (R := RA X.K) (R' := RJ X.K) (rt _ _ _ _ _ _ sr) (fun _ _ _ _ _ _ h => h) sr.inn (T' := fun vs H1 R => ∃ j : Int, vs = [.int j] ∧ -(2 ^ 62) ≤ j ∧ j < 2 ^ 62 ∧ R (Itr 0 j.toNat) H1) fun ds vs F1 H1 _ st rd => ?_⟩
  unfold oRng1
  split
  · unfold oRng
    split
    · rename_i n _ hb
      cases rd with
      | cons r1 r2 =>
        cases r1
        cases r2
        refine ret_of st.inn (fun Q q => ⟨n, rfl, by omega, by omega, q⟩) ?_
        have e0 : (n - 0).toNat = n.toNat := by rw [Int.sub_zero]
        rw [e0]
        exact jw_rng 0 n.toNat
    · trivial
  · trivial
theorem si_rng2 {p : Pos} (hm : X.mg "range" = none) (h : SE X W e f) (h2 : SE X W b g) (hg : Gl X "range" := by rfl) (hs : starEach [e, b] X.env = [(false, eval e X.env), (false, eval b X.env)] := by rfl) (hs2 : starEach [b] X.env = [(false, eval b X.env)] := by rfl) : SI X W tg (.Call (.Name "range" p) [e, b] [] pos) (iR2 f g) := by
  obtain ⟨t, pt, rt⟩ := sa_cons h (sa_cons h2 sa_nil hs2) (hs.trans (by rw [hs2]))
  refine ⟨_, pi_range2 hg hm pt hs hs2, fun BF B env σ F H sr => Ret.bnd (R := RA X.K) (R' := RJ X.K) (rt _ _ _ _ _ _ sr) (fun _ _ _ _ _ _ h => h) sr.inn (T' := fun vs H1 R => ∃ i j : Int, vs = [.int i, .int j] ∧ (-(2 ^ 62) ≤ i ∧ i < 2 ^ 62 ∧ -(2 ^ 62) ≤ j ∧ j < 2 ^ 62) ∧ R (Itr i (j - i).toNat) H1) fun ds vs F1 H1 _ st rd => ?_⟩
  unfold oRng2
  split
  · unfold oRng
    split
    · rename_i m n _ hb
      cases rd with
      | cons r1 r2 =>
        cases r1
        cases r2 with
        | cons r2 r3 =>
          cases r2
          cases r3
          exact ret_of st.inn (fun Q q => ⟨m, n, rfl, by omega, q⟩) (jw_rng m (n - m).toNat)
    · trivial
  · trivial
theorem si_enum {p tpos : Pos} {elts : List Expr} {kk : Nat} (hm : X.mg "enumerate" = none) (h : SE X W e f) (hg : Gl X "enumerate" := by rfl) (hs : starEach [e] X.env = [(false, eval e X.env)] := by rfl) : SI X W (.Tuple elts kk tpos) (.Call (.Name "enumerate" p) [e] [] pos) (iE f) := by
  obtain ⟨t, pt, rt⟩ := sa_cons h sa_nil hs
  refine ⟨_, pi_enum hg hm pt hs, fun BF B env σ F H sr => Ret.bnd (R := RA X.K) (R' := RJ X.K) (rt _ _ _ _ _ _ sr) (fun _ _ _ _ _ _ h => h) sr.inn (T' := fun vs H1 R => ∃ a xs, vs = [.ref a] ∧ SqL X.K H1 a xs ∧ R (Ite X.K a) H1) fun ds vs F1 H1 _ st rd => ?_⟩
  unfold oEnum
  split
  · cases rd with
    | cons r1 r2 =>
      cases r2
      cases r1 with
      | lst ha hs' => exact ret_of st.inn (fun Q q => ⟨_, _, rfl, st.inn.seq ha, q⟩) (jw_enum ha hs')
  · trivial
theorem si_zip {p tpos : Pos} {elts : List Expr} {kk : Nat} (hm : X.mg "zip" = none) (h : SE X W e f) (h2 : SE X W b g) (hg : Gl X "zip" := by rfl) (hs : starEach [e, b] X.env = (false, eval e X.env) :: starEach [b] X.env := by rfl) (hs2 : starEach [b] X.env = (false, eval b X.env) :: starEach [] X.env := by rfl) (hpl : (backTo pos (starEach [b] X.env)).any (·.1) = false := by rfl) :
    SI X W (.Tuple elts kk tpos) (.Call (.Name "zip" p) [e, b] [] pos) (iZ f g) := by
  obtain ⟨t, pt, rt⟩ := sa_cons h (sa_cons h2 sa_nil hs2) hs
  refine ⟨_, pi_zip hg hm pt hs hpl, fun BF B env σ F H sr => Ret.bnd (R := RA X.K) (R' := RJ X.K) (rt _ _ _ _ _ _ sr) (fun _ _ _ _ _ _ h => h) sr.inn (T' := fun vs H1 R => ∃ a b xs ys, vs = [.ref a, .ref b] ∧ SqL X.K H1 a xs ∧ SqL X.K H1 b ys ∧ R (Itz X.K a b) H1) fun ds vs F1 H1 _ st rd => ?_⟩
  unfold oZip
  split
  · cases rd with
    | cons r1 r2 =>
      cases r2 with
      | cons r2 r3 =>
        cases r3
        cases r1 with
        | lst ha hs' =>
          cases r2 with
          | lst hb hs2' => exact ret_of st.inn (fun Q q => ⟨_, _, _, _, rfl, st.inn.seq ha, st.inn.seq hb, q⟩) (jw_zip ha hs' hb hs2')
  · trivial

/-! ### targets -/
abbrev BX := D → Env → Option Env
def bName (i : Nat) : BX := fun d env => some (env.set i (.val d))
def setAll : List Nat → List D → Env → Option Env
  | [], [], env => some env
  | i :: is, d :: ds, env => setAll is ds (env.set i (.val d))
  | _, _, _ => none
def bTup (is : List Nat) : BX := fun d env => match d with
  | .tuple ds => setAll is ds env
  | _ => none
theorem wipe_get (σ : St) (j : Nat) : ∀ vs : List Nat, (wipe σ vs)[j]? = if j ∈ vs then (σ[j]?).map (fun _ => none) else σ[j]?
  | [] => by simp [wipe]
  | v :: vs => by
    show ((wipe σ vs).set v none)[j]? = _
    by_cases h : v = j
    · subst h
      rw [List.getElem?_set_self', wipe_get σ v vs, if_pos List.mem_cons_self]
      cases e : σ[v]? with
      | none => split <;> rfl
      | some x => split <;> rfl
    · rw [List.getElem?_set_ne h, wipe_get σ j vs]
      by_cases hj : j ∈ vs
      · rw [if_pos hj, if_pos (List.mem_cons_of_mem _ hj)]
      · rw [if_neg hj, if_neg (fun z => (List.mem_cons.mp z).elim (fun z => h z.symm) hj)]
theorem wipe_set {σ : St} {i : Nat} {x : Option V} {vs : List Nat} (h : i ∈ vs) : wipe (σ.set i x) vs = wipe σ vs := by
  refine List.ext_getElem? fun j => ?_
  rw [wipe_get, wipe_get]
  by_cases hj : i = j
  · subst hj
    rw [if_pos h, if_pos h, List.getElem?_set_self']
    cases σ[i]? <;> rfl
  · rw [List.getElem?_set_ne hj]
def wipeE (env : Env) : List Nat → Env
  | [] => env
  | v :: vs => (wipeE env vs).set v .un
theorem SR.wipe {k : KX} {BF B F H : Hp} {env : Env} {σ : St} (s : SR k BF B env σ F H) : ∀ vs : List Nat, SR k BF B (wipeE env vs) (L2.wipe σ vs) F H
  | [] => s
  | v :: vs => (SR.wipe s vs).unset
/-- what a target's reading is worth; ts: the slots that it sets -/
def GB (k : KX) (g : TG) (b : BX) (ts : List Nat) : Prop := ∀ BF B env σ F H v d env', SR k BF B env σ F H → Dp k.1 F v d → b d env = some env' →
  ∀ Q : St → Hp → Prop, (∀ σ', SR k BF B env' σ' F H → (∀ vs : List Nat, (∀ i ∈ ts, i ∈ vs) → L2.wipe σ' vs = L2.wipe σ vs) → Q σ' H) → g v σ H Q
theorem gb_name {k : KX} (i : Nat) : GB k (gName i) (bName i) [i] := by
  intro BF B env σ F H v d env' sr r e Q q
  cases e
  exact q _ (sr.set r) fun vs h => wipe_set (h i List.mem_cons_self)
def gNames : List Nat → TGs
  | [] => gNil
  | i :: is => gCons (gName i) (gNames is)
theorem gb_names {k : KX} {BF B F H : Hp} : ∀ (is : List Nat) (env : Env) (σ : St) (vs : List V) (ds : List D) (env' : Env), SR k BF B env σ F H → DpAll k.1 F vs ds → setAll is ds env = some env' →
    ∀ Q : St → Hp → Prop, (∀ σ', SR k BF B env' σ' F H → (∀ us : List Nat, (∀ i ∈ is, i ∈ us) → L2.wipe σ' us = L2.wipe σ us) → Q σ' H) → gNames is vs σ H Q
  | [], env, σ, vs, ds, env', sr, r, e, Q, q => by
    cases r with
    | nil =>
      cases e
      exact ⟨rfl, q σ sr fun _ _ => rfl⟩
    | cons a b => cases e
  | i :: is, env, σ, vs, ds, env', sr, r, e, Q, q => by
    cases r with
    | nil => cases e
    | @cons v vs d ds a b =>
      refine ⟨v, vs, rfl, ?_⟩
      exact gb_names is _ _ vs ds env' (sr.set a) b e Q fun σ' sr' hw => q σ' sr' fun us h => (hw us fun j hj => h j (List.mem_cons_of_mem _ hj)).trans (wipe_set (h i List.mem_cons_self))
theorem setAll_len : ∀ (is : List Nat) (ds : List D) (env env' : Env), setAll is ds env = some env' → ds.length = is.length
  | [], [], _, _, _ => rfl
  | [], _ :: _, _, _, e => by cases e
  | _ :: _, [], _, _, e => by cases e
  | _ :: is, _ :: ds, _, _, e => congrArg (· + 1) (setAll_len is ds _ _ e)
theorem gb_tup {k : KX} (is : List Nat) (n : Nat) (hn : is.length = n) : GB k (gTup k.1 n (gNames is)) (bTup is) is := by
  intro BF B env σ F H v d env' sr r e Q q
  unfold bTup at e
  split at e
  · rename_i ds
    cases r with
    | @tup a vs _ ha hs =>
      have hl := setAll_len _ _ _ _ e
      exact ⟨a, vs, rfl, same_seqT sr.inn ha, by rw [dps_len hs, hl, hn], gb_names is env σ vs ds env' sr hs e Q q⟩
  · cases e
theorem pgs_names_nil : PGs X [] (gNames []) := pgs_nil
theorem pgs_names_cons {x : Str} {p : Pos} {i : Nat} {es : List Expr} {is : List Nat} (nd : X.N.Nodup) (h2 : PGs X es (gNames is)) (hi : X.N[i]? = some x := by rfl) (hx : Loc X.env.scope x := by first | exact Or.inl rfl | exact Or.inr rfl) (hf : X.fn x = true ∨ X.env.scope.names.lookup x = some .local := by first | exact .inl rfl | exact .inr rfl)
    (hs : (assignEach (.Name x p :: es) X.env).map (·.2) = assign (.Name x p) X.env :: (assignEach es X.env).map (·.2) := by rfl) : PGs X (.Name x p :: es) (gNames (i :: is)) := pgs_cons (pg_name nd hi hx hf) h2 hs

/-! ### list comprehensions -/
def lcGo (b : BX) (c : TX) (f : EX) (env0 : Env) : List D → An (List D)
  | [] => .ok []
  | d :: ds => match b d env0 with
    | none => .bad
    | some env1 => match c env1 with
      | .ok true => (match f env1 with
        | .ok x => (lcGo b c f env0 ds).bnd fun xs => .ok (x :: xs)
        | _ => .bad)
      | .ok false => lcGo b c f env0 ds
      | _ => .bad
def oLc (vs : List Nat) (b : BX) (c : TX) (f : EX) (env : Env) (ds : List D) : An (List D) := if ds.length ≤ 100000 then lcGo b c f (wipeE env vs) ds else .bad
def xLc (src : AX) (vs : List Nat) (b : BX) (c : TX) (f : EX) : AX := fun env => (src env).bnd (oLc vs b c f env)
def tYesX : TX := fun _ => .ok true
abbrev blkX (X : Cx) (scope : Scope) (s : Shared) (H : Hp) (C : Addr) (cl : List (Str × Addr)) (fp : List Addr) : Cx := X.blk s H scope (compEnvC scope cl C X.env) fp
/-- the tests of a comprehension -/
def STs (X : Cx) (W : Wx) (ifs : List Expr) (f : TX) : Prop := ∃ t : TT, PTs X ifs t ∧ ∀ BF B env σ F H, SR (kx X) BF B env σ F H → Ret RB W σ F H (f env) (t σ H)
theorem sts_nil : STs X W [] tYesX := ⟨_, pts_nil, fun _ _ _ _ _ _ sr => ret_of sr.inn (fun _ q => q) rfl⟩
theorem sts_one {tf : TX} (h : ST X W e tf) : STs X W [e] tf := by
  obtain ⟨t, p, r⟩ := h
  exact ⟨t, pts_one p, r⟩
theorem Step.wr {F H F' H' : Hp} {p : Addr} {o : HO} (s : Step F H F' H') (n : H p = none) (f : F' p = none) : Step F H F' (upd H' p o) :=
  ⟨s.fr, fun b u e => by rw [upd_ne (ne_of_none e f)]; exact s.inn b u e, fun b u e g => by
    rw [upd_ne (ne_of_none e n)]
    exact s.pv b u e g⟩
theorem lcGo_len (b : BX) (c : TX) (f : EX) (env0 : Env) : ∀ (ds xs : List D), lcGo b c f env0 ds = .ok xs → xs.length ≤ ds.length
  | [], xs, e => by
    cases e
    exact Nat.le_refl _
  | d :: ds, xs, e => by
    unfold lcGo at e
    split at e
    · cases e
    · split at e
      · split at e
        · cases e2 : lcGo b c f env0 ds with
          | bad =>
            rw [e2] at e
            cases e
          | exc z =>
            rw [e2] at e
            cases e
          | ok ys =>
            rw [e2] at e
            cases e
            have := lcGo_len b c f env0 ds ys e2
            show ys.length + 1 ≤ ds.length + 1
            omega
        · cases e
      · have := lcGo_len b c f env0 ds xs e
        show xs.length ≤ ds.length + 1
        omega
      · cases e
theorem lcGo_exc (b : BX) (c : TX) (f : EX) (env0 : Env) : ∀ (ds : List D) (x : Xc), lcGo b c f env0 ds = .exc x → False
  | [], x, e => by cases e
  | d :: ds, x, e => by
    unfold lcGo at e
    split at e
    · cases e
    · split at e
      · split at e
        · cases e2 : lcGo b c f env0 ds with
          | bad =>
            rw [e2] at e
            cases e
          | exc z => exact lcGo_exc b c f env0 ds z e2
          | ok ys =>
            rw [e2] at e
            cases e
        · cases e
      · exact lcGo_exc b c f env0 ds x e
      · cases e
/-- the reading of a comprehension; kb: the block's -/
theorem lc_ret {kb : KX} {wi : TI} {g : TG} {tt : TT} {te : TE} {vs ts : List Nat} {src : AX} {b : BX} {c : TX} {f : EX} {BF B : Hp} {env : Env} {σ : St} {F H : Hp} (hk : kb.1 = (kx X).1) (hn : noErr env = true) (sr : SR (kx X) BF B env σ F H)
    (gi : Ret (RJ X.K) W σ F H (src env) (wi σ H)) (gg : GB kb g b ts) (hts : ∀ i ∈ ts, i ∈ vs) (gt : ∀ BF B env σ F H, SR kb BF B env σ F H → Ret RB W0 σ F H (c env) (tt σ H)) (ge : ∀ BF B env σ F H, SR kb BF B env σ F H → Ret (RD X.K) W0 σ F H (f env) (te σ H)) :
    Ret (RL X.K) W σ F H (xLc src vs b c f env) (tLc wi g tt te vs σ H) := by
  obtain ⟨kb1, ea⟩ := kb
  dsimp only at hk
  subst hk
  refine Ret.bnd (R := RJ X.K) (R' := RL X.K) gi RL.back sr.inn (T' := fun J H1 Q => ∀ D, H1 D = none → ∃ W : Nat → Nat → Hp → Prop, (∃ m, W 0 m (upd H1 D (.lst []))) ∧ ∀ i m H, W i m H →
    (J.stop i H ∧ Q (.ref D) H) ∨ (J.go i H ∧ ∃ Nx : Hp → Prop, (∀ H', Nx H' → ∃ m', m' < m ∧ W (i + 1) m' H') ∧ ∀ x H', J.yld i H x H' → g x (L2.wipe σ vs) H' fun σ2 H2 => L2.wipe σ2 vs = L2.wipe σ vs ∧ tt σ2 H2 fun b H3 =>
      if b = true then te σ2 H3 fun y H4 => ∃ acc, H4 D = some (.lst acc) ∧ acc.length < sizeLine ∧ Nx (upd H4 D (.lst (acc ++ [y]))) else Nx H3)) fun ds J F1 H1 _ st jw => ?_
  unfold oLc
  split
  · rename_i hz
    cases e : lcGo b c f (wipeE env vs) ds with
    | bad => trivial
    | exc x => exact (lcGo_exc b c f _ ds x e).elim
    | ok total =>
      intro Q q Dl hD
      have srE : SR ((kx X).1, ea) BF B (wipeE env vs) (L2.wipe σ vs) F1 H1 := ((sr.step st).other hn).wipe vs
      refine ⟨fun i m H' => m = ds.length - i ∧ i ≤ ds.length ∧ ∃ F' acc don rst, lcGo b c f (wipeE env vs) (ds.drop i) = .ok rst ∧ don ++ rst = total ∧ don.length ≤ i ∧ Step F1 H1 F' H' ∧ F' Dl = none ∧ H' Dl = some (.lst acc) ∧ DpAll X.K F' acc don,
        ⟨ds.length, by simp, Nat.zero_le _, F1, [], [], total, by simpa using e, rfl, Nat.le_refl _, Step.priv st.inn hD, st.inn.free hD, upd_same, .nil⟩, ?_⟩
      rintro i m H' ⟨rfl, hi, F', acc, don, rst, e1, e2, hdl, st', fd, hd, rd⟩
      have jw' := jw F' H' st'.fr st'.inn i
      by_cases hlt : i < ds.length
      · have hget : ds[i]? = some ds[i] := List.getElem?_eq_getElem hlt
        have hdrop : ds.drop i = ds[i] :: ds.drop (i + 1) := List.drop_eq_getElem_cons hlt
        rw [hdrop] at e1
        unfold lcGo at e1
        split at e1
        · cases e1
        · rename_i env1 eb
          obtain ⟨go, yl⟩ := jw'.1 _ hget
          refine .inr ⟨go, fun H'' => ∃ F' acc don rst, lcGo b c f (wipeE env vs) (ds.drop (i + 1)) = .ok rst ∧ don ++ rst = total ∧ don.length ≤ i + 1 ∧ Step F1 H1 F' H'' ∧ F' Dl = none ∧ H'' Dl = some (.lst acc) ∧ DpAll X.K F' acc don, fun H'' h => ⟨ds.length - (i + 1), by omega, rfl, hlt, h⟩, fun x H2 y => ?_⟩
          obtain ⟨F2, st2, r2⟩ := yl x H2 y
          obtain ⟨fd2, hd2⟩ := st2.pv _ _ hd fd
          refine gg BF B _ _ F2 H2 x ds[i] env1 (srE.step (st'.trans st2)) r2 eb _ fun σ2 sr2 hw => ⟨?_, ?_⟩
          · rw [hw vs hts]
            refine List.ext_getElem? fun j => ?_
            rw [wipe_get, wipe_get]
            by_cases hj : j ∈ vs
            · rw [if_pos hj, if_pos hj]
              cases σ[j]? <;> rfl
            · rw [if_neg hj]
          · have qt := gt BF B env1 σ2 F2 H2 sr2
            split at e1
            · rename_i et
              rw [et] at qt
              refine qt _ fun bv F3 H3 st3 eb3 => ?_
              have eb3 : bv = true := eb3
              subst eb3
              rw [if_pos rfl]
              have qe := ge BF B env1 σ2 F3 H3 (sr2.step st3)
              split at e1
              · rename_i xv ex
                rw [ex] at qe
                refine qe _ fun yv F4 H4 st4 r4 => ?_
                have stA := (st'.trans st2).trans (st3.trans st4)
                obtain ⟨fd4, hd4⟩ := (st2.trans (st3.trans st4)).pv _ _ hd fd
                cases e3 : lcGo b c f (wipeE env vs) (ds.drop (i + 1)) with
                | bad =>
                  rw [e3] at e1
                  cases e1
                | exc z =>
                  rw [e3] at e1
                  cases e1
                | ok rst' =>
                  rw [e3] at e1
                  cases e1
                  refine ⟨acc, hd4, ?_, F4, acc ++ [yv], don ++ [xv], rst', e3.symm ▸ rfl, ?_, ?_, stA.wr hD fd4, fd4, upd_same, dps_app (dps_mono (st2.trans (st3.trans st4)).fr rd) (.cons r4 .nil)⟩
                  · rw [dps_len rd]
                    exact Nat.lt_of_lt_of_le (by omega : don.length < 100001) (by decide)
                  · rw [List.append_assoc]
                    exact e2
                  · rw [List.length_append]
                    show don.length + 1 ≤ i + 1
                    omega
              · cases e1
            · rename_i et
              rw [et] at qt
              refine qt _ fun bv F3 H3 st3 eb3 => ?_
              have eb3 : bv = false := eb3
              subst eb3
              rw [if_neg Bool.false_ne_true]
              obtain ⟨fd3, hd3⟩ := (st2.trans st3).pv _ _ hd fd
              exact ⟨F3, acc, don, rst, e1, e2, by omega, (st'.trans st2).trans st3, fd3, hd3, dps_mono (st2.trans st3).fr rd⟩
            · cases e1
      · have ei : i = ds.length := by omega
        subst ei
        rw [List.drop_length] at e1
        cases e1
        rw [List.append_nil] at e2
        subst e2
        exact .inl ⟨jw'.2 (Nat.le_refl _), q _ F' H' st' ⟨Dl, acc, rfl, hD, fd, hd, rd⟩⟩
  · trivial
def nErr (f : AX) : AX := fun env => if noErr env = true then f env else .bad
theorem sl_lc {elt tg iter : Expr} {ifs : List Expr} {scope : Scope} {own : List (Str × Nat)} {gt : TG} {src : AX} {bx : BX} {ts : List Nat} {c : TX} {f : EX} (hc : X.calm = true) (nd : X.N.Nodup) (hi : SI X W tg iter src) (ok : BlkOk X.N X.env.scope scope own)
    (hg : ∀ s H C cl fp, PG (blkX X scope s H C cl fp) tg gt) (gb : GB (X.K, 0) gt bx ts) (hts : ∀ i ∈ ts, i ∈ own.map (·.2)) (ht : ∀ s H C cl fp, STs (blkX X scope s H C cl fp) W0 ifs c) (he : ∀ s H C cl fp, SE (blkX X scope s H C cl fp) W0 elt f)
    (hs : ∀ x, foldedSetIterable iter X.env x = pure x := by intro _; rfl) : SL X W (.ListComp elt [⟨tg, iter, ifs, 0⟩] scope pos) (nErr (xLc src (own.map (·.2)) bx c f)) := by
  obtain ⟨wi, pi, ri⟩ := hi
  refine ⟨tLc wi gt (fun σ H Q => ∀ s H' C cl fp, ∃ t, PTs (blkX X scope s H' C cl fp) ifs t ∧ t σ H Q) (fun σ H Q => ∀ s H' C cl fp, ∃ t, PE (blkX X scope s H' C cl fp) elt t ∧ t σ H Q) (own.map (·.2)),
    pe_lc hc nd pi ok hg (fun s H C cl fp => ⟨fun pins s' σ H' Q I h => ?_⟩) (fun s H C cl fp => ⟨fun pins s' σ H' Q I h => ?_⟩) hs, fun BF B env σ F H sr => ?_⟩
  · obtain ⟨t, pt, q⟩ := h s H C cl fp
    exact pt.run pins s' σ H' Q I q
  · obtain ⟨t, pt, q⟩ := h s H C cl fp
    exact pt.run pins s' σ H' Q I q
  · unfold nErr
    split
    · rename_i hn
      refine lc_ret (kb := (X.K, 0)) rfl hn sr (ri _ _ _ _ _ _ sr) gb hts (fun BF B env σ F H sr => ?_) (fun BF B env σ F H sr => ?_)
      · cases e1 : c env with
        | bad => trivial
        | ok z =>
          intro Q q s H' C cl fp
          obtain ⟨t, pt, rt⟩ := ht s H' C cl fp
          have qq := rt BF B env σ F H sr
          rw [e1] at qq
          exact ⟨t, pt, qq Q q⟩
        | exc z =>
          intro Q q s H' C cl fp
          obtain ⟨t, pt, rt⟩ := ht s H' C cl fp
          have qq := rt BF B env σ F H sr
          rw [e1] at qq
          exact ⟨t, pt, qq Q q⟩
      · cases e1 : f env with
        | bad => trivial
        | ok z =>
          intro Q q s H' C cl fp
          obtain ⟨t, pt, rt⟩ := he s H' C cl fp
          have qq := rt BF B env σ F H sr
          rw [e1] at qq
          exact ⟨t, pt, qq Q q⟩
        | exc z =>
          intro Q q s H' C cl fp
          obtain ⟨t, pt, rt⟩ := he s H' C cl fp
          have qq := rt BF B env σ F H sr
          rw [e1] at qq
          exact ⟨t, pt, qq Q q⟩
    · trivial
end
end Mg
namespace Mg
open PySem PySem.Spec PyProof.Rows L2
/-! ### denotations of statements -/
def An.thn {α : Type} (a : An α) (env : Env) (k : α → Out) : Out := match a with
  | .bad => .bad
  | .ok x => k x
  | .exc c => .exc c env
theorem thn_ok {α : Type} {x : α} {env : Env} {k : α → Out} : (An.ok x).thn env k = k x := rfl
theorem thn_exc {α : Type} {c : Xc} {env : Env} {k : α → Out} : (An.exc c : An α).thn env k = .exc c env := rfl
theorem thn_bad {α : Type} {env : Env} {k : α → Out} : (An.bad : An α).thn env k = .bad := rfl
def sSkip : SX := fun env => .nx env
def Out.thn (o : Out) (k : SX) : Out := match o with
  | .nx env => k env
  | o => o
def sSeq (s t : SX) : SX := fun env => (s env).thn t
theorem seq_nx {env : Env} {t : SX} : (Out.nx env).thn t = t env := rfl
theorem seq_ret {d : D} {t : SX} : (Out.ret d).thn t = .ret d := rfl
theorem seq_ct {env : Env} {t : SX} : (Out.ct env).thn t = .ct env := rfl
theorem seq_exc {c : Xc} {env : Env} {t : SX} : (Out.exc c env).thn t = .exc c env := rfl
def sIf (c : TX) (s t : SX) : SX := fun env => (c env).thn env fun b => if b = true then s env else t env
def sAsg (b : BX) (f : EX) : SX := fun env => (f env).thn env fun d => match b d env with
  | some env' => .nx env'
  | none => .bad
def sSet (i : Nat) (f : EX) : SX := fun env => (f env).thn env fun d => .nx (env.set i (.val d))
/-- a new list of one's own -/
def sOwn (i : Nat) (f : AX) : SX := fun env => (f env).thn env fun ds => .nx (env.set i (.own ds))
/-- a, b = x, y -/
def sPar (i j : Nat) (f g : EX) : SX := fun env => (f env).thn env fun d => (g env).thn env fun e => .nx ((env.set i (.val d)).set j (.val e))
def sRet (f : EX) : SX := fun env => (f env).thn env fun d => .ret d
def sCt : SX := fun env => .ct env
def sDrop (f : EX) : SX := fun env => (f env).thn env fun _ => .nx env
def sRaise (c : Xc) : SX := fun env => .exc c env
def sApp (i : Nat) (f : EX) : SX := fun env => match env[i]? with
  | some (.own ds) => (f env).thn env fun d => if ds.length ≤ 100000 then .nx (env.set i (.own (ds ++ [d]))) else .bad
  | _ => .bad
/-- x[k] = e, x a list of the def's own -/
def oSetI (i : Nat) (ds : List D) (d : D) (env : Env) : D → Out
  | .int k => (match ixN ds.length k with
    | some j => .nx (env.set i (.own (ds.set j d)))
    | none => .bad)
  | _ => .bad
def sSetI (i : Nat) (fk f : EX) : SX := fun env => match env[i]? with
  | some (.own ds) => (f env).thn env fun d => (fk env).thn env (oSetI i ds d env)
  | _ => .bad
/-- an own list is frozen (no statement of the text) -/
def sFrz (i : Nat) (s : SX) : SX := fun env => match env[i]? with
  | some (.own ds) => s (env.set i (.val (.list ds)))
  | _ => .bad
def sLoop (b : BX) (body : SX) : List D → SX
  | [], env => .nx env
  | d :: ds, env => match b d env with
    | none => .bad
    | some env1 => match body env1 with
      | .nx env2 => sLoop b body ds env2
      | .ct env2 => sLoop b body ds env2
      | .ret d => .ret d
      | .exc c env2 => .exc c env2
      | .bad => .bad
def sFor (src : AX) (b : BX) (body : SX) : SX := fun env => (src env).thn env fun ds => sLoop b body ds env
/-- behind an except suite: the name of the error is gone -/
def Out.fin (i : Nat) : Out → Out
  | .nx env => if noErr (env.set i .un) = true then .nx (env.set i .un) else .bad
  | .ct env => if noErr (env.set i .un) = true then .ct (env.set i .un) else .bad
  | .ret d => .ret d
  | _ => .bad
def Out.fin0 : Out → Out
  | .nx env => if noErr env = true then .nx env else .bad
  | .ct env => if noErr env = true then .ct env else .bad
  | .ret d => .ret d
  | _ => .bad
def sTry (i : Nat) (body : SX) (h : Xc → SX) : SX := fun env => if noErr env = true then (match body env with
  | .exc c env1 => if noErr env1 = true then (h c (env1.set i .err)).fin i else .bad
  | .nx env1 => if noErr env1 = true then .nx env1 else .bad
  | .ct env1 => if noErr env1 = true then .ct env1 else .bad
  | .ret d => .ret d
  | .bad => .bad) else .bad
def sTry0 (body : SX) (h : Xc → SX) : SX := fun env => if noErr env = true then (match body env with
  | .exc c env1 => if noErr env1 = true then (h c env1).fin0 else .bad
  | .nx env1 => if noErr env1 = true then .nx env1 else .bad
  | .ct env1 => if noErr env1 = true then .ct env1 else .bad
  | .ret d => .ret d
  | .bad => .bad) else .bad

section
variable {X : Cx} {W : Wx} {e : Expr} {es : List Expr} {f g : EX} {fs : AX} {pos : Pos} {st : Stmt} {sts : List Stmt} {s t : SX}
/-- from an expression's answer on -/
theorem Ret.stm {α β : Type} {R : Hp → Hp → Hp → β → α → Prop} {k : KX} {BF B : Hp} {env : Env} {σ : St} {F H : Hp} {a : An α} {T : (β → Hp → Prop) → Prop} {K : α → Out} {E : Ends} {T' : β → Hp → Prop} (ga : Ret R W σ F H a T) (sr : SR k BF B env σ F H)
    (hp : Post k W BF B E F (a.thn env K)) (hk : ∀ d v F1 H1, a = .ok d → Step F H F1 H1 → R H F1 H1 v d → Post k W BF B E F (K d) → T' v H1) : T T' := by
  cases a with
  | bad => exact hp.elim
  | exc c => exact ga _ fun F' H' st => hp σ F' H' st.fr (sr.step st)
  | ok d => exact ga _ fun v F' H' st r => hk d v F' H' rfl st r hp
theorem Post.mono {k : KX} {BF B F F' : Hp} {E : Ends} {o : Out} (h : Post k W BF B E F o) (s : Same F F') : Post k W BF B E F' o := by
  cases o with
  | bad => exact h
  | nx env => exact fun σ F1 H1 s1 => h σ F1 H1 (s.trans s1)
  | ct env => exact fun σ F1 H1 s1 => h σ F1 H1 (s.trans s1)
  | ret d => exact h
  | exc c env => exact fun σ F1 H1 s1 => h σ F1 H1 (s.trans s1)
theorem ss_nil : SSs X W [] sSkip := ⟨_, pss_nil, fun BF B env σ F H E sr h => h σ F H (Same.refl F) sr⟩
theorem ss_cons (h1 : SS X W st s) (h2 : SSs X W sts t) : SSs X W (st :: sts) (sSeq s t) := by
  obtain ⟨t1, p1, r1⟩ := h1
  obtain ⟨t2, p2, r2⟩ := h2
  refine ⟨_, pss_cons p1 p2, fun BF B env σ F H E sr h => ?_⟩
  refine r1 BF B env σ F H { E with nx := t2 E } sr ?_
  unfold sSeq at h
  cases e : s env with
  | bad =>
    rw [e] at h
    exact h
  | nx env1 =>
    rw [e] at h
    exact fun σ1 F1 H1 s1 sr1 => r2 BF B env1 σ1 F1 H1 E sr1 (Post.mono h s1)
  | ct env1 =>
    rw [e] at h
    exact h
  | ret d =>
    rw [e] at h
    exact h
  | exc c env1 =>
    rw [e] at h
    exact h
theorem ss_one (h1 : SS X W st s) : SSs X W [st] s := by
  obtain ⟨t1, p1, r1⟩ := h1
  exact ⟨_, pss_one p1, r1⟩
theorem ss_frz (i : Nat) (h : SSs X W sts s) : SSs X W sts (sFrz i s) := by
  obtain ⟨t1, p1, r1⟩ := h
  refine ⟨_, p1, fun BF B env σ F H E sr h => ?_⟩
  unfold sFrz at h
  split at h
  · rename_i ds e
    obtain ⟨F', s', sr'⟩ := sr.frz e
    exact r1 _ _ _ _ _ _ E sr' (Post.mono h s')
  · exact h.elim
theorem ss_if {c : Expr} {a b : List Stmt} {tf : TX} (hc : ST X W c tf) (ha : SSs X W a s) (hb : SSs X W b t) : SS X W (.If c a b pos) (sIf tf s t) := by
  obtain ⟨tc, pc, rc⟩ := hc
  obtain ⟨ta, pa, ra⟩ := ha
  obtain ⟨tb, pb, rb⟩ := hb
  refine ⟨_, ps_if pc pa pb, fun BF B env σ F H E sr h => ?_⟩
  refine Ret.stm (T' := fun b H1 => if b = true then ta E σ H1 else tb E σ H1) (rc _ _ _ _ _ _ sr) sr h fun d v F1 H1 _ st r hp => ?_
  have r : v = d := r
  subst r
  cases v with
  | true => exact ra _ _ _ _ _ _ E (sr.step st) (Post.mono hp st.fr)
  | false => exact rb _ _ _ _ _ _ E (sr.step st) (Post.mono hp st.fr)
theorem ss_set (i : Nat) {x : Str} {pos' : Pos} (nd : X.N.Nodup) (he : SE X W e f) (hi : X.N[i]? = some x := by rfl) (hx : Loc X.env.scope x := by first | exact Or.inl rfl | exact Or.inr rfl) (hs : swapsWith e (some (.Name x pos')) pos.line X.env = pure false := by rfl) (hf : X.fn x = true ∨ X.env.scope.names.lookup x = some .local := by first | exact .inl rfl | exact .inr rfl) : SS X W (.Assign [.Name x pos'] e pos) (sSet i f) := by
  obtain ⟨t, p, r⟩ := he
  exact ⟨_, ps_set nd hi hx p hs hf, fun BF B env σ F H E sr h => Ret.stm (T' := fun x H1 => E.nx (σ.set i (some x)) H1) (r _ _ _ _ _ _ sr) sr h fun d v F1 H1 _ st rd hp => hp _ F1 H1 st.fr ((sr.step st).set rd)⟩
theorem ss_own (i : Nat) {x : Str} {pos' : Pos} (nd : X.N.Nodup) (he : SL X W e fs) (hi : X.N[i]? = some x := by rfl) (hx : Loc X.env.scope x := by first | exact Or.inl rfl | exact Or.inr rfl) (hs : swapsWith e (some (.Name x pos')) pos.line X.env = pure false := by rfl) (hf : X.fn x = true ∨ X.env.scope.names.lookup x = some .local := by first | exact .inl rfl | exact .inr rfl) : SS X W (.Assign [.Name x pos'] e pos) (sOwn i fs) := by
  obtain ⟨t, p, r⟩ := he
  refine ⟨_, ps_set nd hi hx p hs hf, fun BF B env σ F H E sr h => Ret.stm (T' := fun x H1 => E.nx (σ.set i (some x)) H1) (r _ _ _ _ _ _ sr) sr h fun ds v F1 H1 _ st rd hp => ?_⟩
  obtain ⟨p, vs, rfl, h1, h2, h3, h4⟩ := rd
  exact hp _ F1 H1 st.fr (sr.setOwn st h1 h2 h3 h4)
/-- name = [..for..] on one line -/
theorem ss_lc (i : Nat) {y : Str} {py spos : Pos} {elt tg iter : Expr} {ifs : List Expr} {scope : Scope} {own : List (Str × Nat)} {gt : TG} {src : AX} {bx : BX} {ts : List Nat} {c : TX} (nd : X.N.Nodup) (hc : X.calm = true) (hi : SI X W tg iter src) (ok : BlkOk X.N X.env.scope scope own)
    (hg : ∀ s H C cl fp, PG (blkX X scope s H C cl fp) tg gt) (gb : GB (X.K, 0) gt bx ts) (hts : ∀ i ∈ ts, i ∈ own.map (·.2)) (ht : ∀ s H C cl fp, STs (blkX X scope s H C cl fp) W0 ifs c) (he : ∀ s H C cl fp, SE (blkX X scope s H C cl fp) W0 elt f)
    (hyl : X.env.scope.names.lookup y = some .local := by rfl) (hsw : swapsWith (.ListComp elt [⟨tg, iter, ifs, 0⟩] scope pos) (some (.Name y py)) spos.line X.env = pure true := by exact sw_true rfl rfl rfl (by decide +kernel)) (hy : X.N[i]? = some y := by rfl)
    (hs : ∀ x, foldedSetIterable iter X.env x = pure x := by intro _; rfl) : SS X W (.Assign [.Name y py] (.ListComp elt [⟨tg, iter, ifs, 0⟩] scope pos) spos) (sOwn i (nErr (xLc src (own.map (·.2)) bx c f))) := by
  obtain ⟨wi, pi, ri⟩ := hi
  refine ⟨tAsg (tLc wi gt (fun σ H Q => ∀ s H' C cl fp, ∃ t, PTs (blkX X scope s H' C cl fp) ifs t ∧ t σ H Q) (fun σ H Q => ∀ s H' C cl fp, ∃ t, PE (blkX X scope s H' C cl fp) elt t ∧ t σ H Q) (own.map (·.2))) (gName i),
    ps_setLc hc nd hy hyl hsw pi ok hg (fun s H C cl fp => ⟨fun pins s' σ H' Q I h => ?_⟩) (fun s H C cl fp => ⟨fun pins s' σ H' Q I h => ?_⟩) hs, fun BF B env σ F H E sr h => ?_⟩
  · obtain ⟨t, pt, q⟩ := h s H C cl fp
    exact pt.run pins s' σ H' Q I q
  · obtain ⟨t, pt, q⟩ := h s H C cl fp
    exact pt.run pins s' σ H' Q I q
  · have rr : Ret (RL X.K) W σ F H (nErr (xLc src (own.map (·.2)) bx c f) env) (tLc wi gt (fun σ H Q => ∀ s H' C cl fp, ∃ t, PTs (blkX X scope s H' C cl fp) ifs t ∧ t σ H Q) (fun σ H Q => ∀ s H' C cl fp, ∃ t, PE (blkX X scope s H' C cl fp) elt t ∧ t σ H Q) (own.map (·.2)) σ H) := by
      unfold nErr
      split
      · rename_i hn
        refine lc_ret (kb := (X.K, 0)) rfl hn sr (ri _ _ _ _ _ _ sr) gb hts (fun BF B env σ F H sr => ?_) (fun BF B env σ F H sr => ?_)
        · cases e1 : c env with
          | bad => trivial
          | ok z =>
            intro Q q s H' C cl fp
            obtain ⟨t, pt, rt⟩ := ht s H' C cl fp
            have qq := rt BF B env σ F H sr
            rw [e1] at qq
            exact ⟨t, pt, qq Q q⟩
          | exc z =>
            intro Q q s H' C cl fp
            obtain ⟨t, pt, rt⟩ := ht s H' C cl fp
            have qq := rt BF B env σ F H sr
            rw [e1] at qq
            exact ⟨t, pt, qq Q q⟩
        · cases e1 : f env with
          | bad => trivial
          | ok z =>
            intro Q q s H' C cl fp
            obtain ⟨t, pt, rt⟩ := he s H' C cl fp
            have qq := rt BF B env σ F H sr
            rw [e1] at qq
            exact ⟨t, pt, qq Q q⟩
          | exc z =>
            intro Q q s H' C cl fp
            obtain ⟨t, pt, rt⟩ := he s H' C cl fp
            have qq := rt BF B env σ F H sr
            rw [e1] at qq
            exact ⟨t, pt, qq Q q⟩
      · trivial
    refine Ret.stm (T' := fun x H1 => E.nx (σ.set i (some x)) H1) rr sr h fun ds v F1 H1 _ st rd hp => ?_
    obtain ⟨p, vs, rfl, h1, h2, h3, h4⟩ := rd
    exact hp _ F1 H1 st.fr (sr.setOwn st h1 h2 h3 h4)
/-- a target of names = e -/
theorem ss_asg {tg : Expr} {gt : TG} {b : BX} {ts : List Nat} (he : SE X W e f) (hg : PG X tg gt) (gb : GB (kx X) gt b ts) (hs : swapsWithSole [tg] e pos.line X.env = pure false := by rfl) (hw : swappedStores [tg] e X.env = pure none := by rfl)
    (h1 : (assignEach [tg] X.env).map (·.2) = [assign tg X.env] := by rfl) : SS X W (.Assign [tg] e pos) (sAsg b f) := by
  obtain ⟨t, p, r⟩ := he
  refine ⟨_, ps_asg p hg hs hw h1, fun BF B env σ F H E sr h => Ret.stm (T' := fun x H1 => gt x σ H1 E.nx) (r _ _ _ _ _ _ sr) sr h fun d v F1 H1 _ st rd hp => ?_⟩
  cases eb : b d env with
  | none =>
    rw [eb] at hp
    exact hp.elim
  | some env1 =>
    rw [eb] at hp
    exact gb BF B env σ F1 H1 v d env1 (sr.step st) rd eb _ fun σ1 sr1 _ => hp σ1 F1 H1 st.fr sr1
theorem ss_par (i j : Nat) {x y : Str} {a b : Expr} {px py pt : Pos} {kt k2 pt2} (nd : X.N.Nodup) (hc : X.calm = true) (ha : SE X W a f) (hb : SE X W b g) (hij : i ≠ j) (hi : X.N[i]? = some x := by rfl) (hj : X.N[j]? = some y := by rfl)
    (hx : X.env.scope.names.lookup x = some .local := by rfl) (hy : X.env.scope.names.lookup y = some .local := by rfl) (hw : swappedStores [.Tuple [.Name x px, .Name y py] kt pt] (.Tuple [a, b] k2 pt2) X.env = pure (some [x, y]) := by rfl)
    (hs : swapsWithSole [.Tuple [.Name x px, .Name y py] kt pt] (.Tuple [a, b] k2 pt2) pos.line X.env = pure false := by rfl) (h1 : starEach [a, b] X.env = (false, eval a X.env) :: starEach [b] X.env := by rfl) (h2 : starEach [b] X.env = (false, eval b X.env) :: starEach [] X.env := by rfl) :
    SS X W (.Assign [.Tuple [.Name x px, .Name y py] kt pt] (.Tuple [a, b] k2 pt2) pos) (sPar i j f g) := by
  obtain ⟨ta, pa, ra⟩ := ha
  obtain ⟨tb, pb, rb⟩ := hb
  refine ⟨_, ps_par hc nd hi hj hij hx hy (pa_cons pa (pa_cons pb pa_nil h2) h1) hw hs, fun BF B env σ F H E sr h => ?_⟩
  refine Ret.stm (T' := fun x H1 => tCons tb tNil σ H1 fun xs H2 => ∃ v w, x :: xs = [v, w] ∧ E.nx ((σ.set i (some v)).set j (some w)) H2) (ra _ _ _ _ _ _ sr) sr h fun d v F1 H1 _ st rd hp => ?_
  refine Ret.stm (F := F1) (T' := fun y H2 => ∃ v' w, v :: [y] = [v', w] ∧ E.nx ((σ.set i (some v')).set j (some w)) H2) (rb _ _ _ _ _ _ (sr.step st)) (sr.step st) (Post.mono hp st.fr) fun d2 v2 F2 H2 _ st2 rd2 hp2 => ?_
  exact ⟨v, v2, rfl, hp2 _ F2 H2 st2.fr ((((sr.step st).step st2).set (dp_mono st2.fr rd)).set rd2)⟩
theorem ss_ret (he : SE X W e f) : SS X W (.Return (some e) pos) (sRet f) := by
  obtain ⟨t, p, r⟩ := he
  exact ⟨_, ps_ret p, fun BF B env σ F H E sr h => Ret.stm (T' := E.rt) (r _ _ _ _ _ _ sr) sr h fun d v F1 H1 _ st rd hp => hp v F1 H1 (sr.stp.trans st) rd⟩
theorem ss_ct : SS X W (.Continue pos) sCt := ⟨_, ps_continue, fun BF B env σ F H E sr h => h σ F H (Same.refl F) sr⟩
theorem ss_drop (he : SE X W e f) (hs : swapsWith e none pos.line X.env = pure false := by rfl) : SS X W (.Expr e pos) (sDrop f) := by
  obtain ⟨t, p, r⟩ := he
  exact ⟨_, ps_expr p hs, fun BF B env σ F H E sr h => Ret.stm (T' := fun _ H1 => E.nx σ H1) (r _ _ _ _ _ _ sr) sr h fun d v F1 H1 _ st rd hp => hp σ F1 H1 st.fr (sr.step st)⟩
/-- what the class of a refusal must be -/
structure XcOk (K : PySem.W.Frag) (mg : Str → Option Value) (x : Str) (C : Addr) : Prop where
  g : mg x = some (.ref C)
  x : PySem.W.excIn K C [.type "ValueError", .type "Exception", .type "BaseException", .type "object"] "ValueError.__new__" = true
  k : PySem.W.keepIn K (.ref C) = true
  b : PySem.W.subIn K (.ref C) (.type "BaseException") = some true
  t : PySem.W.typeIn K (.ref C) = some (.type "type")
theorem ss_raise {x m : Str} {j : Nat} {p p2 cpos : Pos} {cl : Xc → Addr} (c : Xc) (hx : XcOk X.K X.mg x (cl c)) (hc : X.calm = true) (tk : Takes X (wx cl W)) (hg : Gl X x := by rfl) (hdb : (x == ("__debug__" : Str)) = false := by decide) : SS X W (.Raise (some (.Call (.Name x p) [.Constant (.str m) j p2] [] cpos)) none pos) (sRaise c) :=
  ⟨_, ps_raise hc tk (pmk_own PySem.F.excBase_ValueError hx.x hx.g hx.k (raises_own hx.b hx.t) hg hdb), fun BF B env σ F H E sr h => ⟨c, rfl, rfl, h σ F H (Same.refl F) sr⟩⟩
theorem ss_app (i : Nat) {x : Str} {p apos cpos : Pos} (he : SE X W e f) (hN : X.N[i]? = some x := by rfl) (hv : Vis X.env.scope x := by first | exact Or.inl rfl | exact Or.inr (Or.inl rfl) | exact Or.inr (Or.inr rfl)) (hd : (x == ("__debug__" : Str)) = false := by decide) (hcd : (x == ("__classdict__" : Str)) = false := by decide)
    (hbase : attributeBase (.Name x p) "append" X.env (eval (.Name x p) X.env) = eval (.Name x p) X.env := by rfl)
    (hfew : ((backTo cpos (starEach [e] X.env)).all (fun x => !x.1) && (backToKw cpos (keywordEach [] X.env)).all (fun x => x.1.isSome) && decide (([e] : List Expr).length + ([] : List Keyword).length + (if ([] : List Keyword).isEmpty then 0 else 1) < 30)) = true := by rfl)
    (hline : (apos.endLine == cpos.line) = true := by rfl) (hs : starEach [e] X.env = (false, eval e X.env) :: starEach [] X.env := by rfl) (hplain : (backTo cpos (starEach [] X.env)).any (·.1) = false := by rfl)
    (hsw : swapsWith (.Call (.Attribute (.Name x p) "append" apos) [e] [] cpos) none pos.line X.env = pure false := by rfl) : SS X W (.Expr (.Call (.Attribute (.Name x p) "append" apos) [e] [] cpos) pos) (sApp i f) := by
  obtain ⟨t, pt, r⟩ := he
  refine ⟨_, ps_expr (pe_bm PySem.F.plainAttrs_list PySem.F.slot_list_append PySem.F.type_list_append mt_append (pe_var hN hv hd hcd) (pa_cons pt pa_nil hs) hbase hfew hline hs hplain) hsw, fun BF B env σ F H E sr h => ?_⟩
  unfold sApp at h
  split at h
  · rename_i ds e0
    obtain ⟨a, vs, e1, bn, fn, e2, rv⟩ := sr.own e0
    refine ⟨_, e1, .inl ⟨rfl, _, SqL.of e2⟩, ?_⟩
    refine Ret.stm (T' := fun y H2 => tNil σ H2 fun xs H2 => rAppend (.ref a) (y :: xs) H2 fun _ H1 => E.nx σ H1) (r _ _ _ _ _ _ sr) sr h fun d v F1 H1 _ st rd hp => ?_
    split at hp
    · rename_i hz
      refine ⟨a, vs, v, rfl, rfl, (st.pv _ _ e2 fn).2, ?_, hp σ F1 _ st.fr ((sr.step st).mut e0 e1 (dps_app (dps_mono st.fr rv) (.cons rd .nil)))⟩
      rw [dps_len rv]
      exact Nat.lt_of_le_of_lt hz (by decide)
    · exact hp.elim
  · exact h.elim
theorem ss_setI (i : Nat) {x : Str} {p tpos : Pos} {ek : Expr} (he : SE X W e f) (hk : SE X W ek g) (hN : X.N[i]? = some x := by rfl) (hv : Vis X.env.scope x := by first | exact Or.inl rfl | exact Or.inr (Or.inl rfl) | exact Or.inr (Or.inr rfl)) (hd : (x == ("__debug__" : Str)) = false := by decide) (hcd : (x == ("__classdict__" : Str)) = false := by decide)
    (ha : ∀ v, assign (.Subscript (.Name x p) ek tpos) X.env v = (do
      let ov ← holding [v] (eval (.Name x p) X.env)
      let iv ← holding [v, ov] (eval ek X.env)
      standAt tpos
      holding [v, ov, iv] (setItem ov iv v)
      release [v, ov, iv] []) := by intro _; rfl) (hs : swapsWithSole [.Subscript (.Name x p) ek tpos] e pos.line X.env = pure false := by rfl) (hw : swappedStores [.Subscript (.Name x p) ek tpos] e X.env = pure none := by rfl)
    (h1 : (assignEach [.Subscript (.Name x p) ek tpos] X.env).map (·.2) = [assign (.Subscript (.Name x p) ek tpos) X.env] := by rfl) : SS X W (.Assign [.Subscript (.Name x p) ek tpos] e pos) (sSetI i g f) := by
  obtain ⟨t, pt, r⟩ := he
  obtain ⟨tk, pk, rk⟩ := hk
  refine ⟨_, ps_asg pt (pg_sub (pe_var hN hv hd hcd) pk set_list ha) hs hw h1, fun BF B env σ F H E sr h => ?_⟩
  unfold sSetI at h
  split at h
  · rename_i ds e0
    refine Ret.stm (T' := fun v H1 => gSub (tVar i) tk rSetL v σ H1 E.nx) (r _ _ _ _ _ _ sr) sr h fun d v F1 H1 _ st rd hp => ?_
    have sr1 := sr.step st
    obtain ⟨a, vs, e1, bn, fn, e2, rv⟩ := sr1.own e0
    refine ⟨_, e1, ?_⟩
    refine Ret.stm (F := F1) (T' := fun kv H2 => rSetL (.ref a) kv v H2 fun H3 => E.nx σ H3) (rk _ _ _ _ _ _ sr1) sr1 (Post.mono hp st.fr) fun kd kv F2 H2 _ st2 rd2 hp2 => ?_
    cases rd2 with
    | int k =>
      have hp2 : Post (kx X) W BF B E F1 (match ixN ds.length k with | some j => .nx (env.set i (.own (ds.set j d))) | none => .bad) := hp2
      cases e3 : ixN ds.length k with
      | none =>
        rw [e3] at hp2
        exact hp2.elim
      | some j =>
        rw [e3] at hp2
        refine ⟨a, vs, k, j, rfl, rfl, (st2.pv _ _ e2 fn).2, by rw [dps_len rv]; exact e3, ?_⟩
        exact hp2 σ F2 _ st2.fr ((sr1.step st2).mut e0 e1 (dps_set (dp_mono st2.fr rd) j (dps_mono st2.fr rv)))
    | _ => exact hp2.elim
  · exact h.elim
/-- for -/
theorem ss_for {tg iter : Expr} {gt : TG} {b : BX} {ts : List Nat} {src : AX} {body : List Stmt} (hp : PassesOwn (model X.prog X.w) X.A X.env X.xe) (hc : X.calm = true) (hi : SI X W tg iter src) (hg : PG X tg gt) (gb : GB (kx X) gt b ts) (hb : SSs X W body s)
    (hs : ∀ x, foldedSetIterable iter X.env x = pure x := by intro _; rfl) : SS X W (.For tg iter body [] pos) (sFor src b s) := by
  obtain ⟨wi, pi, ri⟩ := hi
  obtain ⟨tb, pb, rb⟩ := hb
  refine ⟨_, ps_for hp hc pi hg pb hs, fun BF B env σ F H E sr h => ?_⟩
  refine Ret.stm (T' := fun J H1 => ∃ Wv : Nat → Nat → St → Hp → Prop, (∃ m, Wv 0 m σ H1) ∧ ∀ i m σ H, Wv i m σ H →
    (J.stop i H ∧ E.nx σ H) ∨ (J.go i H ∧ ∃ N : St → Hp → Prop, (∀ σ' H', N σ' H' → ∃ m', m' < m ∧ Wv (i + 1) m' σ' H') ∧ ∀ x H', J.yld i H x H' → gt x σ H' fun σ2 H2 => tb { E with nx := N, ct := N, bk := E.nx } σ2 H2)) (ri _ _ _ _ _ _ sr) sr h fun ds J F1 H1 _ st jw hpo => ?_
  refine ⟨fun i m σ' H' => m = ds.length - i ∧ i ≤ ds.length ∧ ∃ env' F', SR (kx X) BF B env' σ' F' H' ∧ Same F1 F' ∧ Post (kx X) W BF B E F' (sLoop b s (ds.drop i) env'),
    ⟨ds.length, by simp, Nat.zero_le _, env, F1, sr.step st, Same.refl F1, by simpa using Post.mono hpo st.fr⟩, ?_⟩
  rintro i m σ' H' ⟨rfl, hi, env', F', sr', s1, po⟩
  have jw' := jw F' H' s1 sr'.inn i
  by_cases hlt : i < ds.length
  · have hget : ds[i]? = some ds[i] := List.getElem?_eq_getElem hlt
    have hdrop : ds.drop i = ds[i] :: ds.drop (i + 1) := List.drop_eq_getElem_cons hlt
    rw [hdrop] at po
    obtain ⟨go, yl⟩ := jw'.1 _ hget
    refine .inr ⟨go, fun σ' H' => ∃ env' F', SR (kx X) BF B env' σ' F' H' ∧ Same F1 F' ∧ Post (kx X) W BF B E F' (sLoop b s (ds.drop (i + 1)) env'), fun σ2 H2 h2 => ⟨ds.length - (i + 1), by omega, rfl, hlt, h2⟩, fun x H2 y => ?_⟩
    obtain ⟨F2, st2, r2⟩ := yl x H2 y
    unfold sLoop at po
    cases eb : b ds[i] env' with
    | none =>
      rw [eb] at po
      exact po.elim
    | some env1 =>
      rw [eb] at po
      refine gb BF B _ _ F2 H2 x ds[i] env1 (sr'.step st2) r2 eb _ fun σ2 sr2 _ => ?_
      refine rb BF B env1 σ2 F2 H2 _ sr2 ?_
      have po : Post (kx X) W BF B E F' (match s env1 with | .nx env2 => sLoop b s (ds.drop (i + 1)) env2 | .ct env2 => sLoop b s (ds.drop (i + 1)) env2 | .ret d => .ret d | .exc c env2 => .exc c env2 | .bad => .bad) := po
      cases es : s env1 with
      | bad =>
        rw [es] at po
        exact po
      | nx env2 =>
        rw [es] at po
        exact fun σ3 F3 H3 s3 sr3 => ⟨env2, F3, sr3, s1.trans (st2.fr.trans s3), Post.mono po (st2.fr.trans s3)⟩
      | ct env2 =>
        rw [es] at po
        exact fun σ3 F3 H3 s3 sr3 => ⟨env2, F3, sr3, s1.trans (st2.fr.trans s3), Post.mono po (st2.fr.trans s3)⟩
      | ret d =>
        rw [es] at po
        exact po
      | exc c env2 =>
        rw [es] at po
        exact fun σ3 F3 H3 s3 => po σ3 F3 H3 (st2.fr.trans s3)
  · have ei : i = ds.length := by omega
    subst ei
    rw [List.drop_length] at po
    exact .inl ⟨jw'.2 (Nat.le_refl _), po σ' F' H' (Same.refl F') sr'⟩
end

/-! ### try -/
section
variable {X : Cx} {W : Wx} {pos : Pos} {body suite : List Stmt} {b0 : Stmt} {s : SX} {h : Xc → SX} {cl : Xc → Addr}
/-- the class that the clause names takes every refusal -/
structure Takes5 (X : Cx) (cl : Xc → Addr) (x : Str) (c : Value) : Prop where
  nm : Names X x c
  all : ∀ e, PySem.W.exmOne X.K (.ref (cl e)) c = some true
theorem ss_try (i : Nat) {x n : Str} {c : Value} {np pos' : Pos} (nd : X.N.Nodup) (T : Takes5 X cl x c) (tk : Takes X (wx cl W)) (hs : X.stack = X.env :: X.outer) (hf : X.env.frame = some X.env.locals)
    (hb : ∀ (W : Wx) (pn : List (Addr × Obj)) (xe : Value → Shared → Prop), Takes (X.tr pn xe) (wx cl W) → PassesOwn (model X.prog X.w) X.A X.env xe → SSs (X.tr pn xe) W body s)
    (hsu : ∀ (e : Xc) (a : Addr) (oe : Obj) (pn : List (Addr × Obj)), Zc (.ref (cl e)) none oe → (∃ vs, oe.data = .fields vs) → SSs (X.suite a ((a, oe) :: pn)) W0 (b0 :: suite) (h e))
    (hi : X.N[i]? = some n := by rfl) (hln : X.env.kindOf n = some .local := by rfl) : SS X W (.Try body [.ExceptHandler (some (.Name x np)) (some n) (b0 :: suite) pos'] [] [] pos) (sTry i s h) := by
  refine ⟨_, ps_try_as (tb := fun Wv E σ H => ∀ (pn : List (Addr × Obj)) (xe : Value → Shared → Prop), Takes (X.tr pn xe) Wv → PassesOwn (model X.prog X.w) X.A X.env xe → ∃ t, PSs (X.tr pn xe) body t ∧ t E σ H)
    (ts := fun a cls d E σ H => ∀ (oe : Obj) (pn : List (Addr × Obj)), Zc cls d oe → (∃ vs, oe.data = .fields vs) → ∃ t, PSs (X.suite a ((a, oe) :: pn)) (b0 :: suite) t ∧ t E σ H) hs hf nd hi hln T.nm tk
    (fun Wv pn xe tk po => ⟨fun pins s' σ H D I q => ?_⟩) (fun a oe cls d pn hz hd => ⟨fun pins s' σ H D I q => ?_⟩), fun BF B env σ F H E sr hp => ?_⟩
  · obtain ⟨t, pt, q⟩ := q pn xe tk po
    exact pt.run pins s' σ H D I q
  · obtain ⟨t, pt, q⟩ := q oe pn hz hd
    exact pt.run pins s' σ H D I q
  · intro pn xe tk' po
    have tk2 : Takes (X.tr pn xe) (wx cl fun e σ H => wAs X.K c i (fun a cls d E σ H => ∀ (oe : Obj) (pn : List (Addr × Obj)), Zc cls d oe → (∃ vs, oe.data = .fields vs) → ∃ t, PSs (X.suite a ((a, oe) :: pn)) (b0 :: suite) t ∧ t E σ H) (wx cl W) E (.ref (cl e)) none σ H) := tk'.imp fun cls d σ H ⟨e, e1, e2, q⟩ => by
      subst e1
      subst e2
      exact q
    obtain ⟨t, pt, rt⟩ := hb _ pn xe tk2 po
    refine ⟨t, pt, ?_⟩
    unfold sTry at hp
    split at hp
    · rename_i hn
      refine rt BF B env σ F H E (sr.other hn) ?_
      cases es : s env with
      | bad =>
        rw [es] at hp
        exact hp.elim
      | ret d =>
        rw [es] at hp
        exact hp
      | nx env1 =>
        rw [es] at hp
        have hp : Post (kx X) W BF B E F (if noErr env1 = true then .nx env1 else .bad) := hp
        split at hp
        · rename_i hn1
          exact fun σ1 F1 H1 s1 sr1 => hp σ1 F1 H1 s1 (sr1.other hn1)
        · exact hp.elim
      | ct env1 =>
        rw [es] at hp
        have hp : Post (kx X) W BF B E F (if noErr env1 = true then .ct env1 else .bad) := hp
        split at hp
        · rename_i hn1
          exact fun σ1 F1 H1 s1 sr1 => hp σ1 F1 H1 s1 (sr1.other hn1)
        · exact hp.elim
      | exc e env1 =>
        rw [es] at hp
        have hp : Post (kx X) W BF B E F (if noErr env1 = true then (h e (env1.set i .err)).fin i else .bad) := hp
        split at hp
        · rename_i hn1
          refine fun σ1 F1 H1 s1 sr1 => ⟨true, T.all e, fun _ a ha oe pn2 hz hd => ?_, fun q => Bool.noConfusion q⟩
          obtain ⟨t2, pt2, rt2⟩ := hsu e a oe pn2 hz hd
          refine ⟨t2, pt2, rt2 BF B (env1.set i .err) _ F1 H1 _ (SR.setErr (k := (X.K, a)) (sr1.other (ea := a) hn1)) ?_⟩
          cases eh : h e (env1.set i .err) with
          | bad =>
            rw [eh] at hp
            exact hp.elim
          | exc _ _ =>
            rw [eh] at hp
            exact hp.elim
          | ret d =>
            rw [eh] at hp
            exact hp
          | nx env2 =>
            rw [eh] at hp
            have hp : Post (kx X) W BF B E F (if noErr (env2.set i .un) = true then .nx (env2.set i .un) else .bad) := hp
            split at hp
            · rename_i hn2
              exact fun σ2 F2 H2 s2 sr2 => hp _ F2 H2 (s1.trans s2) (sr2.unset.other hn2)
            · exact hp.elim
          | ct env2 =>
            rw [eh] at hp
            have hp : Post (kx X) W BF B E F (if noErr (env2.set i .un) = true then .ct (env2.set i .un) else .bad) := hp
            split at hp
            · rename_i hn2
              exact fun σ2 F2 H2 s2 sr2 => hp _ F2 H2 (s1.trans s2) (sr2.unset.other hn2)
            · exact hp.elim
        · exact hp.elim
    · exact hp.elim
theorem ss_try0 {x : Str} {c : Value} {np pos' : Pos} (T : Takes5 X cl x c) (tk : Takes X (wx cl W)) (hs : X.stack = X.env :: X.outer) (hf : X.env.frame = some X.env.locals)
    (hb : ∀ (W : Wx) (pn : List (Addr × Obj)) (xe : Value → Shared → Prop), Takes (X.tr pn xe) (wx cl W) → PassesOwn (model X.prog X.w) X.A X.env xe → SSs (X.tr pn xe) W body s)
    (hsu : ∀ (e : Xc) (a : Addr) (oe : Obj) (pn : List (Addr × Obj)), Zc (.ref (cl e)) none oe → (∃ vs, oe.data = .fields vs) → SSs (X.suite a ((a, oe) :: pn)) W0 (b0 :: suite) (h e)) :
    SS X W (.Try body [.ExceptHandler (some (.Name x np)) none (b0 :: suite) pos'] [] [] pos) (sTry0 s h) := by
  refine ⟨_, ps_try_only (tb := fun Wv E σ H => ∀ (pn : List (Addr × Obj)) (xe : Value → Shared → Prop), Takes (X.tr pn xe) Wv → PassesOwn (model X.prog X.w) X.A X.env xe → ∃ t, PSs (X.tr pn xe) body t ∧ t E σ H)
    (ts := fun a cls d E σ H => ∀ (oe : Obj) (pn : List (Addr × Obj)), Zc cls d oe → (∃ vs, oe.data = .fields vs) → ∃ t, PSs (X.suite a ((a, oe) :: pn)) (b0 :: suite) t ∧ t E σ H) hs hf T.nm tk
    (fun Wv pn xe tk po => ⟨fun pins s' σ H D I q => ?_⟩) (fun a oe cls d pn hz hd => ⟨fun pins s' σ H D I q => ?_⟩), fun BF B env σ F H E sr hp => ?_⟩
  · obtain ⟨t, pt, q⟩ := q pn xe tk po
    exact pt.run pins s' σ H D I q
  · obtain ⟨t, pt, q⟩ := q oe pn hz hd
    exact pt.run pins s' σ H D I q
  · intro pn xe tk' po
    have tk2 : Takes (X.tr pn xe) (wx cl fun e σ H => wOnly X.K c (fun a cls d E σ H => ∀ (oe : Obj) (pn : List (Addr × Obj)), Zc cls d oe → (∃ vs, oe.data = .fields vs) → ∃ t, PSs (X.suite a ((a, oe) :: pn)) (b0 :: suite) t ∧ t E σ H) (wx cl W) E (.ref (cl e)) none σ H) := tk'.imp fun cls d σ H ⟨e, e1, e2, q⟩ => by
      subst e1
      subst e2
      exact q
    obtain ⟨t, pt, rt⟩ := hb _ pn xe tk2 po
    refine ⟨t, pt, ?_⟩
    unfold sTry0 at hp
    split at hp
    · rename_i hn
      refine rt BF B env σ F H E (sr.other hn) ?_
      cases es : s env with
      | bad =>
        rw [es] at hp
        exact hp.elim
      | ret d =>
        rw [es] at hp
        exact hp
      | nx env1 =>
        rw [es] at hp
        have hp : Post (kx X) W BF B E F (if noErr env1 = true then .nx env1 else .bad) := hp
        split at hp
        · rename_i hn1
          exact fun σ1 F1 H1 s1 sr1 => hp σ1 F1 H1 s1 (sr1.other hn1)
        · exact hp.elim
      | ct env1 =>
        rw [es] at hp
        have hp : Post (kx X) W BF B E F (if noErr env1 = true then .ct env1 else .bad) := hp
        split at hp
        · rename_i hn1
          exact fun σ1 F1 H1 s1 sr1 => hp σ1 F1 H1 s1 (sr1.other hn1)
        · exact hp.elim
      | exc e env1 =>
        rw [es] at hp
        have hp : Post (kx X) W BF B E F (if noErr env1 = true then (h e env1).fin0 else .bad) := hp
        split at hp
        · rename_i hn1
          refine fun σ1 F1 H1 s1 sr1 => ⟨true, T.all e, fun _ a ha oe pn2 hz hd => ?_, fun q => Bool.noConfusion q⟩
          obtain ⟨t2, pt2, rt2⟩ := hsu e a oe pn2 hz hd
          refine ⟨t2, pt2, rt2 BF B env1 _ F1 H1 _ (sr1.other (ea := a) hn1) ?_⟩
          cases eh : h e env1 with
          | bad =>
            rw [eh] at hp
            exact hp.elim
          | exc _ _ =>
            rw [eh] at hp
            exact hp.elim
          | ret d =>
            rw [eh] at hp
            exact hp
          | nx env2 =>
            rw [eh] at hp
            have hp : Post (kx X) W BF B E F (if noErr env2 = true then .nx env2 else .bad) := hp
            split at hp
            · rename_i hn2
              exact fun σ2 F2 H2 s2 sr2 => hp _ F2 H2 (s1.trans s2) (sr2.other hn2)
            · exact hp.elim
          | ct env2 =>
            rw [eh] at hp
            have hp : Post (kx X) W BF B E F (if noErr env2 = true then .ct env2 else .bad) := hp
            split at hp
            · rename_i hn2
              exact fun σ2 F2 H2 s2 sr2 => hp _ F2 H2 (s1.trans s2) (sr2.other hn2)
            · exact hp.elim
        · exact hp.elim
    · exact hp.elim
/-- isinstance(e, C) in the suite: e the error, of the class of c; the answer b -/
def xErr (i : Nat) (b : Bool) : EX := fun env => match env[i]? with
  | some .err => .ok (.bool b)
  | _ => .bad
theorem se_isE (i : Nat) {x n : Str} {a C : Addr} {oe : Obj} {pn : List (Addr × Obj)} {p p1 p2 cpos : Pos} {bb : Bool} {Cv : V} {Cw : Value} {W : Wx} (EC : ExcC X.K C) (hz : Zc (.ref C) none oe) (hd : ∃ vs, oe.data = .fields vs) (hm : X.mg "isinstance" = none) (pc : PE (X.suite a ((a, oe) :: pn)) (.Name x p2) (tC Cv)) (hu : ∀ u, RelV Cv u → u = Cw)
    (hk : PySem.W.kitOne X.K (.ref C) Cw = some bb) (hN : X.N[i]? = some n := by rfl) (hv : Vis X.env.scope n := by first | exact Or.inl rfl | exact Or.inr (Or.inl rfl) | exact Or.inr (Or.inr rfl)) (hdb : (n == ("__debug__" : Str)) = false := by decide) (hcd : (n == ("__classdict__" : Str)) = false := by decide) (hg : Gl X "isinstance" := by rfl)
    (hs : starEach [.Name n p1, .Name x p2] X.env = (false, eval (.Name n p1) X.env) :: starEach [.Name x p2] X.env := by rfl) (hs2 : starEach [.Name x p2] X.env = (false, eval (.Name x p2) X.env) :: starEach [] X.env := by rfl) (hpl : (backTo cpos (starEach [.Name x p2] X.env)).any (·.1) = false := by rfl) :
    SE (X.suite a ((a, oe) :: pn)) W (.Call (.Name "isinstance" p) [.Name n p1, .Name x p2] [] cpos) (xErr i bb) := by
  refine ⟨_, pe_callB (X := X.suite a ((a, oe) :: pn)) (call_isE EC hz hd) hg hm (by decide +kernel) (pa_cons (pe_var hN hv hdb hcd) (pa_cons pc pa_nil hs2) hs) (by decide) (by decide) hs hpl, fun BF B env σ F H sr => ?_⟩
  unfold xErr
  split
  · rename_i e0
    have e1 := sr.errAt e0
    exact ret_of sr.inn (fun Q q => ⟨.ref a, e1, Cv, Cw, bb, rfl, hu, hk, q⟩) (.bl bb)
  · trivial
end

/-! ### defs -/
section
variable {P : Program} {w : World} {K : PySem.W.Frag} {mg : Str → Option Value} {base : Heap} {cl : Xc → Addr}
theorem start_sr {F H : Hp} {N : List Str} {vs : List V} {ds : List D} {ea : Addr} (i : Same F H) (r : DpAll K F vs ds) : SR (K, ea) F H (ds.map Slot.val ++ List.replicate (N.length - ds.length) Slot.un) (L2.start N vs) F H := by
  have hl := dps_len r
  refine ⟨?_, Step.refl i, i, fun _ => 0, fun j x e => ?_, fun j l xs ys e1 e2 => ?_⟩
  · unfold L2.start
    rw [List.length_append, List.length_append, List.length_map, List.length_map, List.length_replicate, List.length_replicate, hl]
  · by_cases hj : j < ds.length
    · rw [List.getElem?_append_left (by simpa using hj), List.getElem?_map] at e
      cases e1 : ds[j]? with
      | none =>
        rw [e1] at e
        cases e
      | some d =>
        rw [e1] at e
        cases e
        obtain ⟨v, e2, rv⟩ := dps_get' r e1
        refine ⟨v, ?_, rv⟩
        unfold L2.start
        rw [List.getElem?_append_left (by rw [List.length_map, hl]; exact hj), List.getElem?_map, e2]
        rfl
    · rw [List.getElem?_append_right (by simpa using hj), List.getElem?_replicate] at e
      split at e
      · cases e
        trivial
      · cases e
  · exfalso
    by_cases hj : j < ds.length
    · rw [List.getElem?_append_left (by simpa using hj), List.getElem?_map] at e1
      cases e3 : ds[j]? with
      | none =>
        rw [e3] at e1
        cases e1
      | some d =>
        rw [e3] at e1
        cases e1
    · rw [List.getElem?_append_right (by simpa using hj), List.getElem?_replicate] at e1
      split at e1
      · cases e1
      · cases e1
/-- the wish of a def's body -/
abbrev dW (cl : Xc → Addr) (E : XK) : Wx := fun c _ H => E (.ref (cl c)) none H
theorem def_post {F H : Hp} {Q : VK} {E : XK} {ds : List D} {nN np : Nat} {body : SX} {k : KX} (hk : k.1 = K) (hl : ds.length = np) (h : SpOk K cl F H Q E (runDef nN np body ds)) :
    Post k (dW cl E) F H { nx := fun _ H' => Q .non H', rt := Q } F (body (ds.map Slot.val ++ List.replicate (nN - ds.length) Slot.un)) := by
  subst hk
  unfold runDef at h
  rw [if_pos hl, ← hl] at h
  cases e : body (ds.map Slot.val ++ List.replicate (nN - ds.length) Slot.un) with
  | bad =>
    rw [e] at h
    exact h
  | ct env =>
    rw [e] at h
    exact h.elim
  | ret d =>
    rw [e] at h
    exact h
  | nx env =>
    rw [e] at h
    exact fun σ F' H' _ sr => h _ F' H' sr.stp .non
  | exc c env =>
    rw [e] at h
    exact fun σ F' H' _ sr => h F' H' sr.stp
theorem def_ok {x : Str} {st : Stmt} {f : Addr} {fd : FuncData} {N ps : List Str} {k : Nat} {body : SX} (Fn : Fun K x x st f fd) (hm : mg x = some (.ref f)) (hb : Binds K fd ps []) (S : FnScope N ps (defScope st))
    (hbody : ∀ (cdv : Value) (A : Around) (outer : List PySem.Env) (s : Shared) (H : Hp) (E : XK), Room k (A.deeper (envOfC x (defScope st) s.heap.objs.size f cdv)) → SSs (cxOf (L2.CX P w) P w K mg base N x (defScope st) f cdv A outer s H E) (dW cl E) (defBody st) body) :
    FG P w K mg base cl x (k + 1) ps.length (runDef N.length ps.length body) := by
  refine ⟨f, fd, ps, Fn.okX S (fun vs H Q E h => ?_) (fun cdv A outer s H vs Q E hr h => ?_), hm, Fn.kp, hb, runDef_len⟩
  · obtain ⟨F, ds, _, r, hl, _⟩ := h
    rw [dps_len r, hl]
  · obtain ⟨F, ds, i, r, hl, q⟩ := h
    obtain ⟨t, pt, rt⟩ := hbody cdv A outer s H E hr
    exact ⟨t, pt, rt F H _ _ F H _ (start_sr i r) (def_post rfl hl q)⟩
theorem takes_def {X : Cx} {E : XK} (tk : Takes X fun cls d _ H => E cls d H) : Takes X (wx cl (dW cl E)) := tk.imp fun cls d σ H ⟨c, e1, e2, q⟩ => by
  subst e1
  subst e2
  exact q
end
end Mg
namespace Mg
open PySem PySem.Spec PyProof.Rows L2
/-! ### the law -/
def spLaw (K : PySem.W.Frag) : Sp := fun vs H Q _ => ∃ (a : Addr) (ns : List Int), vs = [.ref a] ∧ SqL K H a (ns.map V.int) ∧ ns.length ≤ 63 ∧ ∀ H', Q (.bl true) H'
section
variable {P : Program} {w : World} {K : PySem.W.Frag} {mg : Str → Option Value} {base : Heap} {cl : Xc → Addr} {cM : Addr}
theorem law_ok {st : Stmt} {f : Addr} {fd : FuncData} {N : List Str} {x : Str} {k : Nat} {body : SX} (Fn : Fun K "law" "law" st f fd) (S : FnScope N [x] (defScope st))
    (ht : ∀ ns : List Int, ns.length ≤ 63 → runDef N.length 1 body [.list (ns.map .int)] = .ok (.bool true))
    (hbody : ∀ (cdv : Value) (A : Around) (outer : List PySem.Env) (s : Shared) (H : Hp) (E : XK), Room k (A.deeper (envOfC "law" (defScope st) s.heap.objs.size f cdv)) → SSs (cxOf CX0 P w K mg base N "law" (defScope st) f cdv A outer s H E).nox W0 (defBody st) body) :
    FnOk P w K mg base CX0 (k + 1) f fd [x] (spLaw K) := by
  refine Fn.ok S (fun vs H Q E h => ?_) (fun cdv A outer s H vs Q E hr h => ?_)
  · obtain ⟨a, ns, rfl, _⟩ := h
    rfl
  · obtain ⟨a, ns, rfl, hS, hl, q⟩ := h
    obtain ⟨t, pt, rt⟩ := hbody cdv A outer s H E hr
    refine ⟨t, pt, rt H H _ _ H H _ (start_sr (ea := 0) (ds := [.list (ns.map .int)]) (Same.refl H) (.cons (.lst hS (dps_ints ns)) .nil)) ?_⟩
    have e := ht ns hl
    unfold runDef at e
    rw [if_pos (show [PyData.list (ns.map .int)].length = 1 from rfl)] at e
    show Post _ _ _ _ _ _ (body ([PyData.list (ns.map .int)].map Slot.val ++ List.replicate (N.length - 1) Slot.un))
    cases e1 : body ([PyData.list (ns.map .int)].map Slot.val ++ List.replicate (N.length - 1) Slot.un) with
    | bad =>
      rw [e1] at e
      cases e
    | ct env =>
      rw [e1] at e
      cases e
    | nx env =>
      rw [e1] at e
      cases e
    | exc c env =>
      rw [e1] at e
      cases e
    | ret d =>
      rw [e1] at e
      cases e
      intro v F' H' st r
      cases r
      exact q H'
end
end Mg
namespace Mg
open PySem PySem.Spec PyProof.Rows L2
/-! ### reckoning with denotations -/
def outAn : Out → An D
  | .ret d => .ok d
  | .nx _ => .ok .none
  | .exc c _ => .exc c
  | _ => .bad
theorem outAn_ret {d : D} : outAn (.ret d) = .ok d := rfl
theorem outAn_nx {env : Env} : outAn (.nx env) = .ok .none := rfl
theorem outAn_exc {c : Xc} {env : Env} : outAn (.exc c env) = .exc c := rfl
theorem run_eq {nN np : Nat} {body : SX} {ds : List D} (h : ds.length = np) : runDef nN np body ds = outAn (body (ds.map Slot.val ++ List.replicate (nN - np) Slot.un)) := by
  unfold runDef
  rw [if_pos h]
  cases body (ds.map Slot.val ++ List.replicate (nN - np) Slot.un) <;> rfl
section
variable {f g : EX} {fs : AX} {env : Env} {s t : SX} {c : TX} {i j : Nat} {d e : D} {a b m n : Int} {o : D → D → An D}
theorem ev_var : xVar i env = (match env[i]? with | some (.val d) => .ok d | _ => .bad) := rfl
theorem ev_var_un {r : Env} : xVar 0 (.un :: r) = .bad := rfl
theorem ev_var0 {r : Env} : xVar 0 (.val d :: r) = .ok d := rfl
theorem ev_varS {x : Slot} {r : Env} : xVar (i + 1) (x :: r) = xVar i r := rfl
theorem ev_c : xC d env = .ok d := rfl
theorem ev_op : xOp o f g env = (f env).bnd fun a => (g env).bnd fun b => o a b := rfl
theorem ev_un {u : D → An D} : xUn u f env = (f env).bnd u := rfl
theorem ev_app {u : List D → An D} : xApp u fs env = (fs env).bnd u := rfl
theorem ev_appL {u : List D → An (List D)} : xAppL u fs env = (fs env).bnd u := rfl
theorem ev_tup : xTup fs env = (fs env).bnd fun ds => .ok (.tuple ds) := rfl
theorem ev_l : xL fs env = (fs env).bnd fun ds => .ok (.list ds) := rfl
theorem ev_anil : aNil env = .ok [] := rfl
theorem ev_acons : aCons f fs env = (f env).bnd fun d => (fs env).bnd fun ds => .ok (d :: ds) := rfl
theorem ev_bool {b : Bool} : oBool (.bool b) = .ok b := rfl
theorem ev_tof : tOf f env = (f env).bnd oBool := rfl
theorem ev_tand {c2 : TX} : tAndX c c2 env = (c env).bnd fun b => if b = true then c2 env else .ok false := rfl
theorem ev_tor {c2 : TX} : tOrX c c2 env = (c env).bnd fun b => if b = true then .ok true else c2 env := rfl
theorem ev_tnot : tNotX c env = (c env).bnd fun b => .ok (!b) := rfl
theorem ev_and : xAnd f g env = (f env).bnd fun d => (oBool d).bnd fun b => if b = true then g env else .ok (.bool false) := rfl
theorem ev_or : xOr f g env = (f env).bnd fun d => (oBool d).bnd fun b => if b = true then .ok (.bool true) else g env := rfl
theorem ev_not : xNot f env = (f env).bnd fun d => (oBool d).bnd fun b => .ok (.bool (!b)) := rfl
theorem ev_addI : oAdd (.int a) (.int b) = .ok (.int (a + b)) := rfl
theorem ev_addT {x y : List D} (h : x.length + y.length ≤ 100000) : oAdd (.tuple x) (.tuple y) = .ok (.tuple (x ++ y)) := if_pos h
theorem ev_sub : oSub (.int a) (.int b) = .ok (.int (a - b)) := rfl
theorem ev_lt : oLt (.int a) (.int b) = .ok (.bool (decide (a < b))) := rfl
theorem ev_le : oLe (.int a) (.int b) = .ok (.bool (decide (a ≤ b))) := rfl
theorem ev_gt : oGt (.int a) (.int b) = .ok (.bool (decide (b < a))) := rfl
theorem ev_ge : oGe (.int a) (.int b) = .ok (.bool (decide (b ≤ a))) := rfl
theorem ev_mulL (h1 : -18446744073709551616 < a) (h2 : a < 18446744073709551616) : oMul (.int a) (.int b) = .ok (.int (a * b)) := if_pos (.inl ⟨h1, h2⟩)
theorem ev_mulR (h1 : -18446744073709551616 < b) (h2 : b < 18446744073709551616) : oMul (.int a) (.int b) = .ok (.int (a * b)) := if_pos (.inr ⟨h1, h2⟩)
theorem ev_mod (h : 0 < b) : oMod (.int a) (.int b) = .ok (.int (a % b)) := if_pos h
theorem ev_fdiv (h : 0 < b) (h2 : b < 1073741824) : oFdiv (.int a) (.int b) = .ok (.int (a / b)) := if_pos ⟨h, h2⟩
theorem ev_p5 : oPow (.int 10) (.int 5) = .ok (.int 100000) := rfl
theorem ev_p9 : oPow (.int 10) (.int 9) = .ok (.int 1000000000) := rfl
theorem ev_p12 : oPow (.int 10) (.int 12) = .ok (.int 1000000000000) := rfl
theorem ev_p15 : oPow (.int 10) (.int 15) = .ok (.int 1000000000000000) := rfl
theorem ev_neg : oNeg (.int a) = .ok (.int (-a)) := rfl
theorem ev_eqI : oEq (.int a) (.int b) = .ok (.bool (decide (a = b))) := by
  rfl
theorem ev_neI : oNe (.int a) (.int b) = .ok (.bool (!decide (a = b))) := by
  rfl
theorem ev_eqSt {x y : Str} : oEq (.str x) (.str y) = .ok (.bool (decide (x = y))) := rfl
theorem ev_neSt {x y : Str} : oNe (.str x) (.str y) = .ok (.bool (!decide (x = y))) := rfl
theorem ev_isNn : oIsN .none .none = .ok (.bool true) := rfl
theorem ev_isNt {x : List D} : oIsN (.tuple x) .none = .ok (.bool false) := rfl
theorem ev_isnNn : oIsnN .none .none = .ok (.bool false) := rfl
theorem ev_isnNt {x : List D} : oIsnN (.tuple x) .none = .ok (.bool true) := rfl
theorem ev_lenL {x : List D} : oLen [.list x] = .ok (.int x.length) := rfl
theorem ev_lenT {x : List D} : oLen [.tuple x] = .ok (.int x.length) := rfl
theorem ev_listL {x : List D} : oList [.list x] = .ok x := rfl
theorem ev_listT {x : List D} : oList [.tuple x] = .ok x := rfl
theorem ev_tupleL {x : List D} : oTuple [.list x] = .ok (.tuple x) := rfl
theorem ev_tupleT {x : List D} : oTuple [.tuple x] = .ok (.tuple x) := rfl
theorem ev_min : oMin [.int a, .int b] = .ok (.int (if b < a then b else a)) := rfl
theorem ev_max : oMax [.int a, .int b] = .ok (.int (if b > a then b else a)) := rfl
theorem ev_intI : oIntOf [.int a] = .ok (.int a) := rfl
theorem ev_intB {b : Bool} : oIntOf [.bool b] = .ok (.int (if b then 1 else 0)) := rfl
theorem ev_ix0 {x : List D} : oIdx (.tuple (d :: x)) (.int 0) = .ok d := by
  have e : atI (d :: x) ((0 : Nat) : Int) = some d := atI_nat rfl
  show (match atI (d :: x) ((0 : Nat) : Int) with | some d => An.ok d | none => .bad) = _
  rw [e]
theorem ev_slice {lo hi : OX} : xSl f lo hi env = (f env).bnd fun a => (lo env).bnd fun l => (hi env).bnd fun u => oSl a l u := rfl
theorem ev_pno : pNo env = .ok none := rfl
theorem ev_pat : pAt f env = (f env).bnd oInt := rfl
theorem ev_oint : oInt (.int a) = .ok (some a) := rfl
theorem ev_slL {x : List D} {l u : Option Int} : oSl (.list x) l u = .ok (.list (cutD x l u)) := rfl
theorem ev_slT {x : List D} {l u : Option Int} : oSl (.tuple x) l u = .ok (.tuple (cutD x l u)) := rfl
theorem ev_skip : sSkip env = .nx env := rfl
theorem ev_seq : sSeq s t env = (s env).thn t := rfl
theorem ev_if : sIf c s t env = (c env).thn env fun b => if b = true then s env else t env := rfl
theorem ev_set : sSet i f env = (f env).thn env fun d => .nx (env.set i (.val d)) := rfl
theorem ev_own : sOwn i fs env = (fs env).thn env fun ds => .nx (env.set i (.own ds)) := rfl
theorem ev_par : sPar i j f g env = (f env).thn env fun d => (g env).thn env fun e => .nx ((env.set i (.val d)).set j (.val e)) := rfl
theorem ev_ret : sRet f env = (f env).thn env fun d => .ret d := rfl
theorem ev_ct : sCt env = .ct env := rfl
theorem ev_drop : sDrop f env = (f env).thn env fun _ => .nx env := rfl
theorem ev_raise {x : Xc} : sRaise x env = .exc x env := rfl
theorem ev_thn_ite {p : Prop} [Decidable p] {x y : Out} : (if p then x else y).thn t = if p then x.thn t else y.thn t := by split <;> rfl
theorem ev_bnd_ite {α β : Type} {p : Prop} [Decidable p] {x y : An α} {k : α → An β} : (if p then x else y).bnd k = if p then x.bnd k else y.bnd k := by split <;> rfl
theorem ev_thnA_ite {α : Type} {p : Prop} [Decidable p] {x y : An α} {k : α → Out} : (if p then x else y).thn env k = if p then x.thn env k else y.thn env k := by split <;> rfl
theorem idx_mem {ds : List D} {k : Int} (h0 : 0 ≤ k) (h1 : k < ds.length) : ∃ d, oIdx (.list ds) (.int k) = .ok d ∧ d ∈ ds := by
  obtain ⟨j, rfl⟩ : ∃ j : Nat, k = (j : Int) := ⟨k.toNat, by omega⟩
  have hj : j < ds.length := by omega
  have e : atI ds (j : Int) = some ds[j] := atI_nat (List.getElem?_eq_getElem hj)
  refine ⟨ds[j], ?_, List.getElem_mem hj⟩
  show (match atI ds (j : Int) with | some d => An.ok d | none => .bad) = _
  rw [e]
theorem idx_at {ds : List D} {k : Int} {d : D} (h0 : 0 ≤ k) (h : ds[k.toNat]? = some d) : oIdx (.list ds) (.int k) = .ok d := by
  obtain ⟨j, rfl⟩ : ∃ j : Nat, k = (j : Int) := ⟨k.toNat, by omega⟩
  show (match atI ds (j : Int) with | some d => An.ok d | none => .bad) = _
  rw [atI_nat (by simpa using h)]
theorem idxT_at {ds : List D} {k : Int} {d : D} (h0 : 0 ≤ k) (h : ds[k.toNat]? = some d) : oIdx (.tuple ds) (.int k) = .ok d := by
  obtain ⟨j, rfl⟩ : ∃ j : Nat, k = (j : Int) := ⟨k.toNat, by omega⟩
  show (match atI ds (j : Int) with | some d => An.ok d | none => .bad) = _
  rw [atI_nat (by simpa using h)]
end
theorem seq_go {s t : SX} {env env' : Env} {r : An D} (h : s env = .nx env') (q : outAn (t env') = r) : outAn (sSeq s t env) = r := by
  show outAn ((s env).thn t) = r
  rw [h]
  exact q
theorem seq_go' {s t : SX} {env env' : Env} {r : Out} (h : s env = .nx env') (q : t env' = r) : sSeq s t env = r := by
  show (s env).thn t = r
  rw [h]
  exact q
theorem eq_self {d : D} (h : SeqAt.shaped d = true) (hs : sEq d d = none) : oEq d d = .ok (.bool true) := by
  unfold oEq
  rw [hs]
  show (if (SeqAt.shaped d && SeqAt.shaped d) = true then An.ok (PyData.bool (PyData.eqv d d)) else .bad) = _
  rw [h, if_pos (by rfl : (true && true) = true), SeqAt.eqv_refl d (SeqAt.canLay_of_shaped h)]
/-- a loop by what holds behind i turns -/
theorem loop_list {b : BX} {body : SX} (P : Nat → Env → Prop) : ∀ (ds : List D) (k : Nat) (env : Env), (∀ i d env, ds[i]? = some d → P (k + i) env → ∃ env1 env2, b d env = some env1 ∧ (body env1 = .nx env2 ∨ body env1 = .ct env2) ∧ P (k + i + 1) env2) → P k env → ∃ env', sLoop b body ds env = .nx env' ∧ P (k + ds.length) env'
  | [], k, env, _, h0 => ⟨env, rfl, h0⟩
  | d :: ds, k, env, h, h0 => by
    obtain ⟨env1, env2, e1, e2, h2⟩ := h 0 d env rfl h0
    obtain ⟨env', e3, h3⟩ := loop_list P ds (k + 1) env2 (fun i d env hi hp => by
      have q := h (i + 1) d env (by simpa using hi) (by rw [show k + (i + 1) = k + 1 + i by omega]; exact hp)
      rw [show k + 1 + i + 1 = k + (i + 1) + 1 by omega]
      exact q) h2
    refine ⟨env', ?_, by rw [show k + (d :: ds).length = k + 1 + ds.length by simp; omega]; exact h3⟩
    unfold sLoop
    rw [e1]
    rcases e2 with e2 | e2
    · show (match body env1 with | .nx env2 => sLoop b body ds env2 | .ct env2 => sLoop b body ds env2 | .ret d => .ret d | .exc c env2 => .exc c env2 | .bad => .bad) = _
      rw [e2]
      exact e3
    · show (match body env1 with | .nx env2 => sLoop b body ds env2 | .ct env2 => sLoop b body ds env2 | .ret d => .ret d | .exc c env2 => .exc c env2 | .bad => .bad) = _
      rw [e2]
      exact e3
/-- range(lo, hi), as a list -/
abbrev rngD (lo : Int) (n : Nat) : List D := (List.range n).map fun i : Nat => .int (lo + (i : Int))
theorem rng_get {lo : Int} {n i : Nat} {d : D} (h : (rngD lo n)[i]? = some d) : i < n ∧ d = .int (lo + (i : Int)) := by
  rw [List.getElem?_map] at h
  by_cases hi : i < n
  · rw [List.getElem?_range hi] at h
    exact ⟨hi, (Option.some.inj h).symm⟩
  · rw [List.getElem?_eq_none (by simpa using hi)] at h
    cases h
theorem rng_len (lo : Int) (n : Nat) : (rngD lo n).length = n := by simp
theorem ev_r1 {f : EX} {env : Env} {n : Int} (e : f env = .ok (.int n)) (h1 : -100000 ≤ n) (h2 : n ≤ 100000) : iR1 f env = .ok (rngD 0 n.toNat) := by
  show ((f env).bnd fun d => (aNil env).bnd fun ds => .ok (d :: ds)).bnd oRng1 = _
  rw [e]
  show oRng 0 n = _
  unfold oRng
  rw [if_pos ⟨by decide, by omega⟩, Int.sub_zero]
theorem ev_r2 {f g : EX} {env : Env} {m n : Int} (e : f env = .ok (.int m)) (e2 : g env = .ok (.int n)) (h1 : -100000 ≤ n) (h2 : n ≤ 100000) (h3 : -100000 ≤ m) (h4 : m ≤ 100000) : iR2 f g env = .ok (rngD m (n - m).toNat) := by
  show ((f env).bnd fun d => ((g env).bnd fun d2 => (aNil env).bnd fun ds => .ok (d2 :: ds)).bnd fun ds => .ok (d :: ds)).bnd oRng2 = _
  rw [e, e2]
  show oRng m n = _
  unfold oRng
  rw [if_pos ⟨by omega, by omega⟩]
/-- a for whose loop goes through -/
theorem for_go {src : AX} {b : BX} {body : SX} {env env' : Env} {ds : List D} (h : src env = .ok ds) (h2 : sLoop b body ds env = .nx env') : sFor src b body env = .nx env' := by
  show (src env).thn env (fun ds => sLoop b body ds env) = _
  rw [h]
  exact h2
/-- a statement, by what holds behind it -/
theorem seq_P {s t : SX} {env : Env} {r : An D} (P : Env → Prop) (h : ∃ env', s env = .nx env' ∧ P env') (q : ∀ env', P env' → outAn (t env') = r) : outAn (sSeq s t env) = r := by
  obtain ⟨env', e, p⟩ := h
  exact seq_go e (q env' p)
theorem seq_P' {s t : SX} {env : Env} {r : Out} (P : Env → Prop) (h : ∃ env', s env = .nx env' ∧ P env') (q : ∀ env', P env' → t env' = r) : sSeq s t env = r := by
  obtain ⟨env', e, p⟩ := h
  exact seq_go' e (q env' p)
theorem isA_int_int {n : Int} : oIsA "int" (.int n) = .ok (.bool true) := by
  have e : kitB "int" "int" = some true := by decide +kernel
  show (match kitB "int" "int" with | some b => An.ok (PyData.bool b) | none => .bad) = _
  rw [e]
theorem isA_int_bool {n : Int} : oIsA "bool" (.int n) = .ok (.bool false) := by
  have e : kitB "int" "bool" = some false := by decide +kernel
  show (match kitB "int" "bool" with | some b => An.ok (PyData.bool b) | none => .bad) = _
  rw [e]
end Mg
namespace Mg
open PySem PySem.Spec PyProof.Rows L2
def b_p_gone : SX := (sRet (xOp oMod (xOp oSub (xVar 2) (xVar 1)) (xVar 0)))
def f_p_gone : List D → An D := runDef 3 3 b_p_gone
def b_p_shown_then : SX := (sRet (xOp oMod (xOp oAdd (xVar 1) (xVar 2)) (xVar 0)))
def f_p_shown_then : List D → An D := runDef 3 3 b_p_shown_then
def b_l_cell_at : SX := (sSeq (sIf (tOf (xOp oLt (xVar 1) (xApp oLen (aCons (xVar 0) aNil)))) (sRet (xOp oIdx (xVar 0) (xVar 1))) sSkip) (sRet (xC (.int 0))))
def f_l_cell_at : List D → An D := runDef 2 2 b_l_cell_at
def b_l_mixed : SX := (sSeq (sSet 2 (xC (.int 0))) (sSeq (sIf (tOf (xOp oGt (xApp oLen (aCons (xVar 0) aNil)) (xC (.int 0)))) (sSet 2 (xOp oIdx (xVar 0) (xOp oMod (xVar 1) (xApp oLen (aCons (xVar 0) aNil))))) sSkip) (sSeq (sSet 3 (xOp oMod (xOp oMul (xOp oAdd (xVar 2) (xOp oMul (xC (.int 7919)) (xVar 1))) (xC (.int 48271))) (xC (.int 2147483647)))) (sRet (xOp oMod (xOp oMul (xVar 3) (xVar 3)) (xC (.int 2147483647)))))))
def f_l_mixed : List D → An D := runDef 4 2 b_l_mixed
def b_l_whole : SX := (sRet (xAnd (xUn (oIsA "int") (xVar 0)) (xNot (xUn (oIsA "bool") (xVar 0)))))
def f_l_whole : List D → An D := runDef 1 1 b_l_whole
def b_l_size_by : SX := (sSeq (sIf (tOf (xOp oEq (xOp oMod (xVar 0) (xC (.int 4))) (xC (.int 3)))) (sRet (xOp oAdd (xC (.int 2)) (xOp oMod (xOp oMul (xVar 0) (xVar 0)) (xOp oSub (xOp oPow (xC (.int 10)) (xC (.int 12))) (xC (.int 1)))))) sSkip) (sRet (xOp oIdx (xL (aCons (xC (.int 2)) (aCons (xC (.int 10)) (aCons (xC (.int 100)) (aCons (xC (.int 1000)) (aCons (xOp oPow (xC (.int 10)) (xC (.int 5))) (aCons (xOp oPow (xC (.int 10)) (xC (.int 12))) (aCons (xC (.int 7)) (aCons (xC (.int 60)) aNil))))))))) (xOp oMod (xOp oFdiv (xVar 0) (xC (.int 4))) (xC (.int 8))))))
def f_l_size_by : List D → An D := runDef 1 1 b_l_size_by
def b_law_01 : SX := (sSeq (sSet 1 (xApp f_l_size_by (aCons (xApp f_l_mixed (aCons (xVar 0) (aCons (xC (.int 2)) aNil))) aNil))) (sSeq (sSet 2 (xOp oMod (xApp f_l_cell_at (aCons (xVar 0) (aCons (xC (.int 0)) aNil))) (xVar 1))) (sSeq (sSet 3 (xOp oMod (xOp oMul (xApp f_l_cell_at (aCons (xVar 0) (aCons (xC (.int 1)) aNil))) (xC (.int 48271))) (xVar 1))) (sSeq (sIf (tOf (xOp oEq (xOp oMod (xApp f_l_cell_at (aCons (xVar 0) (aCons (xC (.int 2)) aNil))) (xC (.int 6))) (xC (.int 1)))) (sSet 3 (xOp oIdx (xL (aCons (xVar 2) (aCons (xC (.int 0)) (aCons (xOp oSub (xVar 1) (xC (.int 1))) aNil)))) (xOp oMod (xOp oFdiv (xApp f_l_cell_at (aCons (xVar 0) (aCons (xC (.int 2)) aNil))) (xC (.int 6))) (xC (.int 3))))) sSkip) (sSeq (sSet 4 (xApp f_p_gone (aCons (xVar 1) (aCons (xVar 2) (aCons (xVar 3) aNil))))) (sSeq (sIf (tOrX (tNotX (tOf (xApp f_l_whole (aCons (xVar 4) aNil)))) (tOrX (tOf (xOp oLt (xVar 4) (xC (.int 0)))) (tOrX (tOf (xOp oGe (xVar 4) (xVar 1))) (tOf (xOp oNe (xOp oMod (xOp oAdd (xVar 2) (xVar 4)) (xVar 1)) (xVar 3)))))) (sRet (xC (.bool false))) sSkip) (sSeq (sSet 5 (xOp oMod (xApp f_l_cell_at (aCons (xVar 0) (aCons (xC (.int 3)) aNil))) (xOp oAdd (xOp oPow (xC (.int 10)) (xC (.int 15))) (xC (.int 1))))) (sSeq (sIf (tOf (xOp oEq (xOp oMod (xApp f_l_cell_at (aCons (xVar 0) (aCons (xC (.int 4)) aNil))) (xC (.int 2))) (xC (.int 1)))) (sSet 5 (xOp oMod (xVar 5) (xOp oMul (xC (.int 3)) (xVar 1)))) sSkip) (sSeq (sSet 6 (xL (aCons (xApp f_p_shown_then (aCons (xVar 1) (aCons (xVar 2) (aCons (xVar 4) aNil)))) (aCons (xApp f_p_shown_then (aCons (xVar 1) (aCons (xVar 2) (aCons (xVar 5) aNil)))) aNil)))) (sRet (xAnd (xApp f_l_whole (aCons (xOp oIdx (xVar 6) (xC (.int 0))) aNil)) (xAnd (xApp f_l_whole (aCons (xOp oIdx (xVar 6) (xC (.int 1))) aNil)) (xOp oEq (xVar 6) (xL (aCons (xVar 3) (aCons (xOp oMod (xOp oAdd (xVar 2) (xVar 5)) (xVar 1)) aNil))))))))))))))))
def f_law_01 : List D → An D := runDef 7 1 b_law_01
end Mg
open PySem PySem.Spec PyProof.Rows L2 Mg
local macro_rules | `(tactic| walk_at "ev") => `(tactic| simp (disch := omega) only [ev_var_un, ev_var0, ev_varS, ev_c, ev_op, ev_un, ev_app, ev_appL, ev_tup, ev_l, ev_anil, ev_acons, ev_bool, ev_tof, ev_tand, ev_tor, ev_tnot, ev_and, ev_or, ev_not, ev_addI, ev_addT, ev_sub, ev_lt, ev_le, ev_gt, ev_ge,
  ev_mulL, ev_mulR, ev_mod, ev_fdiv, ev_p5, ev_p9, ev_p12, ev_p15, ev_neg, ev_eqI, ev_neI, ev_eqSt, ev_neSt, ev_isNn, ev_isNt, ev_isnNn, ev_isnNt, ev_lenL, ev_lenT, ev_listL, ev_listT, ev_tupleL, ev_tupleT, ev_min, ev_max, ev_intI, ev_intB, ev_ix0, ev_slice, ev_pno, ev_pat, ev_oint, ev_slL, ev_slT,
  ev_skip, ev_seq, ev_if, ev_set, ev_own, ev_par, ev_ret, ev_ct, ev_drop, ev_raise, bnd_ok, bnd_exc, bnd_bad, thn_ok, thn_exc, thn_bad, seq_nx, seq_ret, seq_ct, seq_exc, outAn_ret, outAn_nx, outAn_exc, isA_int_int, isA_int_bool,
  List.set_cons_zero, List.set_cons_succ, Bool.not_true, Bool.not_false, if_true, if_false, decide_eq_true_eq, Bool.false_eq_true, decide_true, decide_false, Bool.not_eq_true, Bool.not_eq_false, Int.reduceAdd, Int.reduceSub, Int.reduceMul, Int.reduceNeg, *])
namespace Mg
open PySem PySem.Spec PyProof.Rows L2
/-! cell_at, mixed, size_by, whole: what they are worth -/
abbrev intsD (ns : List Int) : D := .list (ns.map .int)
theorem ints_len (ns : List Int) : (ns.map PyData.int).length = ns.length := by simp
theorem cell_spec (ns : List Int) (k : Int) (hk : 0 ≤ k) : ∃ c : Int, f_l_cell_at [intsD ns, .int k] = .ok (.int c) := by
  rw [f_l_cell_at, run_eq (by rfl)]
  show ∃ c, outAn (b_l_cell_at [.val (intsD ns), .val (.int k)]) = _
  unfold b_l_cell_at
  by_cases h : k < (ns.length : Int)
  · obtain ⟨j, rfl⟩ : ∃ j : Nat, k = (j : Int) := ⟨k.toNat, by omega⟩
    have e : oIdx (.list (ns.map .int)) (.int j) = .ok (.int (ns[j]'(by omega))) := idx_at hk (by simp [show j < ns.length by omega])
    refine ⟨ns[j]'(by omega), ?_⟩
    have hl := ints_len ns
    walk_at "ev"
  · refine ⟨0, ?_⟩
    have hl := ints_len ns
    walk_at "ev"
theorem mixed_spec (ns : List Int) (k : Int) (hk : 0 ≤ k) : ∃ m : Int, f_l_mixed [intsD ns, .int k] = .ok (.int m) ∧ 0 ≤ m ∧ m < 2147483647 := by
  have key : ∃ c : Int, f_l_mixed [intsD ns, .int k] = .ok (.int ((c + 7919 * k) * 48271 % 2147483647 * ((c + 7919 * k) * 48271 % 2147483647) % 2147483647)) := by
    rw [f_l_mixed, run_eq (by rfl)]
    show ∃ c, outAn (b_l_mixed [.val (intsD ns), .val (.int k), .un, .un]) = _
    unfold b_l_mixed
    have hl := ints_len ns
    by_cases h : 0 < (ns.length : Int)
    · obtain ⟨d, e, hd⟩ := idx_mem (ds := ns.map .int) (k := k % (ns.length : Int)) (Int.emod_nonneg _ (by omega)) (by rw [hl]; exact Int.emod_lt_of_pos _ h)
      obtain ⟨c, _, rfl⟩ := List.mem_map.mp hd
      refine ⟨c, ?_⟩
      have b1 : 0 ≤ (c + 7919 * k) * 48271 % 2147483647 := by omega
      have b2 : (c + 7919 * k) * 48271 % 2147483647 < 2147483647 := by omega
      walk_at "ev"
    · refine ⟨0, ?_⟩
      have b1 : 0 ≤ (0 + 7919 * k) * 48271 % 2147483647 := by omega
      have b2 : (0 + 7919 * k) * 48271 % 2147483647 < 2147483647 := by omega
      walk_at "ev"
  obtain ⟨c, e⟩ := key
  exact ⟨_, e, Int.emod_nonneg _ (by decide), Int.emod_lt_of_pos _ (by decide)⟩
end Mg
namespace Mg
open PySem PySem.Spec PyProof.Rows L2
theorem whole_int (n : Int) : f_l_whole [.int n] = .ok (.bool true) := by
  rw [f_l_whole, run_eq (by rfl)]
  show outAn (b_l_whole [.val (.int n)]) = _
  unfold b_l_whole
  walk_at "ev"
theorem emod_mul_lt' (n : Int) {k : Int} (hk : 0 < k) : 0 ≤ n % k ∧ n % k < k := ⟨Int.emod_nonneg _ (by omega), Int.emod_lt_of_pos _ hk⟩
theorem size_spec (n : Int) (h0 : 0 ≤ n) (h1 : n < 2147483647) : ∃ s : Int, f_l_size_by [.int n] = .ok (.int s) ∧ 2 ≤ s ∧ s ≤ 1000000000000 := by
  rw [f_l_size_by, run_eq (by rfl)]
  show ∃ s, outAn (b_l_size_by [.val (.int n)]) = _ ∧ _
  unfold b_l_size_by
  by_cases h : n % 4 = 3
  · refine ⟨2 + n * n % 999999999999, ?_, ?_, ?_⟩
    · have e : oMod (.int (n * n)) (.int (1000000000000 - 1)) = .ok (.int (n * n % 999999999999)) := ev_mod (by decide)
      walk_at "ev"
    · have := Int.emod_nonneg (n * n) (show (999999999999 : Int) ≠ 0 by decide)
      omega
    · have := Int.emod_lt_of_pos (n * n) (show (0 : Int) < 999999999999 by decide)
      omega
  · obtain ⟨d, e, hd⟩ := idx_mem (ds := [.int 2, .int 10, .int 100, .int 1000, .int 100000, .int 1000000000000, .int 7, .int 60]) (k := n / 4 % 8) (by omega) (by show n / 4 % 8 < 8; omega)
    have hs : ∃ s : Int, d = .int s ∧ 2 ≤ s ∧ s ≤ 1000000000000 := by
      simp only [List.mem_cons, List.not_mem_nil, or_false] at hd
      rcases hd with rfl | rfl | rfl | rfl | rfl | rfl | rfl | rfl <;> exact ⟨_, rfl, by decide, by decide⟩
    obtain ⟨s, rfl, h2, h3⟩ := hs
    refine ⟨s, ?_, h2, h3⟩
    walk_at "ev"
end Mg
namespace Mg
open PySem PySem.Spec PyProof.Rows L2
def b_p_share : SX := (sRet (xOp oSub (xOp oFdiv (xOp oMul (xOp oAdd (xVar 2) (xC (.int 1))) (xVar 0)) (xVar 1)) (xOp oFdiv (xOp oMul (xVar 2) (xVar 0)) (xVar 1))))
def f_p_share : List D → An D := runDef 3 3 b_p_share
def b_law_02 : SX := (sSeq (sSet 1 (xOp oAdd (xC (.int 1)) (xOp oMod (xApp f_l_cell_at (aCons (xVar 0) (aCons (xC (.int 0)) aNil))) (xC (.int 60))))) (sSeq (sIf (tOf (xOp oEq (xOp oMod (xApp f_l_cell_at (aCons (xVar 0) (aCons (xC (.int 2)) aNil))) (xC (.int 8))) (xC (.int 5)))) (sSet 1 (xOp oAdd (xC (.int 1)) (xOp oMod (xApp f_l_cell_at (aCons (xVar 0) (aCons (xC (.int 0)) aNil))) (xC (.int 2000))))) sSkip) (sSeq (sSet 2 (xOp oMod (xApp f_l_cell_at (aCons (xVar 0) (aCons (xC (.int 1)) aNil))) (xOp oAdd (xOp oPow (xC (.int 10)) (xC (.int 15))) (xC (.int 1))))) (sSeq (sIf (tOf (xOp oEq (xOp oMod (xApp f_l_cell_at (aCons (xVar 0) (aCons (xC (.int 2)) aNil))) (xC (.int 3))) (xC (.int 1)))) (sSet 2 (xOp oMod (xVar 2) (xOp oAdd (xOp oMul (xC (.int 2)) (xVar 1)) (xC (.int 1))))) sSkip) (sSeq (sSet 3 (xC (.int 0))) (sSeq (sFor (iR1 (xVar 1)) (bName 4) (sSeq (sIf (tOf (xOp oNe (xVar 3) (xOp oFdiv (xOp oMul (xVar 4) (xVar 2)) (xVar 1)))) (sRet (xC (.bool false))) sSkip) (sSeq (sSet 5 (xApp f_p_share (aCons (xVar 2) (aCons (xVar 1) (aCons (xVar 4) aNil))))) (sSeq (sIf (tOrX (tNotX (tOf (xApp f_l_whole (aCons (xVar 5) aNil)))) (tOf (xOp oLt (xVar 5) (xC (.int 0))))) (sRet (xC (.bool false))) sSkip) (sSet 3 (xOp oAdd (xVar 3) (xVar 5))))))) (sRet (xOp oEq (xVar 3) (xVar 2)))))))))
def f_law_02 : List D → An D := runDef 6 1 b_law_02
end Mg
namespace Mg
open PySem PySem.Spec PyProof.Rows L2
theorem share_spec (u n a : Int) (h : 0 < n) (h1 : n ≤ 100000) (h2 : -100000 ≤ a) (h3 : a ≤ 100000) : f_p_share [.int u, .int n, .int a] = .ok (.int ((a + 1) * u / n - a * u / n)) := by
  rw [f_p_share, run_eq (by rfl)]
  show outAn (b_p_share [.val (.int u), .val (.int n), .val (.int a)]) = _
  unfold b_p_share
  walk_at "ev"
/-- what the days ahead of day i have -/
def ahead (u n : Int) (i : Int) : Int := i * u / n
theorem share_nonneg {u n : Int} (a : Int) (hu : 0 ≤ u) (hn : 0 < n) : 0 ≤ (a + 1) * u / n - a * u / n := by
  have h : a * u ≤ (a + 1) * u := by
    rw [Int.add_mul, Int.one_mul]
    omega
  have := Int.ediv_le_ediv hn h
  omega
end Mg
namespace Mg
open PySem PySem.Spec PyProof.Rows L2
theorem step_02 (x0 : D) (n u i t f : Int) (x y : Slot) (hw : ∀ n : Int, f_l_whole [.int n] = .ok (.bool true)) (n0 : 1 ≤ n) (n1 : n ≤ 2000) (i0 : 0 ≤ i) (hi : i ≤ n) (hs : f_p_share [.int u, .int n, .int i] = .ok (.int f)) (hf : ¬ f < 0) (ht : i * u / n = t) :
    (sSeq (sIf (tOf (xOp oNe (xVar 3) (xOp oFdiv (xOp oMul (xVar 4) (xVar 2)) (xVar 1)))) (sRet (xC (.bool false))) sSkip) (sSeq (sSet 5 (xApp f_p_share (aCons (xVar 2) (aCons (xVar 1) (aCons (xVar 4) aNil))))) (sSeq (sIf (tOrX (tNotX (tOf (xApp f_l_whole (aCons (xVar 5) aNil)))) (tOf (xOp oLt (xVar 5) (xC (.int 0))))) (sRet (xC (.bool false))) sSkip) (sSet 3 (xOp oAdd (xVar 3) (xVar 5))))))
    [.val x0, .val (.int n), .val (.int u), .val (.int t), .val (.int i), y] = .nx [.val x0, .val (.int n), .val (.int u), .val (.int (t + f)), .val (.int i), .val (.int f)] := by
  walk_at "ev"
theorem law_true_02 : ∀ ns : List Int, ns.length ≤ 63 → f_law_02 [.list (ns.map .int)] = .ok (.bool true) := by
  intro ns hl
  rw [f_law_02, run_eq (by rfl)]
  show outAn (b_law_02 [.val (intsD ns), .un, .un, .un, .un, .un]) = _
  obtain ⟨c0, e0⟩ := cell_spec ns 0 (by decide)
  obtain ⟨c1, e1⟩ := cell_spec ns 1 (by decide)
  obtain ⟨c2, e2⟩ := cell_spec ns 2 (by decide)
  unfold b_law_02
  refine seq_go (env' := [.val (intsD ns), .val (.int (1 + c0 % 60)), .un, .un, .un, .un]) (by walk_at "ev") ?_
  refine seq_P (fun env => ∃ n : Int, 1 ≤ n ∧ n ≤ 2000 ∧ env = [.val (intsD ns), .val (.int n), .un, .un, .un, .un]) ?_ ?_
  · by_cases h : c2 % 8 = 5
    · exact ⟨_, by walk_at "ev", 1 + c0 % 2000, by omega, by omega, rfl⟩
    · exact ⟨_, by walk_at "ev", 1 + c0 % 60, by omega, by omega, rfl⟩
  rintro _ ⟨n, n0, n1, rfl⟩
  refine seq_go (env' := [.val (intsD ns), .val (.int n), .val (.int (c1 % 1000000000000001)), .un, .un, .un]) (by walk_at "ev") ?_
  refine seq_P (fun env => ∃ u : Int, 0 ≤ u ∧ env = [.val (intsD ns), .val (.int n), .val (.int u), .un, .un, .un]) ?_ ?_
  · by_cases h : c2 % 3 = 1
    · exact ⟨_, by walk_at "ev", c1 % 1000000000000001 % (2 * n + 1), Int.emod_nonneg _ (by omega), rfl⟩
    · exact ⟨_, by walk_at "ev", c1 % 1000000000000001, by omega, rfl⟩
  rintro _ ⟨u, u0, rfl⟩
  refine seq_go (env' := [.val (intsD ns), .val (.int n), .val (.int u), .val (.int 0), .un, .un]) (by walk_at "ev") ?_
  have hw := whole_int
  have hr : iR1 (xVar 1) [.val (intsD ns), .val (.int n), .val (.int u), .val (.int 0), .un, .un] = .ok (rngD 0 n.toNat) := ev_r1 rfl (by omega) (by omega)
  refine seq_P (fun env => ∃ x y, env = [.val (intsD ns), .val (.int n), .val (.int u), .val (.int u), x, y]) ?_ ?_
  · obtain ⟨env', e, x, y, hp⟩ := loop_list (b := bName 4) (body := sSeq (sIf (tOf (xOp oNe (xVar 3) (xOp oFdiv (xOp oMul (xVar 4) (xVar 2)) (xVar 1)))) (sRet (xC (.bool false))) sSkip) (sSeq (sSet 5 (xApp f_p_share (aCons (xVar 2) (aCons (xVar 1) (aCons (xVar 4) aNil))))) (sSeq (sIf (tOrX (tNotX (tOf (xApp f_l_whole (aCons (xVar 5) aNil)))) (tOf (xOp oLt (xVar 5) (xC (.int 0))))) (sRet (xC (.bool false))) sSkip) (sSet 3 (xOp oAdd (xVar 3) (xVar 5))))))
      (fun i env => ∃ x y, env = [.val (intsD ns), .val (.int n), .val (.int u), .val (.int ((i : Int) * u / n)), x, y]) (rngD 0 n.toNat) 0 [.val (intsD ns), .val (.int n), .val (.int u), .val (.int 0), .un, .un] (fun i d env hd hp => by
        obtain ⟨x, y, rfl⟩ := hp
        obtain ⟨hi, rfl⟩ := rng_get hd
        have hs := share_spec u n i (by omega) (by omega) (by omega) (by omega)
        have hn := share_nonneg i u0 (show 0 < n by omega)
        have e0 : (0 : Int) + (i : Int) = i := Int.zero_add _
        have e1 : ((0 + i : Nat) : Int) = (i : Int) := by omega
        have e2 : ((0 + i + 1 : Nat) : Int) = (i : Int) + 1 := by omega
        have e3 : (i : Int) * u / n + (((i : Int) + 1) * u / n - (i : Int) * u / n) = ((i : Int) + 1) * u / n := by omega
        rw [e0, e1, e2]
        refine ⟨_, _, rfl, .inl (step_02 _ n u i _ _ x y hw n0 n1 (by omega) (by omega) hs (by omega) rfl), _, _, by rw [e3]⟩) ⟨.un, .un, by simp⟩
    refine ⟨env', for_go hr e, x, y, ?_⟩
    rw [hp, rng_len]
    have : ((0 + n.toNat : Nat) : Int) * u / n = u := by
      rw [show ((0 + n.toNat : Nat) : Int) = n by omega, Int.mul_ediv_cancel_left _ (by omega)]
    rw [this]
  · rintro _ ⟨x, y, rfl⟩
    walk_at "ev"
end Mg
namespace MgL
open PySem PySem.Spec PyProof.Rows L2 Mg
def topS (i : Nat) : Stmt := PySem.Challenge.pw_metergap_k02_days_share.main.body.getD i (.Pass ⟨0, 0, 0, 0⟩)
section
variable {P : Program} {w : World} {K : PySem.W.Frag} {mg : Str → Option Value} {base : Heap} {cl : Xc → Addr} {cM : Addr}
abbrev s_p_share : Stmt := topS 1
abbrev N_p_share : List Str := ["use", "days", "at"]
theorem sc_p_share : FnScope N_p_share ["use", "days", "at"] (defScope s_p_share) := ⟨rfl, rfl, rfl, by decide +kernel, rfl, by decide +kernel, by decide +kernel⟩
theorem ok_p_share {f : Addr} {fd : FuncData} (Fn : Fun K "share" "share" s_p_share f fd) (hm : mg "share" = some (.ref f)) : FG P w K mg base cl "share" 1 3 f_p_share :=
  def_ok Fn hm (Fn.binds (ps := ["use", "days", "at"]) fun _ _ _ _ _ _ us hl => match us, hl with | [_, _, _], _ => rfl) sc_p_share fun cdv A outer s H E hr => have hu := hr.units; (ss_one (ss_ret (se_sub (se_fdiv (se_mul (se_add (se_var 2) se_int) (se_var 0)) (se_var 1)) (se_fdiv (se_mul (se_var 2) (se_var 0)) (se_var 1)))))
abbrev s_l_cell_at : Stmt := topS 3
abbrev N_l_cell_at : List Str := ["_law_script", "_law_k"]
theorem sc_l_cell_at : FnScope N_l_cell_at ["_law_script", "_law_k"] (defScope s_l_cell_at) := ⟨rfl, rfl, rfl, by decide +kernel, rfl, by decide +kernel, by decide +kernel⟩
theorem ok_l_cell_at {f : Addr} {fd : FuncData} (Fn : Fun K "_law_cell_at" "_law_cell_at" s_l_cell_at f fd) (hm : mg "_law_cell_at" = some (.ref f)) (z_len : mg "len" = none) : FG P w K mg base cl "_law_cell_at" 1 2 f_l_cell_at :=
  def_ok Fn hm (Fn.binds (ps := ["_law_script", "_law_k"]) fun _ _ _ _ _ _ us hl => match us, hl with | [_, _], _ => rfl) sc_l_cell_at fun cdv A outer s H E hr => have hu := hr.units; (ss_cons (ss_if (st_cmp op_lt og_lt (se_var 1) (se_len z_len (se_var 0)) (nomark _)) (ss_one (ss_ret (se_ix (se_var 0) (se_var 1) (fun _ _ => rfl)))) ss_nil) (ss_one (ss_ret se_int)))
abbrev s_l_whole : Stmt := topS 4
abbrev N_l_whole : List Str := ["_law_found"]
theorem sc_l_whole : FnScope N_l_whole ["_law_found"] (defScope s_l_whole) := ⟨rfl, rfl, rfl, by decide +kernel, rfl, by decide +kernel, by decide +kernel⟩
theorem ok_l_whole {f : Addr} {fd : FuncData} (Fn : Fun K "_law_whole" "_law_whole" s_l_whole f fd) (hm : mg "_law_whole" = some (.ref f)) (z_isinstance : mg "isinstance" = none) (z_bool : mg "bool" = none) (z_int : mg "int" = none) : FG P w K mg base cl "_law_whole" 1 1 f_l_whole :=
  def_ok Fn hm (Fn.binds (ps := ["_law_found"]) fun _ _ _ _ _ _ us hl => match us, hl with | [_], _ => rfl) sc_l_whole fun cdv A outer s H E hr => have hu := hr.units; (ss_one (ss_ret (se_and (se_isA (T := "int") z_isinstance z_int (se_var 0)) (se_one (se_not (se_isA (T := "bool") z_isinstance z_bool (se_var 0)))))))
abbrev s_law_02 : Stmt := topS 5
abbrev N_law_02 : List Str := ["_law_script", "_law_days", "_law_use", "_law_total", "_law_at", "_law_found"]
theorem sc_law_02 : FnScope N_law_02 ["_law_script"] (defScope s_law_02) := ⟨rfl, rfl, rfl, by decide +kernel, rfl, by decide +kernel, by decide +kernel⟩
theorem ok_law {f : Addr} {fd : FuncData} (Fn : Fun K "law" "law" s_law_02 f fd) (z_range : mg "range" = none) (g_l_cell_at : FG P w K mg base cl "_law_cell_at" 1 2 f_l_cell_at) (g_p_share : FG P w K mg base cl "share" 1 3 f_p_share) (g_l_whole : FG P w K mg base cl "_law_whole" 1 1 f_l_whole) (true_ : ∀ ns : List Int, ns.length ≤ 63 → f_law_02 [.list (ns.map .int)] = .ok (.bool true)) : FnOk P w K mg base CX0 2 f fd ["_law_script"] (spLaw K) :=
  law_ok Fn sc_law_02 true_ fun cdv A outer s H E hr => have hu := hr.units; (ss_cons (ss_set 1 sc_law_02.nd (se_add se_int (se_mod (se_call g_l_cell_at (hr.mono (by decide)) takes_none (sa_cons (se_var 0) (sa_cons se_int sa_nil))) se_int))) (ss_cons (ss_if (st_cmp (op_eq.or (op_eqD hu)) og_eq (se_mod (se_call g_l_cell_at (hr.mono (by decide)) takes_none (sa_cons (se_var 0) (sa_cons se_int sa_nil))) se_int) se_int (nomark _)) (ss_one (ss_set 1 sc_law_02.nd (se_add se_int (se_mod (se_call g_l_cell_at (hr.mono (by decide)) takes_none (sa_cons (se_var 0) (sa_cons se_int sa_nil))) se_int)))) ss_nil) (ss_cons (ss_set 2 sc_law_02.nd (se_mod (se_call g_l_cell_at (hr.mono (by decide)) takes_none (sa_cons (se_var 0) (sa_cons se_int sa_nil))) (se_add (se_pow se_int se_int) se_int))) (ss_cons (ss_if (st_cmp (op_eq.or (op_eqD hu)) og_eq (se_mod (se_call g_l_cell_at (hr.mono (by decide)) takes_none (sa_cons (se_var 0) (sa_cons se_int sa_nil))) se_int) se_int (nomark _)) (ss_one (ss_set 2 sc_law_02.nd (se_mod (se_var 2) (se_add (se_mul se_int (se_var 1)) se_int)))) ss_nil) (ss_cons (ss_set 3 sc_law_02.nd se_int) (ss_cons (ss_for PassesOwn.never rfl (si_rng1 z_range (se_var 1)) (pg_name (i := 4) sc_law_02.nd rfl (Or.inl rfl)) (gb_name 4) (ss_cons (ss_if (st_cmp (op_ne.or (op_neD hu)) og_ne (se_var 3) (se_fdiv (se_mul (se_var 4) (se_var 2)) (se_var 1)) (nomark _)) (ss_one (ss_ret se_bool)) ss_nil) (ss_cons (ss_set 5 sc_law_02.nd (se_call g_p_share (hr.mono (by decide)) takes_none (sa_cons (se_var 2) (sa_cons (se_var 1) (sa_cons (se_var 4) sa_nil))))) (ss_cons (ss_if (SW.st (sw_or (st_not (st_val (se_call g_l_whole (hr.mono (by decide)) takes_none (sa_cons (se_var 5) sa_nil)))) (sw_or1 (st_cmp op_lt og_lt (se_var 5) se_int (nomark _))))) (ss_one (ss_ret se_bool)) ss_nil) (ss_one (ss_set 3 sc_law_02.nd (se_add (se_var 3) (se_var 5)))))))) (ss_one (ss_ret (se_cmp (op_eq.or (op_eqD hu)) og_eq (se_var 3) (se_var 2) (nomark _))))))))))
end
theorem all_mk {l : PySem.W.OpenLaw} {w : World} {K : PySem.W.Frag} {h : Heap} {mg : Str → Option Value} {fa f0 f1 f2 f3 : Addr} (X : K.In h) (G : h.Ns mainGlobals mg) (hfa : mg "law" = some (.ref fa))
    {od0 an0 od1 an1 od2 an2 od3 an3 : Option Addr} {sl0 sl1 sl2 sl3 : Array (Option Value)} {oc0 kV0 dc0 pm0 cd0 ct0 oc1 kV1 dc1 pm1 cd1 ct1 oc2 kV2 dc2 pm2 cd2 ct2 oc3 kV3 dc3 pm3 cd3 ct3 : Value}
    (a0 : PySem.W.nsIn K mainGlobals "share" = some (some (.ref f0))) (l0 : K.lookup f0 = some ⟨oc0, od0, .func (PySem.W.fnOf "share" "share" (defArgs s_p_share) (defBody s_p_share) (defScope s_p_share) .none kV0 dc0 pm0 an0 cd0 ct0), sl0⟩) (c0 : PySem.W.codeIn K cd0 "share" = true) (k0 : PySem.W.keepIn K (.ref f0) = true)
    (a1 : PySem.W.nsIn K mainGlobals "_law_cell_at" = some (some (.ref f1))) (l1 : K.lookup f1 = some ⟨oc1, od1, .func (PySem.W.fnOf "_law_cell_at" "_law_cell_at" (defArgs s_l_cell_at) (defBody s_l_cell_at) (defScope s_l_cell_at) .none kV1 dc1 pm1 an1 cd1 ct1), sl1⟩) (c1 : PySem.W.codeIn K cd1 "_law_cell_at" = true) (k1 : PySem.W.keepIn K (.ref f1) = true)
    (a2 : PySem.W.nsIn K mainGlobals "_law_whole" = some (some (.ref f2))) (l2 : K.lookup f2 = some ⟨oc2, od2, .func (PySem.W.fnOf "_law_whole" "_law_whole" (defArgs s_l_whole) (defBody s_l_whole) (defScope s_l_whole) .none kV2 dc2 pm2 an2 cd2 ct2), sl2⟩) (c2 : PySem.W.codeIn K cd2 "_law_whole" = true) (k2 : PySem.W.keepIn K (.ref f2) = true)
    (a3 : PySem.W.nsIn K mainGlobals "law" = some (some (.ref f3))) (l3 : K.lookup f3 = some ⟨oc3, od3, .func (PySem.W.fnOf "law" "law" (defArgs s_law_02) (defBody s_law_02) (defScope s_law_02) .none kV3 dc3 pm3 an3 cd3 ct3), sl3⟩) (c3 : PySem.W.codeIn K cd3 "law" = true) (k3 : PySem.W.keepIn K (.ref f3) = true)
    (z_len : PySem.W.nsIn K mainGlobals "len" = some none)
    (z_isinstance : PySem.W.nsIn K mainGlobals "isinstance" = some none)
    (z_bool : PySem.W.nsIn K mainGlobals "bool" = some none)
    (z_int : PySem.W.nsIn K mainGlobals "int" = some none)
    (z_range : PySem.W.nsIn K mainGlobals "range" = some none)
    (true_ : ∀ ns : List Int, ns.length ≤ 63 → f_law_02 [.list (ns.map .int)] = .ok (.bool true)) :
    ∃ fd : FuncData, (∀ (s : Shared) (v : Value), BindsTo s fd ⟨[v], []⟩ [("_law_script", v)]) ∧ ∀ base : Heap, K.In base → base.Ns mainGlobals mg → FnOk l.prog w K mg base CX0 2 fa fd ["_law_script"] (spLaw K) := by
  have e := hfa.symm.trans (PySem.W.mg_of X G a3)
  cases e
  have z_len := PySem.W.mg_none_of X G z_len
  have z_isinstance := PySem.W.mg_none_of X G z_isinstance
  have z_bool := PySem.W.mg_none_of X G z_bool
  have z_int := PySem.W.mg_none_of X G z_int
  have z_range := PySem.W.mg_none_of X G z_range
  have cl : Xc → Addr := fun _ => 0
  refine ⟨PySem.W.fnOf "law" "law" (defArgs s_law_02) (defBody s_law_02) (defScope s_law_02) .none kV3 dc3 pm3 an3 cd3 ct3, fun s v => .of_eq rfl, fun base _ _ => ?_⟩
  have g_p_share := ok_p_share (P := l.prog) (w := w) (base := base) (cl := cl) (fun_mk (st := s_p_share) l0 c0 k0) (PySem.W.mg_of X G a0)
  have g_l_cell_at := ok_l_cell_at (P := l.prog) (w := w) (base := base) (cl := cl) (fun_mk (st := s_l_cell_at) l1 c1 k1) (PySem.W.mg_of X G a1) z_len
  have g_l_whole := ok_l_whole (P := l.prog) (w := w) (base := base) (cl := cl) (fun_mk (st := s_l_whole) l2 c2 k2) (PySem.W.mg_of X G a2) z_isinstance z_bool z_int
  exact ok_law (P := l.prog) (w := w) (base := base) (cl := cl) (fun_mk (st := s_law_02) l3 c3 k3) z_range g_l_cell_at g_p_share g_l_whole true_
theorem law_true : ∀ ns : List Int, ns.length ≤ 63 → f_law_02 [.list (ns.map .int)] = .ok (.bool true) := Mg.law_true_02
end MgL
open PySem PySem.W PyProof.Rows
set_option maxHeartbeats 0 in
theorem PySem.Challenge.cw_metergap_k02_days_share_holds : PySem.Challenge.rw_metergap_k02_days_share.Holds := by
  w_on; o_law; k_head; (case hw => w_witness2)
  k_fill
  refine L2.walk_of (l := PySem.Challenge.rw_metergap_k02_days_share) (n := 63) (k := 2) (x := "_law_script") (CX := fun _ => L2.CX0) (sp := fun w => Mg.spLaw _) rfl (by decide) rfl ⟨rfl, by decide, by decide⟩ (fun w h Y => PySem.W.kIn_of Y) ?F (fun _ _ a ns hl _ hS => ⟨a, ns, rfl, hS, hl, fun _ => rfl⟩) (fun _ _ _ _ _ h => h)
  case F =>
    intro w mg fa h KX G hmg
    refine' MgL.all_mk KX G hmg ?a0 ?l0 ?c0 ?k0 ?a1 ?l1 ?c1 ?k1 ?a2 ?l2 ?c2 ?k2 ?a3 ?l3 ?c3 ?k3 ?z_len ?z_isinstance ?z_bool ?z_int ?z_range MgL.law_true
    (case a0 => k_is)
    (case l0 => k_is)
    (case c0 => k_is)
    (case k0 => k_is)
    (case a1 => k_is)
    (case l1 => k_is)
    (case c1 => k_is)
    (case k1 => k_is)
    (case a2 => k_is)
    (case l2 => k_is)
    (case c2 => k_is)
    (case k2 => k_is)
    (case a3 => k_is)
    (case l3 => k_is)
    (case c3 => k_is)
    (case k3 => k_is)
    (case z_len => k_is)
    (case z_isinstance => k_is)
    (case z_bool => k_is)
    (case z_int => k_is)
    (case z_range => k_is)
