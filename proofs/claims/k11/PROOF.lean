import PyProof.Rows.All
import Wide.All
import OpenK.AllK
import Wide.FinOn
import HandS.ForMost
import HandS.ForExc
import HandS.TupAny
import HandS.IsInst
import HandS.ExcIs
import HandS.Deep
import HandS.HotCalls
import HandS.SetFor
import KE.SortData
import HandS.Dict
import HandS.Conv
import PySem.Challenge.RW_metergap_k11_whole_plays
set_option Elab.async false
set_option linter.all false
set_option maxRecDepth 100000
set_option maxHeartbeats 8000000
namespace Mg
open PySem PySem.Spec PyProof.Rows L2
abbrev D := PyData
abbrev St := L2.St

/-! ### two heaps: F, the frozen part, below H, all that is tracked -/
structure Step (F H F' H' : Hp) : Prop where
  fr : Same F F'
  inn : Same F' H'
  pv : ∀ a o, H a = some o → F a = none → F' a = none ∧ H' a = some o
section
variable {F H F1 H1 F2 H2 F' H' : Hp} {p a : Addr} {o : HO} {K : PySem.W.Frag}
theorem Step.refl (h : Same F H) : Step F H F H := ⟨Same.refl F, h, fun _ _ a b => ⟨b, a⟩⟩
theorem Step.trans (a : Step F H F1 H1) (b : Step F1 H1 F2 H2) : Step F H F2 H2 :=
  ⟨a.fr.trans b.fr, b.inn, fun c o h n => let ⟨n1, h1⟩ := a.pv c o h n; b.pv c o h1 n1⟩
theorem Step.same (i : Same F H) (a : Step F H F' H') : Same H H' := fun c o h => by
  cases q : F c with
  | none => exact (a.pv c o h q).2
  | some u =>
    have e := i c u q
    rw [h] at e
    cases e
    exact a.inn c o (a.fr c o q)
theorem none_of_same (i : Same F H) (n : H p = none) : F p = none := i.free n
theorem same_upd2 (i : Same F H) (n : H p = none) : Same (upd F p o) (upd H p o) := fun b u e => by
  by_cases hb : b = p
  · subst hb
    rw [upd_same] at e ⊢
    exact e
  · rw [upd_ne hb] at e ⊢
    exact i b u e
theorem same_new (n : H p = none) : Same H (upd H p o) := fun b u e => by
  rw [upd_ne (ne_of_none e n)]
  exact e
theorem Step.new (i : Same F H) (n : H p = none) : Step F H (upd F p o) (upd H p o) :=
  ⟨same_new (i.free n), same_upd2 i n, fun b u e f => by
    have hb : b ≠ p := ne_of_none e n
    rw [upd_ne hb, upd_ne hb]
    exact ⟨f, e⟩⟩
theorem Step.priv (i : Same F H) (n : H p = none) : Step F H F (upd H p o) :=
  ⟨Same.refl F, i.trans (same_new n), fun b u e f => by
    rw [upd_ne (ne_of_none e n)]
    exact ⟨f, e⟩⟩
/-- a private object is frozen -/
theorem Step.frz (s : Step F H F' H') (n : H p = none) (f : F' p = none) (h : H' p = some o) : Step F H (upd F' p o) H' :=
  ⟨s.fr.trans (same_new f), fun b u e => by
    by_cases hb : b = p
    · subst hb
      rw [upd_same] at e
      cases e
      exact h
    · rw [upd_ne hb] at e
      exact s.inn b u e,
   fun b u e g => by
    rw [upd_ne (ne_of_none e n)]
    exact s.pv b u e g⟩
theorem same_seqT {xs : List V} (e : Same H H') (h : SqT K H a xs) : SqT K H' a xs := by
  rcases h with (h | ⟨o, h⟩) | h
  · exact .inl (.inl (e _ _ h))
  · exact .inl (.inr ⟨o, e _ _ h⟩)
  · exact .inr h
mutual
theorem dp_mono (e : Same H H') : ∀ {v : V} {d : D}, Dp K H v d → Dp K H' v d
  | _, _, .non => .non
  | _, _, .bl b => .bl b
  | _, _, .int i => .int i
  | _, _, .str x => .str x
  | _, _, .lst h hs => .lst (e.seq h) (dps_mono e hs)
  | _, _, .tup h hs => .tup (same_seqT e h) (dps_mono e hs)
theorem dps_mono (e : Same H H') : ∀ {vs : List V} {ds : List D}, DpAll K H vs ds → DpAll K H' vs ds
  | _, _, .nil => .nil
  | _, _, .cons h hs => .cons (dp_mono e h) (dps_mono e hs)
end
theorem dps_len : ∀ {vs : List V} {ds : List D}, DpAll K H vs ds → vs.length = ds.length
  | _, _, .nil => rfl
  | _, _, .cons _ hs => congrArg (· + 1) (dps_len hs)
theorem dps_get : ∀ {vs : List V} {ds : List D} {i : Nat} {v : V}, DpAll K H vs ds → vs[i]? = some v → ∃ d, ds[i]? = some d ∧ Dp K H v d
  | _, _, _, _, .nil, e => by simp at e
  | _, _, 0, _, .cons h _, e => by
    simp at e
    subst e
    exact ⟨_, rfl, h⟩
  | _, _, i + 1, v, .cons _ hs, e => by
    obtain ⟨d, h1, h2⟩ := dps_get (i := i) (v := v) hs (by simpa using e)
    exact ⟨d, by simpa using h1, h2⟩
theorem dps_get' : ∀ {vs : List V} {ds : List D} {i : Nat} {d : D}, DpAll K H vs ds → ds[i]? = some d → ∃ v, vs[i]? = some v ∧ Dp K H v d
  | _, _, _, _, .nil, e => by simp at e
  | _, _, 0, _, .cons h _, e => by
    simp at e
    subst e
    exact ⟨_, rfl, h⟩
  | _, _, i + 1, v, .cons _ hs, e => by
    obtain ⟨d, h1, h2⟩ := dps_get' (i := i) (d := v) hs (by simpa using e)
    exact ⟨d, by simpa using h1, h2⟩
theorem dps_app : ∀ {vs us : List V} {ds es : List D}, DpAll K H vs ds → DpAll K H us es → DpAll K H (vs ++ us) (ds ++ es)
  | _, _, _, _, .nil, h => h
  | _, _, _, _, .cons a b, h => .cons a (dps_app b h)
theorem dps_take : ∀ (n : Nat) {vs : List V} {ds : List D}, DpAll K H vs ds → DpAll K H (vs.take n) (ds.take n)
  | 0, _, _, _ => .nil
  | _ + 1, _, _, .nil => .nil
  | n + 1, _, _, .cons a b => .cons a (dps_take n b)
theorem dps_drop : ∀ (n : Nat) {vs : List V} {ds : List D}, DpAll K H vs ds → DpAll K H (vs.drop n) (ds.drop n)
  | 0, _, _, h => h
  | _ + 1, _, _, .nil => .nil
  | n + 1, _, _, .cons _ b => dps_drop n b
theorem dps_set {v : V} {d : D} (r : Dp K H v d) : ∀ (i : Nat) {vs : List V} {ds : List D}, DpAll K H vs ds → DpAll K H (vs.set i v) (ds.set i d)
  | _, _, _, .nil => .nil
  | 0, _, _, .cons _ b => .cons r b
  | i + 1, _, _, .cons a b => .cons a (dps_set r i b)
theorem dps_ints : ∀ (ns : List Int), DpAll K H (ns.map V.int) (ns.map PyData.int)
  | [] => .nil
  | _ :: r => .cons (.int _) (dps_ints r)
end

/-! ### answers -/
/-- the five refusals -/
inductive Xc where
  | noMeter | stands | notLater | noValue | noReading
  deriving DecidableEq
inductive An (α : Type) where
  | bad
  | ok (a : α)
  | exc (c : Xc)
def An.bnd {α β : Type} (a : An α) (k : α → An β) : An β := match a with
  | .bad => .bad
  | .ok x => k x
  | .exc c => .exc c
theorem bnd_ok {α β : Type} {x : α} {k : α → An β} : (An.ok x).bnd k = k x := rfl
theorem bnd_exc {α β : Type} {c : Xc} {k : α → An β} : (An.exc c).bnd k = .exc c := rfl
theorem bnd_bad {α β : Type} {k : α → An β} : (An.bad : An α).bnd k = .bad := rfl
/-- a field of a dict of the def's own: data, frozen; a list of its own -/
inductive Fld where
  | d (d : D)
  | l (ds : List D)
/-- a name's value: not known; data, frozen; a list, a dict of the def's own (m: where it and its lists lie, if that is told); the exception that is handled -/
inductive Slot where
  | un
  | val (d : D)
  | own (ds : List D)
  | dic (m : Option (Addr × List Addr)) (fs : List (L2.Key × Fld))
  | err
/-- the written part; where the handled exception lies -/
abbrev KX := PySem.W.Frag × Addr
abbrev Env := List Slot
/-- how a def ends whose state is told: with data; with a tuple of the own list in slot i and data -/
inductive EndK where
  | val (d : D)
  | pair (i : Nat) (d : D)
inductive Out where
  | bad
  | nx (env : Env)
  | ct (env : Env)
  | ret (d : D)
  | exc (c : Xc) (env : Env)
  | rtE (r : EndK) (env : Env)
abbrev EX := Env → An D
abbrev TX := Env → An Bool
abbrev AX := Env → An (List D)
abbrev SX := Env → Out

/-! ### the state -/
inductive FsOk (K : PySem.W.Frag) (B F H : Hp) : List (L2.Key × V) → List (L2.Key × Fld) → List Addr → Prop
  | nil : FsOk K B F H [] [] []
  | d {k : L2.Key} {v : V} {d : D} {kvs : List (L2.Key × V)} {fs : List (L2.Key × Fld)} {bs : List Addr} : Dp K F v d → FsOk K B F H kvs fs bs → FsOk K B F H ((k, v) :: kvs) ((k, .d d) :: fs) bs
  | l {k : L2.Key} {b : Addr} {vs : List V} {ds : List D} {kvs : List (L2.Key × V)} {fs : List (L2.Key × Fld)} {bs : List Addr} : B b = none → F b = none → H b = some (.lst vs) → DpAll K F vs ds → FsOk K B F H kvs fs bs → FsOk K B F H ((k, .ref b) :: kvs) ((k, .l ds) :: fs) (b :: bs)
theorem FsOk.move {K : PySem.W.Frag} {B F H F' H' : Hp} {kvs : List (L2.Key × V)} {fs : List (L2.Key × Fld)} {bs : List Addr} (fr : Same F F') (r : FsOk K B F H kvs fs bs) : (∀ c ∈ bs, ∀ o, F c = none → H c = some o → F' c = none ∧ H' c = some o) → FsOk K B F' H' kvs fs bs := by
  induction r with
  | nil => exact fun _ => .nil
  | d r _ ih => exact fun h => .d (dp_mono fr r) (ih h)
  | l hb hf hv r _ ih => exact fun h => .l hb (h _ List.mem_cons_self _ hf hv).1 (h _ List.mem_cons_self _ hf hv).2 (dps_mono fr r) (ih fun c hc => h c (List.mem_cons_of_mem _ hc))
/-- O: the addresses that the slot owns -/
def SlotOk (k : KX) (B F H : Hp) (O : Addr → Prop) : Slot → Option (Option V) → Prop
  | .un, _ => True
  | .val d, x => ∃ v, x = some (some v) ∧ Dp k.1 F v d
  | .own ds, x => ∃ a vs, x = some (some (.ref a)) ∧ O a ∧ B a = none ∧ F a = none ∧ H a = some (.lst vs) ∧ DpAll k.1 F vs ds
  | .dic m fs, x => ∃ a kvs bs, x = some (some (.ref a)) ∧ (a :: bs).Nodup ∧ (∀ c ∈ a :: bs, O c) ∧ B a = none ∧ F a = none ∧ H a = some (.dK kvs) ∧ (∀ q, m = some q → q = (a, bs)) ∧ FsOk k.1 B F H kvs fs bs
  | .err, x => x = some (some (.ref k.2))
theorem SlotOk.move {k : KX} {B F H F' H' : Hp} {O O' : Addr → Prop} {s : Slot} {x : Option (Option V)} (fr : Same F F') (hO : ∀ c, O c → O' c) (h : ∀ c, O c → ∀ o, F c = none → H c = some o → F' c = none ∧ H' c = some o) (q : SlotOk k B F H O s x) : SlotOk k B F' H' O' s x := by
  cases s with
  | un => trivial
  | val d =>
    obtain ⟨v, e1, r⟩ := q
    exact ⟨v, e1, dp_mono fr r⟩
  | own ds =>
    obtain ⟨a, vs, e1, oa, hb, hf, e2, r⟩ := q
    obtain ⟨z1, z2⟩ := h a oa _ hf e2
    exact ⟨a, vs, e1, hO a oa, hb, z1, z2, dps_mono fr r⟩
  | dic m fs =>
    obtain ⟨a, kvs, bs, e1, nd, oa, hb, hf, e2, hm, r⟩ := q
    obtain ⟨z1, z2⟩ := h a (oa a List.mem_cons_self) _ hf e2
    exact ⟨a, kvs, bs, e1, nd, fun c hc => hO c (oa c hc), hb, z1, z2, hm, r.move fr fun c hc => h c (oa c (List.mem_cons_of_mem _ hc))⟩
  | err => exact q
structure SR (k : KX) (BF B : Hp) (env : Env) (σ : St) (F H : Hp) : Prop where
  len : σ.length = env.length
  stp : Step BF B F H
  bse : Same BF B
  slots : ∃ O : Nat → Addr → Prop, (∀ i s, env[i]? = some s → SlotOk k B F H (O i) s (σ[i]?)) ∧ (∀ i j c, O i c → O j c → i = j) ∧ ∀ i c, O i c → ∃ o, H c = some o
section
variable {k : KX} {BF B F H F' H' : Hp} {env : Env} {σ : St} {i : Nat} {d : D} {ds : List D} {v : V}
theorem SR.inn (s : SR k BF B env σ F H) : Same F H := s.stp.inn
theorem SR.bs (s : SR k BF B env σ F H) : Same B H := s.stp.same s.bse
theorem SR.step (s : SR k BF B env σ F H) (t : Step F H F' H') : SR k BF B env σ F' H' := by
  obtain ⟨O, h1, h2, h3⟩ := s.slots
  refine ⟨s.len, s.stp.trans t, s.bse, O, fun i x e => (h1 i x e).move t.fr (fun _ z => z) fun c _ o hf hh => t.pv c o hh hf, h2, fun i c z => ?_⟩
  obtain ⟨o, q⟩ := h3 i c z
  exact ⟨o, t.same s.inn c o q⟩
theorem SR.val (s : SR k BF B env σ F H) (e : env[i]? = some (.val d)) : ∃ v, σ[i]? = some (some v) ∧ Dp k.1 F v d := by
  obtain ⟨O, h1, _⟩ := s.slots
  exact h1 i _ e
theorem SR.own (s : SR k BF B env σ F H) (e : env[i]? = some (.own ds)) : ∃ a vs, σ[i]? = some (some (.ref a)) ∧ B a = none ∧ F a = none ∧ H a = some (.lst vs) ∧ DpAll k.1 F vs ds := by
  obtain ⟨O, h1, _⟩ := s.slots
  obtain ⟨a, vs, e1, _, hb, hf, e2, r⟩ := h1 i _ e
  exact ⟨a, vs, e1, hb, hf, e2, r⟩
theorem SR.dicAt {m : Option (Addr × List Addr)} {fs : List (L2.Key × Fld)} (s : SR k BF B env σ F H) (e : env[i]? = some (.dic m fs)) : ∃ a kvs bs, σ[i]? = some (some (.ref a)) ∧ B a = none ∧ F a = none ∧ H a = some (.dK kvs) ∧ FsOk k.1 B F H kvs fs bs := by
  obtain ⟨O, h1, _⟩ := s.slots
  obtain ⟨a, kvs, bs, e1, _, _, hb, hf, e2, _, r⟩ := h1 i _ e
  exact ⟨a, kvs, bs, e1, hb, hf, e2, r⟩
theorem SR.dicAtM {a : Addr} {bs : List Addr} {fs : List (L2.Key × Fld)} (s : SR k BF B env σ F H) (e : env[i]? = some (.dic (some (a, bs)) fs)) : ∃ kvs, σ[i]? = some (some (.ref a)) ∧ F a = none ∧ H a = some (.dK kvs) ∧ FsOk k.1 B F H kvs fs bs := by
  obtain ⟨O, h1, _⟩ := s.slots
  obtain ⟨a', kvs, bs', e1, _, _, hb, hf, e2, hm, r⟩ := h1 i _ e
  cases hm _ rfl
  exact ⟨kvs, e1, hf, e2, r⟩
theorem get_set_eq {α : Type} {l : List α} {i j : Nat} {x y : α} (h : (l.set i x)[j]? = some y) : (i = j ∧ y = x ∧ i < l.length) ∨ (i ≠ j ∧ l[j]? = some y) := by
  by_cases hj : i = j
  · subst hj
    by_cases hl : i < l.length
    · rw [List.getElem?_set_self hl] at h
      exact .inl ⟨rfl, (Option.some.inj h).symm, hl⟩
    · rw [List.getElem?_eq_none (by simpa using hl)] at h
      cases h
  · rw [List.getElem?_set_ne hj] at h
    exact .inr ⟨hj, h⟩
theorem SR.set (s : SR k BF B env σ F H) (r : Dp k.1 F v d) : SR k BF B (env.set i (.val d)) (σ.set i (some v)) F H := by
  obtain ⟨O, h1, h2, h3⟩ := s.slots
  refine ⟨by rw [List.length_set, List.length_set]; exact s.len, s.stp, s.bse, O, fun j x e => ?_, h2, h3⟩
  rcases get_set_eq e with ⟨rfl, rfl, hl⟩ | ⟨hj, e⟩
  · exact ⟨v, List.getElem?_set_self (by rw [s.len]; exact hl), r⟩
  · rw [List.getElem?_set_ne hj]
    exact h1 j x e
theorem SR.unset (s : SR k BF B env σ F H) {x : Option V} : SR k BF B (env.set i .un) (σ.set i x) F H := by
  obtain ⟨O, h1, h2, h3⟩ := s.slots
  refine ⟨by rw [List.length_set, List.length_set]; exact s.len, s.stp, s.bse, O, fun j x e => ?_, h2, h3⟩
  rcases get_set_eq e with ⟨rfl, rfl, hl⟩ | ⟨hj, e⟩
  · trivial
  · rw [List.getElem?_set_ne hj]
    exact h1 j x e
/-- something new of one's own, at the addresses cs -/
theorem SR.setNew (s : SR k BF B env σ F H) {p : Addr} {cs : List Addr} {x : Slot} (t : Step F H F' H') (n : ∀ c ∈ cs, H c = none) (w : ∀ c ∈ cs, ∃ o, H' c = some o) (h : i < σ.length → SlotOk k B F' H' (fun c => c ∈ cs) x ((σ.set i (some (.ref p)))[i]?)) : SR k BF B (env.set i x) (σ.set i (some (.ref p))) F' H' := by
  have s' := s.step t
  obtain ⟨O, h1, h2, h3⟩ := s.slots
  have old : ∀ j c, O j c → ¬ c ∈ cs := fun j c z hc => by
    obtain ⟨o, q⟩ := h3 j c z
    rw [n c hc] at q
    cases q
  refine ⟨by rw [List.length_set, List.length_set]; exact s.len, s'.stp, s.bse, fun j c => if j = i then c ∈ cs else O j c, fun j y e => ?_, fun j l c a1 a2 => ?_, fun j c a1 => ?_⟩
  · rcases get_set_eq e with ⟨rfl, rfl, hl⟩ | ⟨hj, e⟩
    · refine (h (by rw [s.len]; exact hl)).move (Same.refl _) (fun c hc => ?_) fun c _ o z1 z2 => ⟨z1, z2⟩
      show if _ = _ then c ∈ cs else _
      rw [if_pos rfl]
      exact hc
    · rw [List.getElem?_set_ne hj]
      refine (h1 j y e).move t.fr (fun c hc => ?_) fun c _ o hf hh => t.pv c o hh hf
      show if j = i then c ∈ cs else O j c
      rw [if_neg (Ne.symm hj)]
      exact hc
  · have a1 : (if j = i then c ∈ cs else O j c) := a1
    have a2 : (if l = i then c ∈ cs else O l c) := a2
    by_cases e1 : j = i
    · rw [if_pos e1] at a1
      by_cases e2 : l = i
      · exact e1.trans e2.symm
      · rw [if_neg e2] at a2
        exact absurd a1 (old l c a2)
    · rw [if_neg e1] at a1
      by_cases e2 : l = i
      · rw [if_pos e2] at a2
        exact absurd a2 (old j c a1)
      · rw [if_neg e2] at a2
        exact h2 j l c a1 a2
  · have a1 : (if j = i then c ∈ cs else O j c) := a1
    by_cases e1 : j = i
    · rw [if_pos e1] at a1
      exact w c a1
    · rw [if_neg e1] at a1
      obtain ⟨o, q⟩ := h3 j c a1
      exact ⟨o, t.same s.inn c o q⟩
/-- a new list of one's own -/
theorem SR.setOwn (s : SR k BF B env σ F H) {p : Addr} {vs : List V} (t : Step F H F' H') (n : H p = none) (f : F' p = none) (h : H' p = some (.lst vs)) (r : DpAll k.1 F' vs ds) : SR k BF B (env.set i (.own ds)) (σ.set i (some (.ref p))) F' H' := by
  refine s.setNew (cs := [p]) t (fun c hc => ?_) (fun c hc => ?_) fun hl => ⟨p, vs, List.getElem?_set_self hl, List.mem_singleton.mpr rfl, s.bs.free n, f, h, r⟩
  · rw [List.mem_singleton.mp hc]
    exact n
  · rw [List.mem_singleton.mp hc]
    exact ⟨_, h⟩
/-- a new dict of one's own -/
theorem SR.setDic (s : SR k BF B env σ F H) {p : Addr} {kvs : List (L2.Key × V)} {fs : List (L2.Key × Fld)} {bs : List Addr} (t : Step F H F' H') (nd : (p :: bs).Nodup) (n : ∀ c ∈ p :: bs, H c = none) (w : ∀ c ∈ p :: bs, ∃ o, H' c = some o) (f : F' p = none) (h : H' p = some (.dK kvs)) (r : FsOk k.1 B F' H' kvs fs bs) : SR k BF B (env.set i (.dic none fs)) (σ.set i (some (.ref p))) F' H' :=
  s.setNew (cs := p :: bs) t n w fun hl => ⟨p, kvs, bs, List.getElem?_set_self hl, nd, fun _ z => z, s.bs.free (n p List.mem_cons_self), f, h, fun _ z => (nomatch z), r⟩
/-- what slot i owns at a becomes another thing -/
theorem SR.mutAt (s : SR k BF B env σ F H) {a : Addr} {o : HO} {x : Slot} {O : Nat → Addr → Prop} (h1 : ∀ i s, env[i]? = some s → SlotOk k B F H (O i) s (σ[i]?)) (h2 : ∀ i j c, O i c → O j c → i = j) (h3 : ∀ i c, O i c → ∃ o, H c = some o) (oa : O i a) (hb : B a = none) (hf : F a = none) (h : SlotOk k B F (upd H a o) (O i) x (σ[i]?)) : SR k BF B (env.set i x) σ F (upd H a o) := by
  refine ⟨by rw [List.length_set]; exact s.len, ⟨s.stp.fr, fun b o q => ?_, fun b o q n => ?_⟩, s.bse, O, fun j y ej => ?_, h2, fun j c z => ?_⟩
  · rw [upd_ne (ne_of_none q hf)]
    exact s.stp.inn b o q
  · rw [upd_ne (ne_of_none q hb)]
    exact s.stp.pv b o q n
  · rcases get_set_eq ej with ⟨rfl, rfl, hl⟩ | ⟨hj, ej⟩
    · exact h
    · refine (h1 j y ej).move (Same.refl _) (fun _ z => z) fun c hc o z1 z2 => ⟨z1, ?_⟩
      rw [upd_ne (show c ≠ a from fun z => hj (h2 _ _ _ oa (by rw [← z]; exact hc)))]
      exact z2
  · by_cases e : c = a
    · subst e
      exact ⟨_, upd_same⟩
    · rw [upd_ne e]
      exact h3 j c z
/-- the own list in slot i becomes another one -/
theorem SR.mut (s : SR k BF B env σ F H) {a : Addr} {es : List D} {us : List V} (e : env[i]? = some (.own ds)) (ea : σ[i]? = some (some (.ref a))) (r : DpAll k.1 F us es) : SR k BF B (env.set i (.own es)) σ F (upd H a (.lst us)) := by
  obtain ⟨O, h1, h2, h3⟩ := s.slots
  obtain ⟨a', vs, e1, oa, hb, hf, e2, _⟩ := h1 i _ e
  obtain rfl : a = a' := by
    rw [e1] at ea
    exact (V.ref.inj (Option.some.inj (Option.some.inj ea))).symm
  exact s.mutAt h1 h2 h3 oa hb hf ⟨a, us, e1, oa, hb, hf, upd_same, r⟩
/-- the own dict in slot i gets other pairs -/
theorem SR.mutDic {m : Option (Addr × List Addr)} (s : SR k BF B env σ F H) {a : Addr} {fs fs' : List (L2.Key × Fld)} {kvs kvs' : List (L2.Key × V)} (e : env[i]? = some (.dic m fs)) (ea : σ[i]? = some (some (.ref a))) (ek : H a = some (.dK kvs)) (r : ∀ bs, FsOk k.1 B F H kvs fs bs → FsOk k.1 B F H kvs' fs' bs) : SR k BF B (env.set i (.dic m fs')) σ F (upd H a (.dK kvs')) := by
  obtain ⟨O, h1, h2, h3⟩ := s.slots
  obtain ⟨a', kvs0, bs, e1, nd, oa, hb, hf, e2, hm, r0⟩ := h1 i _ e
  obtain rfl : a = a' := by
    rw [e1] at ea
    exact (V.ref.inj (Option.some.inj (Option.some.inj ea))).symm
  rw [e2] at ek
  cases ek
  refine s.mutAt h1 h2 h3 (oa a List.mem_cons_self) hb hf ⟨a, kvs', bs, e1, nd, oa, hb, hf, upd_same, hm, (r bs r0).move (Same.refl _) fun c hc o z1 z2 => ⟨z1, ?_⟩⟩
  rw [upd_ne (show c ≠ a from fun z => (List.nodup_cons.mp nd).1 (by rw [← z]; exact hc))]
  exact z2
/-- the own list in slot i is frozen -/
theorem SR.frz (s : SR k BF B env σ F H) (e : env[i]? = some (.own ds)) : ∃ F', Same F F' ∧ SR k BF B (env.set i (.val (.list ds))) σ F' H := by
  obtain ⟨O, h1, h2, h3⟩ := s.slots
  obtain ⟨a, vs, e1, oa, hb, hf, e2, r⟩ := h1 i _ e
  have t : Same F (upd F a (.lst vs)) := same_new hf
  refine ⟨upd F a (.lst vs), t, by rw [List.length_set]; exact s.len, s.stp.frz hb hf e2, s.bse, O, fun j x ej => ?_, h2, h3⟩
  rcases get_set_eq ej with ⟨rfl, rfl, hl⟩ | ⟨hj, ej⟩
  · exact ⟨_, e1, .lst (SqL.of upd_same) (dps_mono t r)⟩
  · refine (h1 j x ej).move t (fun _ z => z) fun c hc o z1 z2 => ⟨?_, z2⟩
    rw [upd_ne (show c ≠ a from fun z => hj (h2 _ _ _ oa (by rw [← z]; exact hc)))]
    exact z1
theorem SR.errAt (s : SR k BF B env σ F H) (e : env[i]? = some .err) : σ[i]? = some (some (.ref k.2)) := by
  obtain ⟨O, h1, _⟩ := s.slots
  exact h1 i _ e
theorem SR.setErr (s : SR k BF B env σ F H) : SR k BF B (env.set i .err) (σ.set i (some (.ref k.2))) F H := by
  obtain ⟨O, h1, h2, h3⟩ := s.slots
  refine ⟨by rw [List.length_set, List.length_set]; exact s.len, s.stp, s.bse, O, fun j x e => ?_, h2, h3⟩
  rcases get_set_eq e with ⟨rfl, rfl, hl⟩ | ⟨hj, e⟩
  · exact List.getElem?_set_self (by rw [s.len]; exact hl)
  · rw [List.getElem?_set_ne hj]
    exact h1 j x e
def Slot.plain : Slot → Bool
  | .err => false
  | _ => true
/-- no name holds an exception -/
def noErr (env : Env) : Bool := env.all Slot.plain
theorem SR.other {ea : Addr} (s : SR k BF B env σ F H) (n : noErr env = true) : SR (k.1, ea) BF B env σ F H := by
  obtain ⟨O, h1, h2⟩ := s.slots
  refine ⟨s.len, s.stp, s.bse, O, fun j x e => ?_, h2⟩
  have q := h1 j x e
  cases x with
  | un => trivial
  | val d => exact q
  | own ds => exact q
  | dic m fs => exact q
  | err =>
    have z := List.all_eq_true.mp n _ (List.mem_of_getElem? e)
    cases z
end

/-! ### what an expression's reading is worth -/
abbrev Wx := Xc → St → Hp → Prop
def Ret {α β : Type} (R : Hp → Hp → Hp → β → α → Prop) (W : Wx) (σ : St) (F H : Hp) (a : An α) (T : (β → Hp → Prop) → Prop) : Prop := match a with
  | .bad => True
  | .ok d => ∀ Q : β → Hp → Prop, (∀ v F' H', Step F H F' H' → R H F' H' v d → Q v H') → T Q
  | .exc c => ∀ Q : β → Hp → Prop, (∀ F' H', Step F H F' H' → W c σ H') → T Q
abbrev RD (K : PySem.W.Frag) : Hp → Hp → Hp → V → D → Prop := fun _ F' _ v d => Dp K F' v d
abbrev RA (K : PySem.W.Frag) : Hp → Hp → Hp → List V → List D → Prop := fun _ F' _ v d => DpAll K F' v d
abbrev RB : Hp → Hp → Hp → Bool → Bool → Prop := fun _ _ _ v d => v = d
/-- a new list -/
abbrev RL (K : PySem.W.Frag) : Hp → Hp → Hp → V → List D → Prop := fun H F' H' v ds => ∃ p vs, v = .ref p ∧ H p = none ∧ F' p = none ∧ H' p = some (.lst vs) ∧ DpAll K F' vs ds
/-- what has come so far goes on -/
theorem Ret.bnd {α β γ δ : Type} {R : Hp → Hp → Hp → β → α → Prop} {R' : Hp → Hp → Hp → δ → γ → Prop} {W : Wx} {σ : St} {F H : Hp} {a : An α} {T : (β → Hp → Prop) → Prop} {k : α → An γ} {T' : β → Hp → (δ → Hp → Prop) → Prop}
    (ga : Ret R W σ F H a T) (hR : ∀ H1 F2 H2 v d, Same H H1 → R' H1 F2 H2 v d → R' H F2 H2 v d) (i : Same F H)
    (hk : ∀ d v F1 H1, a = .ok d → Step F H F1 H1 → R H F1 H1 v d → Ret R' W σ F1 H1 (k d) (T' v H1)) : Ret R' W σ F H (a.bnd k) (fun Q => T fun v H1 => T' v H1 Q) := by
  cases a with
  | bad => trivial
  | exc c => exact fun Q h => ga _ h
  | ok d =>
    show Ret R' W σ F H (k d) _
    cases e : k d with
    | bad => trivial
    | exc c =>
      intro Q h
      refine ga _ fun v F1 H1 st r => ?_
      have q := hk d v F1 H1 rfl st r
      rw [e] at q
      exact q Q fun F' H' st' => h F' H' (st.trans st')
    | ok z =>
      intro Q h
      refine ga _ fun v F1 H1 st r => ?_
      have q := hk d v F1 H1 rfl st r
      rw [e] at q
      exact q Q fun v' F' H' st' r' => h v' F' H' (st.trans st') (hR H1 F' H' v' z (st.same i) r')
theorem RL.back {K : PySem.W.Frag} {H : Hp} : ∀ H1 F2 H2 v d, Same H H1 → RL K H1 F2 H2 v d → RL K H F2 H2 v d := fun H1 F2 H2 v d s ⟨p, vs, a, b, c⟩ => ⟨p, vs, a, s.free b, c⟩

/-! ### judgements -/
def kx (X : Cx) : KX := (X.K, match X.pn with | p :: _ => p.1 | [] => 0)
def SE (X : Cx) (W : Wx) (e : Expr) (f : EX) : Prop := ∃ t : TE, PE X e t ∧ ∀ BF B env σ F H, SR (kx X) BF B env σ F H → Ret (RD X.K) W σ F H (f env) (t σ H)
def SL (X : Cx) (W : Wx) (e : Expr) (f : AX) : Prop := ∃ t : TE, PE X e t ∧ ∀ BF B env σ F H, SR (kx X) BF B env σ F H → Ret (RL X.K) W σ F H (f env) (t σ H)
def SA (X : Cx) (W : Wx) (es : List Expr) (f : AX) : Prop := ∃ t : TA, PA X es t ∧ ∀ BF B env σ F H, SR (kx X) BF B env σ F H → Ret (RA X.K) W σ F H (f env) (t σ H)
def ST (X : Cx) (W : Wx) (e : Expr) (f : TX) : Prop := ∃ t : TT, PT X e t ∧ ∀ BF B env σ F H, SR (kx X) BF B env σ F H → Ret RB W σ F H (f env) (t σ H)
/-- what is wanted behind a statement -/
def EndOk (k : KX) (B : Hp) (v : V) (σ : St) (F H : Hp) : EndK → Prop
  | .val d => Dp k.1 F v d
  | .pair i d => ∃ t a w, v = .ref t ∧ σ[i]? = some (some (.ref a)) ∧ B t = none ∧ F t = none ∧ H t = some (.tup [.ref a, w]) ∧ Dp k.1 F w d
def Post (k : KX) (W : Wx) (BF B : Hp) (E : Ends) (F0 : Hp) : Out → Prop
  | .bad => False
  | .nx env => ∀ σ F H, Same F0 F → SR k BF B env σ F H → E.nx σ H
  | .ct env => ∀ σ F H, Same F0 F → SR k BF B env σ F H → E.ct σ H
  | .ret d => ∀ v F H, Step BF B F H → Dp k.1 F v d → E.rt v H
  | .exc c env => ∀ σ F H, Same F0 F → SR k BF B env σ F H → W c σ H
  | .rtE r env => ∀ v σ F H, Same F0 F → SR k BF B env σ F H → EndOk k B v σ F H r → E.rt v H
def SS (X : Cx) (W : Wx) (st : Stmt) (s : SX) : Prop := ∃ t : TS, PS X st t ∧ ∀ BF B env σ F H E, SR (kx X) BF B env σ F H → Post (kx X) W BF B E F (s env) → t E σ H
def SSs (X : Cx) (W : Wx) (st : List Stmt) (s : SX) : Prop := ∃ t : TS, PSs X st t ∧ ∀ BF B env σ F H E, SR (kx X) BF B env σ F H → Post (kx X) W BF B E F (s env) → t E σ H
end Mg
namespace Mg
open PySem PySem.Spec PyProof.Rows L2
/-! ### denotations of expressions -/
def xVar (i : Nat) : EX := fun env => match env[i]? with
  | some (.val d) => .ok d
  | _ => .bad
def xC (d : D) : EX := fun _ => .ok d
def xOp (o : D → D → An D) (f g : EX) : EX := fun env => (f env).bnd fun a => (g env).bnd fun b => o a b
def xUn (o : D → An D) (f : EX) : EX := fun env => (f env).bnd o
def xApp (o : List D → An D) (f : AX) : EX := fun env => (f env).bnd o
def xAppL (o : List D → An (List D)) (f : AX) : AX := fun env => (f env).bnd o
def xTup (f : AX) : EX := fun env => (f env).bnd fun ds => .ok (.tuple ds)
/-- a fresh list as a value -/
def xL (f : AX) : EX := fun env => (f env).bnd fun ds => .ok (.list ds)
def aNil : AX := fun _ => .ok []
def aCons (f : EX) (g : AX) : AX := fun env => (f env).bnd fun d => (g env).bnd fun ds => .ok (d :: ds)
def oBool : D → An Bool
  | .bool b => .ok b
  | _ => .bad
def tOf (f : EX) : TX := fun env => (f env).bnd oBool
def tAndX (f g : TX) : TX := fun env => (f env).bnd fun b => if b = true then g env else .ok false
def tOrX (f g : TX) : TX := fun env => (f env).bnd fun b => if b = true then .ok true else g env
def tNotX (f : TX) : TX := fun env => (f env).bnd fun b => .ok (!b)
def xAnd (f g : EX) : EX := fun env => (f env).bnd fun d => (oBool d).bnd fun b => if b = true then g env else .ok (.bool false)
def xOr (f g : EX) : EX := fun env => (f env).bnd fun d => (oBool d).bnd fun b => if b = true then .ok (.bool true) else g env
def xNot (f : EX) : EX := fun env => (f env).bnd fun d => (oBool d).bnd fun b => .ok (.bool (!b))

/-! ### operators upon data -/
def oI2 (g : Int → Int → An D) : D → D → An D
  | .int i, .int j => g i j
  | _, _ => .bad
def oSub : D → D → An D := oI2 fun i j => .ok (.int (i - j))
def oMul : D → D → An D := oI2 fun i j => if (-(2 ^ 64) < i ∧ i < 2 ^ 64) ∨ (-(2 ^ 64) < j ∧ j < 2 ^ 64) then .ok (.int (i * j)) else .bad
def oFdiv : D → D → An D := oI2 fun i j => if 0 < j ∧ j < 1073741824 then .ok (.int (i / j)) else .bad
def oMod : D → D → An D := oI2 fun i j => if 0 < j then .ok (.int (i % j)) else .bad
def oPow : D → D → An D := oI2 fun i j => if (0 ≤ j ∧ j ≤ 1000) ∧ (-(2 ^ 64) < i ∧ i < 2 ^ 64) then .ok (.int (i ^ j.toNat)) else .bad
def oLt : D → D → An D := oI2 fun i j => .ok (.bool (decide (i < j)))
def oLe : D → D → An D := oI2 fun i j => .ok (.bool (decide (i ≤ j)))
def oGt : D → D → An D := oI2 fun i j => .ok (.bool (decide (j < i)))
def oGe : D → D → An D := oI2 fun i j => .ok (.bool (decide (j ≤ i)))
/-- ==, of two scalars of one kind -/
def sEq : D → D → Option Bool
  | .int i, .int j => some (decide (i = j))
  | .str x, .str y => some (decide (x = y))
  | .bool x, .bool y => some (decide (x = y))
  | .none, .none => some true
  | _, _ => Option.none
def oEqS (a b : D) : An D := match sEq a b with
  | some r => .ok (.bool r)
  | none => .bad
def oEq (a b : D) : An D := match sEq a b with
  | some r => .ok (.bool r)
  | none => if (SeqAt.shaped a && SeqAt.shaped b) = true then .ok (.bool (PyData.eqv a b)) else .bad
def oNe (a b : D) : An D := match sEq a b with
  | some r => .ok (.bool (!r))
  | none => if (SeqAt.shaped a && SeqAt.shaped b) = true then .ok (.bool (!PyData.eqv a b)) else .bad
def isNone : D → Bool
  | .none => true
  | _ => false
def oIsN (a b : D) : An D := if isNone b = true then .ok (.bool (isNone a)) else .bad
def oIsnN (a b : D) : An D := if isNone b = true then .ok (.bool (!isNone a)) else .bad
/-- ints, tuples -/
def oAdd : D → D → An D
  | .int i, .int j => .ok (.int (i + j))
  | .tuple a, .tuple b => if a.length + b.length ≤ 100000 then .ok (.tuple (a ++ b)) else .bad
  | _, _ => .bad
def oIdx : D → D → An D
  | .list a, .int i => (match atI a i with | some d => .ok d | none => .bad)
  | .tuple a, .int i => (match atI a i with | some d => .ok d | none => .bad)
  | _, _ => .bad
def oNeg : D → An D
  | .int i => .ok (.int (-i))
  | _ => .bad
def cutD (xs : List D) (lo hi : Option Int) : List D := (xs.drop (HT.sIx xs.length 0 lo)).take (HT.sIx xs.length xs.length hi - HT.sIx xs.length 0 lo)
def oSl (a : D) (lo hi : Option Int) : An D := match a with
  | .list xs => .ok (.list (cutD xs lo hi))
  | .tuple xs => .ok (.tuple (cutD xs lo hi))
  | _ => .bad
def oInt : D → An (Option Int)
  | .int i => .ok (some i)
  | _ => .bad
abbrev OX := Env → An (Option Int)
def pNo : OX := fun _ => .ok none
def pAt (f : EX) : OX := fun env => (f env).bnd oInt
def xSl (f : EX) (lo hi : OX) : EX := fun env => (f env).bnd fun a => (lo env).bnd fun l => (hi env).bnd fun u => oSl a l u
def oLen : List D → An D
  | [.list a] => .ok (.int a.length)
  | [.tuple a] => .ok (.int a.length)
  | _ => .bad
def oList : List D → An (List D)
  | [.list a] => .ok a
  | [.tuple a] => .ok a
  | _ => .bad
def oTuple : List D → An D
  | [.list a] => .ok (.tuple a)
  | [.tuple a] => .ok (.tuple a)
  | _ => .bad
def oMin : List D → An D
  | [.int i, .int j] => .ok (.int (if j < i then j else i))
  | _ => .bad
def oMax : List D → An D
  | [.int i, .int j] => .ok (.int (if j > i then j else i))
  | _ => .bad
def oIntOf : List D → An D
  | [.int i] => .ok (.int i)
  | [.bool b] => .ok (.int (if b then 1 else 0))
  | _ => .bad
def tyD : D → String
  | .none => "NoneType"
  | .bool _ => "bool"
  | .int _ => "int"
  | .str _ => "str"
  | .list _ => "list"
  | .tuple _ => "tuple"
  | .dict _ => "dict"
/-- isinstance(x, T), T a built-in type -/
def oIsA (T : String) (d : D) : An D := match kitB (tyD d) T with
  | some b => .ok (.bool b)
  | none => .bad

/-! ### the rules by values -/
section
variable {K : PySem.W.Frag} {W : Wx} {σ : St} {F H : Hp}
theorem ret_of {α β : Type} {R : Hp → Hp → Hp → β → α → Prop} {d : α} {v : β} {T : (β → Hp → Prop) → Prop} (i : Same F H) (h : ∀ Q : β → Hp → Prop, Q v H → T Q) (r : R H F H v d) : Ret R W σ F H (.ok d) T :=
  fun Q q => h Q (q v F H (Step.refl i) r)
/-- a new object at p -/
theorem ret_new {d : D} {o : HO} {T : (V → Hp → Prop) → Prop} (i : Same F H) (h : ∀ Q : VK, (∀ p, H p = none → Q (.ref p) (upd H p o)) → T Q) (r : ∀ p F', Same F F' → F' p = some o → Dp K F' (.ref p) d) : Ret (RD K) W σ F H (.ok d) T :=
  fun Q q => h Q fun p hp => q _ (upd F p o) _ (Step.new i hp) (r p _ (same_new (i.free hp)) upd_same)
theorem ret_newL {ds : List D} {vs : List V} {T : (V → Hp → Prop) → Prop} (i : Same F H) (h : ∀ Q : VK, (∀ p, H p = none → Q (.ref p) (upd H p (.lst vs))) → T Q) (r : DpAll K F vs ds) : Ret (RL K) W σ F H (.ok ds) T :=
  fun Q q => h Q fun p hp => q _ F _ (Step.priv i hp) ⟨p, vs, rfl, hp, i.free hp, upd_same, r⟩
def OG (K : PySem.W.Frag) (W : Wx) (r : R2) (o : D → D → An D) : Prop := ∀ F H σ x y a b, Same F H → Dp K F x a → Dp K F y b → Ret (RD K) W σ F H (o a b) (r x y H)
def UG (K : PySem.W.Frag) (W : Wx) (r : V → Hp → VK → Prop) (o : D → An D) : Prop := ∀ F H σ x a, Same F H → Dp K F x a → Ret (RD K) W σ F H (o a) (r x H)
def CG (K : PySem.W.Frag) (W : Wx) (r : List V → Hp → VK → Prop) (o : List D → An D) : Prop := ∀ F H σ vs ds, Same F H → DpAll K F vs ds → Ret (RD K) W σ F H (o ds) (r vs H)
def CGL (K : PySem.W.Frag) (W : Wx) (r : List V → Hp → VK → Prop) (o : List D → An (List D)) : Prop := ∀ F H σ vs ds, Same F H → DpAll K F vs ds → Ret (RL K) W σ F H (o ds) (r vs H)
theorem og_i {C : Int → Int → Prop} {g : Int → Int → V} {g' : Int → Int → An D} (h : ∀ i j, g' i j = .bad ∨ (C i j ∧ ∃ d, g' i j = .ok d ∧ Dp K F (g i j) d)) {x y : V} {a b : D} (i : Same F H) (ra : Dp K F x a) (rb : Dp K F y b) : Ret (RD K) W σ F H (oI2 g' a b) (rI C g x y H) := by
  unfold oI2
  split
  · cases ra
    cases rb
    rename_i m n
    rcases h m n with e | ⟨c, d, e, r⟩
    · rw [e]
      trivial
    · rw [e]
      exact ret_of i (fun Q q => ⟨m, n, rfl, rfl, c, q⟩) r
  · trivial
theorem og_i0 {g : Int → Int → V} {g' : Int → Int → D} (h : ∀ F i j, Dp K F (g i j) (g' i j)) : OG K W (rI0 g) (oI2 fun i j => .ok (g' i j)) := by
  intro F H σ x y a b i ra rb
  unfold oI2
  split
  · cases ra
    cases rb
    rename_i m n
    exact ret_of i (fun Q q => ⟨m, n, rfl, rfl, q⟩) (h F m n)
  · trivial
theorem og_sub : OG K W (rI0 fun i j => .int (i - j)) oSub := og_i0 fun _ _ _ => .int _
theorem og_lt : OG K W (rI0 fun i j => .bl (decide (i < j))) oLt := og_i0 fun _ _ _ => .bl _
theorem og_le : OG K W (rI0 fun i j => .bl (decide (i ≤ j))) oLe := og_i0 fun _ _ _ => .bl _
theorem og_gt : OG K W (rI0 fun i j => .bl (decide (j < i))) oGt := og_i0 fun _ _ _ => .bl _
theorem og_ge : OG K W (rI0 fun i j => .bl (decide (j ≤ i))) oGe := og_i0 fun _ _ _ => .bl _
theorem og_mod : OG K W (rI (fun _ j => 0 < j) fun i j => .int (i % j)) oMod := by
  intro F H σ x y a b i ra rb
  refine og_i (fun m n => ?_) i ra rb
  by_cases h : 0 < n
  · exact .inr ⟨h, _, if_pos h, .int _⟩
  · exact .inl (if_neg h)
theorem og_fdiv : OG K W (rI CDiv fun i j => .int (i / j)) oFdiv := by
  intro F H σ x y a b i ra rb
  refine og_i (fun m n => ?_) i ra rb
  by_cases h : 0 < n ∧ n < 1073741824
  · exact .inr ⟨h, _, if_pos h, .int _⟩
  · exact .inl (if_neg h)
theorem og_mul : OG K W (rI CMul fun i j => .int (i * j)) oMul := by
  intro F H σ x y a b i ra rb
  refine og_i (fun m n => ?_) i ra rb
  by_cases h : (-(2 ^ 64) < m ∧ m < 2 ^ 64) ∨ (-(2 ^ 64) < n ∧ n < 2 ^ 64)
  · exact .inr ⟨h, _, if_pos h, .int _⟩
  · exact .inl (if_neg h)
theorem og_pow : OG K W (rI CPow fun i j => .int (i ^ j.toNat)) oPow := by
  intro F H σ x y a b i ra rb
  refine og_i (fun m n => ?_) i ra rb
  by_cases h : (0 ≤ n ∧ n ≤ 1000) ∧ (-(2 ^ 64) < m ∧ m < 2 ^ 64)
  · refine .inr ⟨⟨h.1.1, Int.le_trans h.1.2 (by decide), ?_⟩, _, if_pos h, .int _⟩
    have := h.2
    omega
  · exact .inl (if_neg h)
theorem sEq_of {x y : V} {a b : D} {r : Bool} (ra : Dp K F x a) (rb : Dp K F y b) (h : sEq a b = some r) : scal x y = true ∧ decide (x = y) = r := by
  unfold sEq at h
  split at h
  · cases ra
    cases rb
    cases h
    refine ⟨rfl, ?_⟩
    simp
  · cases ra
    cases rb
    cases h
    refine ⟨rfl, ?_⟩
    simp
  · cases ra
    cases rb
    cases h
    refine ⟨rfl, ?_⟩
    simp
  · cases ra
    cases rb
    cases h
    exact ⟨rfl, rfl⟩
  · cases h
theorem og_eqS : OG K W rEq oEqS := by
  intro F H σ x y a b i ra rb
  unfold oEqS
  split
  · rename_i r e
    obtain ⟨h1, h2⟩ := sEq_of ra rb e
    exact ret_of i (fun Q q => ⟨h1, by rw [h2]; exact q⟩) (.bl _)
  · trivial
theorem og_eq : OG K W (fun x y H Q => rEq x y H Q ∨ rEqD K x y H Q) oEq := by
  intro F H σ x y a b i ra rb
  unfold oEq
  split
  · rename_i r e
    obtain ⟨h1, h2⟩ := sEq_of ra rb e
    exact ret_of i (fun Q q => .inl ⟨h1, by rw [h2]; exact q⟩) (.bl _)
  · split
    · rename_i h
      obtain ⟨h1, h2⟩ := Bool.and_eq_true_iff.mp h
      exact ret_of i (fun Q q => .inr ⟨a, b, dp_mono i ra, dp_mono i rb, h1, h2, q⟩) (.bl _)
    · trivial
theorem og_ne : OG K W (fun x y H Q => rNe x y H Q ∨ rNeD K x y H Q) oNe := by
  intro F H σ x y a b i ra rb
  unfold oNe
  split
  · rename_i r e
    obtain ⟨h1, h2⟩ := sEq_of ra rb e
    exact ret_of i (fun Q q => .inl ⟨h1, by rw [h2]; exact q⟩) (.bl _)
  · split
    · rename_i h
      obtain ⟨h1, h2⟩ := Bool.and_eq_true_iff.mp h
      exact ret_of i (fun Q q => .inr ⟨a, b, dp_mono i ra, dp_mono i rb, h1, h2, q⟩) (.bl _)
    · trivial
theorem isNone_of {v : V} {d : D} (r : Dp K F v d) : isNone d = decide (v = .non) := by
  cases r <;> rfl
theorem og_isN : OG K W (fun x y H Q => y = .non ∧ Q (.bl (decide (x = .non))) H) oIsN := by
  intro F H σ x y a b i ra rb
  unfold oIsN
  split
  · rename_i h
    rw [isNone_of rb] at h
    rw [isNone_of ra]
    exact ret_of i (fun Q q => ⟨of_decide_eq_true h, q⟩) (.bl _)
  · trivial
theorem og_isnN : OG K W (fun x y H Q => y = .non ∧ Q (.bl (!decide (x = .non))) H) oIsnN := by
  intro F H σ x y a b i ra rb
  unfold oIsnN
  split
  · rename_i h
    rw [isNone_of rb] at h
    rw [isNone_of ra]
    exact ret_of i (fun Q q => ⟨of_decide_eq_true h, q⟩) (.bl _)
  · trivial
theorem og_add : OG K W (fun x y H Q => rI0 (fun i j => .int (i + j)) x y H Q ∨ rCatA K x y H Q) oAdd := by
  intro F H σ x y a b i ra rb
  unfold oAdd
  split
  · cases ra
    cases rb
    exact ret_of i (fun Q q => .inl ⟨_, _, rfl, rfl, q⟩) (.int _)
  · split
    · rename_i hz
      cases ra with
      | @tup a1 vs _ ha hs =>
        cases rb with
        | @tup b1 us _ hb ht =>
          have l1 := dps_len hs
          have l2 := dps_len ht
          have hl : vs.length + us.length ≤ sizeLine := Nat.le_trans (by omega : vs.length + us.length ≤ 100000) (by decide)
          intro Q q
          refine .inr ⟨a1, b1, vs, us, rfl, rfl, same_seqT i ha, same_seqT i hb, hl, fun e => ?_, fun e e2 => ?_, fun _ _ p hp => ?_⟩
          · subst e
            cases hs
            exact q _ F H (Step.refl i) (.tup hb ht)
          · subst e2
            cases ht
            refine q _ F H (Step.refl i) ?_
            rw [List.append_nil]
            exact .tup ha hs
          · have s1 : Same F (upd F p (.tup (vs ++ us))) := same_new (i.free hp)
            exact q _ (upd F p (.tup (vs ++ us))) _ (Step.new i hp) (.tup (SqT.of upd_same) (dps_app (dps_mono s1 hs) (dps_mono s1 ht)))
    · trivial
  · trivial
theorem atI_dps {vs : List V} {ds : List D} {i : Int} {d : D} (r : DpAll K F vs ds) (e : atI ds i = some d) : ∃ v, atI vs i = some v ∧ Dp K F v d := by
  unfold atI at e ⊢
  rw [dps_len r]
  cases q : ixN ds.length i with
  | none =>
    rw [q] at e
    cases e
  | some j =>
    rw [q] at e
    exact dps_get' (i := j) r e
theorem og_idx : OG K W (fun x y H Q => rIxL K x y H Q ∨ rIxT K x y H Q) oIdx := by
  intro F H σ x y a b i ra rb
  unfold oIdx
  split
  · rename_i xs j
    cases e : atI xs j with
    | none => trivial
    | some d =>
      cases ra with
      | lst ha hs =>
        cases rb
        obtain ⟨v, e2, r⟩ := atI_dps hs e
        exact ret_of i (fun Q q => .inl ⟨_, _, j, v, rfl, rfl, i.seq ha, e2, q⟩) r
  · rename_i xs j
    cases e : atI xs j with
    | none => trivial
    | some d =>
      cases ra with
      | tup ha hs =>
        cases rb
        obtain ⟨v, e2, r⟩ := atI_dps hs e
        exact ret_of i (fun Q q => .inr ⟨_, _, j, v, rfl, rfl, same_seqT i ha, e2, q⟩) r
  · trivial
theorem ug_neg : UG K W (rU fun i => .int (-i)) oNeg := by
  intro F H σ x a i ra
  unfold oNeg
  split
  · cases ra
    exact ret_of i (fun Q q => ⟨_, rfl, q⟩) (.int _)
  · trivial
theorem dps_cut {vs : List V} {ds : List D} (r : DpAll K F vs ds) (lo hi : Option Int) : DpAll K F (cutV vs lo hi) (cutD ds lo hi) := by
  unfold cutV cutD
  rw [dps_len r]
  exact dps_take _ (dps_drop _ r)
theorem cut_whole (xs : List D) (lo hi : Option Int) (h1 : HT.sIx xs.length 0 lo = 0) (h2 : HT.sIx xs.length xs.length hi = xs.length) : cutD xs lo hi = xs := by
  unfold cutD
  rw [h1, h2]
  simp
theorem sl_ret {x : V} {a : D} (lo hi : Option Int) (i : Same F H) (ra : Dp K F x a) : Ret (RD K) W σ F H (oSl a lo hi) ((fun x lo hi H Q => rSlL K x lo hi H Q ∨ rSlA K x lo hi H Q) x lo hi H) := by
  unfold oSl
  split
  · cases ra with
    | lst ha hs => exact ret_new i (fun Q q => .inl ⟨_, _, rfl, i.seq ha, q⟩) fun p F' s h => .lst (SqL.of h) (dps_mono s (dps_cut hs lo hi))
  · rename_i zs
    cases ra with
    | @tup a1 vs _ ha hs =>
      have hl := dps_len hs
      intro Q q
      refine .inr ⟨a1, vs, rfl, same_seqT i ha, fun e => ?_, fun _ p hp => ?_⟩
      · rw [hl] at e
        rw [cut_whole zs lo hi e.1 e.2] at q
        exact q _ F H (Step.refl i) (.tup ha hs)
      · have s1 : Same F (upd F p (.tup (cutV vs lo hi))) := same_new (i.free hp)
        exact q _ (upd F p (.tup (cutV vs lo hi))) _ (Step.new i hp) (.tup (SqT.of upd_same) (dps_mono s1 (dps_cut hs lo hi)))
  · trivial
theorem cg_len : CG K W (fun xs H Q => ∃ p ys, xs = [.ref p] ∧ (SqL K H p ys ∨ SqT K H p ys) ∧ Q (.int ys.length) H) oLen := by
  intro F H σ vs ds i r
  unfold oLen
  split
  · rename_i a
    cases r with
    | cons r1 r2 =>
      cases r2
      cases r1 with
      | lst ha hs => exact ret_of i (fun Q q => ⟨_, _, rfl, .inl (i.seq ha), by rw [dps_len hs]; exact q⟩) (.int _)
  · rename_i a
    cases r with
    | cons r1 r2 =>
      cases r2
      cases r1 with
      | tup ha hs => exact ret_of i (fun Q q => ⟨_, _, rfl, .inr (same_seqT i ha), by rw [dps_len hs]; exact q⟩) (.int _)
  · trivial
theorem cg_list : CGL K W (fun xs H Q => ∃ p ys, xs = [.ref p] ∧ (SqL K H p ys ∨ SqT K H p ys) ∧ ∀ l, H l = none → Q (.ref l) (upd H l (.lst ys))) oList := by
  intro F H σ vs ds i r
  unfold oList
  split
  · cases r with
    | cons r1 r2 =>
      cases r2
      cases r1 with
      | lst ha hs => exact ret_newL i (fun Q q => ⟨_, _, rfl, .inl (i.seq ha), q⟩) hs
  · cases r with
    | cons r1 r2 =>
      cases r2
      cases r1 with
      | tup ha hs => exact ret_newL i (fun Q q => ⟨_, _, rfl, .inr (same_seqT i ha), q⟩) hs
  · trivial
theorem cg_tuple : CG K W (fun xs H Q => ∃ p ys, xs = [.ref p] ∧ ((SqL K H p ys ∧ ∀ l, H l = none → Q (.ref l) (upd H l (.tup ys))) ∨ (SqT K H p ys ∧ Q (.ref p) H))) oTuple := by
  intro F H σ vs ds i r
  unfold oTuple
  split
  · cases r with
    | cons r1 r2 =>
      cases r2
      cases r1 with
      | lst ha hs => exact ret_new i (fun Q q => ⟨_, _, rfl, .inl ⟨i.seq ha, q⟩⟩) fun p F' s h => .tup (SqT.of h) (dps_mono s hs)
  · cases r with
    | cons r1 r2 =>
      cases r2
      cases r1 with
      | tup ha hs => exact ret_of i (fun Q q => ⟨_, _, rfl, .inr ⟨same_seqT i ha, q⟩⟩) (.tup ha hs)
  · trivial
theorem cg_min : CG K W (fun xs H Q => ∃ i j, xs = [.int i, .int j] ∧ Q (.int (if j < i then j else i)) H) oMin := by
  intro F H σ vs ds i r
  unfold oMin
  split
  · cases r with
    | cons r1 r2 =>
      cases r2 with
      | cons r2 r3 =>
        cases r3
        cases r1
        cases r2
        exact ret_of i (fun Q q => ⟨_, _, rfl, q⟩) (.int _)
  · trivial
theorem cg_max : CG K W (fun xs H Q => ∃ i j, xs = [.int i, .int j] ∧ Q (.int (if j > i then j else i)) H) oMax := by
  intro F H σ vs ds i r
  unfold oMax
  split
  · cases r with
    | cons r1 r2 =>
      cases r2 with
      | cons r2 r3 =>
        cases r3
        cases r1
        cases r2
        exact ret_of i (fun Q q => ⟨_, _, rfl, q⟩) (.int _)
  · trivial
theorem cg_int : CG K W (fun xs H Q => (∃ i, xs = [.int i] ∧ Q (.int i) H) ∨ ∃ k, xs = [.bl k] ∧ Q (.int (if k then 1 else 0)) H) oIntOf := by
  intro F H σ vs ds i r
  unfold oIntOf
  split
  · cases r with
    | cons r1 r2 =>
      cases r2
      cases r1
      exact ret_of i (fun Q q => .inl ⟨_, rfl, q⟩) (.int _)
  · cases r with
    | cons r1 r2 =>
      cases r2
      cases r1
      exact ret_of i (fun Q q => .inr ⟨_, rfl, q⟩) (.int _)
  · trivial
theorem ty_of {v : V} {d : D} (r : Dp K H v d) : TyX K H v (.type (tyD d)) := by
  cases r with
  | non => exact .base .non
  | bl b => exact .base (.bl b)
  | int i => exact .base (.int i)
  | str x => exact .base (.str x)
  | lst h hs =>
    rcases h with (h | ⟨o, h⟩) | ⟨o, its, n, hk, hc, _⟩
    · exact .base (.lst h)
    · exact .base (.frz h)
    · exact .kList hk hc
  | tup h hs =>
    rcases h with (h | ⟨o, h⟩) | ⟨o, its, n, hk, hc, _⟩
    · exact .base (.tup h)
    · exact .fTuple h
    · exact .kTuple hk hc
end

/-! ### the constructs -/
section
variable {X : Cx} {W : Wx} {a b e : Expr} {es rest : List Expr} {f g : EX} {fs : AX} {pos : Pos}
theorem se_var (i : Nat) {x : Str} {pos : Pos} (hN : X.N[i]? = some x := by rfl) (hv : Vis X.env.scope x := by first | exact Or.inl rfl | exact Or.inr (Or.inl rfl) | exact Or.inr (Or.inr rfl)) (hd : (x == ("__debug__" : Str)) = false := by decide)
    (hcd : (x == ("__classdict__" : Str)) = false := by decide) : SE X W (.Name x pos) (xVar i) := by
  refine ⟨_, pe_var hN hv hd hcd, fun BF B env σ F H sr => ?_⟩
  unfold xVar
  split
  · rename_i d e
    obtain ⟨v, e1, r⟩ := sr.val e
    exact ret_of sr.inn (fun Q q => ⟨v, e1, q⟩) r
  · trivial
theorem se_int {i j pos} : SE X W (.Constant (.int i) j pos) (xC (.int i)) := ⟨_, pe_int, fun _ _ _ _ _ _ sr => ret_of sr.inn (fun _ q => q) (.int i)⟩
theorem se_bool {i j pos} : SE X W (.Constant (.bool i) j pos) (xC (.bool i)) := ⟨_, pe_bl, fun _ _ _ _ _ _ sr => ret_of sr.inn (fun _ q => q) (.bl i)⟩
theorem se_none {j pos} : SE X W (.Constant .none j pos) (xC .none) := ⟨_, pe_non, fun _ _ _ _ _ _ sr => ret_of sr.inn (fun _ q => q) .non⟩
theorem se_str {i j pos} : SE X W (.Constant (.str i) j pos) (xC (.str i)) := ⟨_, pe_str, fun _ _ _ _ _ _ sr => ret_of sr.inn (fun _ q => q) (.str i)⟩
theorem op_ret {r : R2} {o : D → D → An D} {ta tb : TE} (gr : OG X.K W r o) {BF B : Hp} {env : Env} {σ : St} {F H : Hp} (sr : SR (kx X) BF B env σ F H)
    (ga : ∀ BF B env σ F H, SR (kx X) BF B env σ F H → Ret (RD X.K) W σ F H (f env) (ta σ H)) (gb : ∀ BF B env σ F H, SR (kx X) BF B env σ F H → Ret (RD X.K) W σ F H (g env) (tb σ H)) : Ret (RD X.K) W σ F H (xOp o f g env) (tOp r ta tb σ H) :=
  Ret.bnd (R := RD X.K) (R' := RD X.K) (ga _ _ _ _ _ _ sr) (fun _ _ _ _ _ _ h => h) sr.inn (T' := fun x H1 Q => tb σ H1 fun y H2 => r x y H2 Q) fun d v F1 H1 _ st ra =>
    Ret.bnd (R := RD X.K) (R' := RD X.K) (gb _ _ _ _ _ _ (sr.step st)) (fun _ _ _ _ _ _ h => h) st.inn (T' := fun y H2 Q => r v y H2 Q) fun d2 v2 F2 H2 _ st2 rb => gr F2 H2 σ v v2 d d2 st2.inn (dp_mono st2.fr ra) rb
theorem se_op {op : Operator} {r : R2} {o : D → D → An D} (ho : OpR X (binaryOp op) r) (gr : OG X.K W r o) (ha : SE X W a f) (hb : SE X W b g) : SE X W (.BinOp a op b pos) (xOp o f g) := by
  obtain ⟨ta, pa, ga⟩ := ha
  obtain ⟨tb, pb, gb⟩ := hb
  exact ⟨_, pe_op ho pa pb, fun BF B env σ F H sr => op_ret gr sr ga gb⟩
theorem se_add (ha : SE X W a f) (hb : SE X W b g) : SE X W (.BinOp a .Add b pos) (xOp oAdd f g) := se_op (op_add.or op_catA) og_add ha hb
theorem se_sub (ha : SE X W a f) (hb : SE X W b g) : SE X W (.BinOp a .Sub b pos) (xOp oSub f g) := se_op op_sub og_sub ha hb
theorem se_mul (ha : SE X W a f) (hb : SE X W b g) : SE X W (.BinOp a .Mult b pos) (xOp oMul f g) := se_op op_mul og_mul ha hb
theorem se_mod (ha : SE X W a f) (hb : SE X W b g) : SE X W (.BinOp a .Mod b pos) (xOp oMod f g) := se_op op_mod og_mod ha hb
theorem se_fdiv (ha : SE X W a f) (hb : SE X W b g) : SE X W (.BinOp a .FloorDiv b pos) (xOp oFdiv f g) := se_op op_fdiv og_fdiv ha hb
theorem se_pow (ha : SE X W a f) (hb : SE X W b g) : SE X W (.BinOp a .Pow b pos) (xOp oPow f g) := se_op op_pow og_pow ha hb
theorem se_neg (ha : SE X W a f) : SE X W (.UnaryOp .USub a pos) (xUn oNeg f) := by
  obtain ⟨ta, pa, ga⟩ := ha
  exact ⟨_, pe_un un_neg pa, fun BF B env σ F H sr => Ret.bnd (R := RD X.K) (R' := RD X.K) (ga _ _ _ _ _ _ sr) (fun _ _ _ _ _ _ h => h) sr.inn (T' := fun x H1 Q => rU (fun i => V.int (-i)) x H1 Q) fun d v F1 H1 _ st r => ug_neg F1 H1 σ v d st.inn r⟩
/-- a comparison, as a value and as a test -/
theorem se_cmp {op : CmpOp} {r : R2} {o : D → D → An D} (ho : OpR X (compareOp op) r) (gr : OG X.K W r o) (ha : SE X W a f) (hb : SE X W b g) (hm : behindInMarks op b = false) : SE X W (.Compare a [op] [b] pos) (xOp o f g) := by
  obtain ⟨ta, pa, ga⟩ := ha
  obtain ⟨tb, pb, gb⟩ := hb
  exact ⟨_, pe_cmpR ho pa pb hm, fun BF B env σ F H sr => op_ret gr sr ga gb⟩
theorem test_ret {te : TE} {BF B : Hp} {env : Env} {σ : St} {F H : Hp} (sr : SR (kx X) BF B env σ F H) (ga : Ret (RD X.K) W σ F H (f env) (te σ H)) : Ret RB W σ F H (tOf f env) (tTest te σ H) :=
  Ret.bnd ga (fun _ _ _ _ _ _ h => h) sr.inn (T' := fun x H' Q => ∃ k, x = .bl k ∧ Q k H') fun d v F1 H1 _ st r => by
    unfold oBool
    split
    · cases r
      exact ret_of st.inn (fun Q q => ⟨_, rfl, q⟩) rfl
    · trivial
theorem st_cmp {op : CmpOp} {r : R2} {o : D → D → An D} (ho : OpR X (compareOp op) r) (gr : OG X.K W r o) (ha : SE X W a f) (hb : SE X W b g) (hm : behindInMarks op b = false) : ST X W (.Compare a [op] [b] pos) (tOf (xOp o f g)) := by
  obtain ⟨ta, pa, ga⟩ := ha
  obtain ⟨tb, pb, gb⟩ := hb
  exact ⟨_, pt_cmpR ho pa pb hm, fun BF B env σ F H sr => test_ret sr (op_ret gr sr ga gb)⟩
theorem st_val (ha : SE X W e f) (he : ∀ whole, isTrue e X.env whole = (do let v ← whole; standAt e.pos; holding [v] (truthy v)) := by intro _; rfl) : ST X W e (tOf f) := by
  obtain ⟨ta, pa, ga⟩ := ha
  exact ⟨_, pt_val pa he, fun BF B env σ F H sr => test_ret sr (ga _ _ _ _ _ _ sr)⟩
def SW (X : Cx) (W : Wx) (e : Expr) (f : TX) : Prop := ∃ t : TT, PW X e t ∧ ∀ BF B env σ F H, SR (kx X) BF B env σ F H → Ret RB W σ F H (f env) (t σ H)
variable {tf tg : TX}
theorem SW.st (h : SW X W e tf) : ST X W e tf := by
  obtain ⟨t, p, r⟩ := h
  exact ⟨t, p.pt, r⟩
theorem sw_and1 (ha : ST X W a tf) : SW X W (.BoolOp .And [a] pos) tf := by
  obtain ⟨t, p, r⟩ := ha
  exact ⟨t, pw_and1 p, r⟩
theorem sw_or1 (ha : ST X W a tf) : SW X W (.BoolOp .Or [a] pos) tf := by
  obtain ⟨t, p, r⟩ := ha
  exact ⟨t, pw_or1 p, r⟩
theorem sw_and (ha : ST X W a tf) (hb : SW X W (.BoolOp .And (b :: rest) pos) tg) : SW X W (.BoolOp .And (a :: b :: rest) pos) (tAndX tf tg) := by
  obtain ⟨t, p, r⟩ := ha
  obtain ⟨u, p2, r2⟩ := hb
  refine ⟨_, pw_and p p2, fun BF B env σ F H sr => Ret.bnd (r _ _ _ _ _ _ sr) (fun _ _ _ _ _ _ h => h) sr.inn (T' := fun c H1 Q => if c = true then u σ H1 Q else Q false H1) fun d v F1 H1 _ st e => ?_⟩
  have e : v = d := e
  subst e
  cases v with
  | true => exact r2 _ _ _ _ _ _ (sr.step st)
  | false => exact ret_of st.inn (fun Q q => q) rfl
theorem sw_or (ha : ST X W a tf) (hb : SW X W (.BoolOp .Or (b :: rest) pos) tg) : SW X W (.BoolOp .Or (a :: b :: rest) pos) (tOrX tf tg) := by
  obtain ⟨t, p, r⟩ := ha
  obtain ⟨u, p2, r2⟩ := hb
  refine ⟨_, pw_or p p2, fun BF B env σ F H sr => Ret.bnd (r _ _ _ _ _ _ sr) (fun _ _ _ _ _ _ h => h) sr.inn (T' := fun c H1 Q => if c = true then Q true H1 else u σ H1 Q) fun d v F1 H1 _ st e => ?_⟩
  have e : v = d := e
  subst e
  cases v with
  | true => exact ret_of st.inn (fun Q q => q) rfl
  | false => exact r2 _ _ _ _ _ _ (sr.step st)
theorem st_not (ha : ST X W a tf) : ST X W (.UnaryOp .Not a pos) (tNotX tf) := by
  obtain ⟨t, p, r⟩ := ha
  refine ⟨_, pt_not p, fun BF B env σ F H sr => Ret.bnd (r _ _ _ _ _ _ sr) (fun _ _ _ _ _ _ h => h) sr.inn (T' := fun c H1 Q => Q (!c) H1) fun d v F1 H1 _ st e => ?_⟩
  have e : v = d := e
  subst e
  exact ret_of st.inn (fun Q q => q) rfl
theorem se_one {op} (h : SE X W a f) : SE X W (.BoolOp op [a] pos) f := by
  obtain ⟨t, p, r⟩ := h
  exact ⟨t, pe_one p, r⟩
theorem bool_ret {K : PySem.W.Frag} {α β : Type} {R : Hp → Hp → Hp → β → α → Prop} {σ : St} {F H : Hp} {v : V} {d : D} {k : Bool → An α} {T : Bool → (β → Hp → Prop) → Prop} (r : Dp K F v d)
    (h : ∀ c, v = .bl c → Ret R W σ F H (k c) (T c)) : Ret R W σ F H ((oBool d).bnd k) (fun Q => ∃ c, v = .bl c ∧ T c Q) := by
  unfold oBool
  split
  · cases r
    rename_i c
    have q := h c rfl
    show Ret R W σ F H (k c) _
    cases e : k c with
    | bad => trivial
    | ok z =>
      rw [e] at q
      exact fun Q hQ => ⟨c, rfl, q Q hQ⟩
    | exc z =>
      rw [e] at q
      exact fun Q hQ => ⟨c, rfl, q Q hQ⟩
  · trivial
theorem se_and (ha : SE X W a f) (hb : SE X W (.BoolOp .And (b :: rest) pos) g) : SE X W (.BoolOp .And (a :: b :: rest) pos) (xAnd f g) := by
  obtain ⟨t, p, r⟩ := ha
  obtain ⟨u, p2, r2⟩ := hb
  refine ⟨_, pe_and p p2, fun BF B env σ F H sr => Ret.bnd (R := RD X.K) (R' := RD X.K) (r _ _ _ _ _ _ sr) (fun _ _ _ _ _ _ h => h) sr.inn (T' := fun x H1 Q => ∃ c, x = .bl c ∧ if c = true then u σ H1 Q else Q (.bl false) H1) fun d v F1 H1 _ st rd => ?_⟩
  refine bool_ret rd fun c _ => ?_
  cases c with
  | true => exact r2 _ _ _ _ _ _ (sr.step st)
  | false => exact ret_of st.inn (fun Q q => q) (.bl _)
theorem se_or (ha : SE X W a f) (hb : SE X W (.BoolOp .Or (b :: rest) pos) g) : SE X W (.BoolOp .Or (a :: b :: rest) pos) (xOr f g) := by
  obtain ⟨t, p, r⟩ := ha
  obtain ⟨u, p2, r2⟩ := hb
  refine ⟨_, pe_or p p2, fun BF B env σ F H sr => Ret.bnd (R := RD X.K) (R' := RD X.K) (r _ _ _ _ _ _ sr) (fun _ _ _ _ _ _ h => h) sr.inn (T' := fun x H1 Q => ∃ c, x = .bl c ∧ if c = true then Q (.bl true) H1 else u σ H1 Q) fun d v F1 H1 _ st rd => ?_⟩
  refine bool_ret rd fun c _ => ?_
  cases c with
  | true => exact ret_of st.inn (fun Q q => q) (.bl _)
  | false => exact r2 _ _ _ _ _ _ (sr.step st)
theorem se_not (ha : SE X W a f) : SE X W (.UnaryOp .Not a pos) (xNot f) := by
  obtain ⟨t, p, r⟩ := ha
  refine ⟨_, pe_not p, fun BF B env σ F H sr => Ret.bnd (R := RD X.K) (R' := RD X.K) (r _ _ _ _ _ _ sr) (fun _ _ _ _ _ _ h => h) sr.inn (T' := fun x H1 Q => ∃ c, x = V.bl c ∧ Q (V.bl (!c)) H1) fun d v F1 H1 _ st rd => ?_⟩
  exact bool_ret rd fun c _ => ret_of st.inn (fun Q q => q) (.bl _)
theorem se_ix (ha : SE X W a f) (hb : SE X W b g) (hs : PlainIx b) : SE X W (.Subscript a b pos) (xOp oIdx f g) := by
  obtain ⟨ta, pa, ga⟩ := ha
  obtain ⟨tb, pb, gb⟩ := hb
  exact ⟨_, pe_ix (ix_list.or ix_tup) pa pb hs, fun BF B env σ F H sr => op_ret og_idx sr ga gb⟩
/-- argument lists: their length is that of the text -/
theorem sa_nil : SA X W [] aNil := ⟨_, pa_nil, fun _ _ _ _ _ _ sr => ret_of sr.inn (fun _ q => q) .nil⟩
theorem sa_cons (ha : SE X W e f) (hr : SA X W es fs) (hs : starEach (e :: es) X.env = (false, eval e X.env) :: starEach es X.env := by rfl) : SA X W (e :: es) (aCons f fs) := by
  obtain ⟨ta, pa, ga⟩ := ha
  obtain ⟨tr, pr, gr⟩ := hr
  refine ⟨_, pa_cons pa pr hs, fun BF B env σ F H sr => Ret.bnd (ga _ _ _ _ _ _ sr) (fun _ _ _ _ _ _ h => h) sr.inn (T' := fun x H1 Q => tr σ H1 fun xs H2 => Q (x :: xs) H2) fun d v F1 H1 _ st r1 => ?_⟩
  exact Ret.bnd (gr _ _ _ _ _ _ (sr.step st)) (fun _ _ _ _ _ _ h => h) st.inn (T' := fun xs H2 Q => Q (v :: xs) H2) fun ds vs F2 H2 _ st2 r2 => ret_of st2.inn (fun Q q => q) (.cons (dp_mono st2.fr r1) r2)
theorem se_tup {x1} (h : SA X W es fs) (hl : ∀ env ds, fs env = .ok ds → ds.length ≤ 100000) : SE X W (.Tuple es x1 pos) (xTup fs) := by
  obtain ⟨t, p, r⟩ := h
  refine ⟨_, pe_tup p, fun BF B env σ F H sr => Ret.bnd (R := RA X.K) (R' := RD X.K) (r _ _ _ _ _ _ sr) (fun _ _ _ _ _ _ h => h) sr.inn (T' := fun xs H1 Q => xs.length ≤ sizeLine ∧ ∀ p, H1 p = none → Q (V.ref p) (upd H1 p (HO.tup xs))) fun ds vs F1 H1 e st rd => ?_⟩
  have hz := hl env ds e
  rw [← dps_len rd] at hz
  exact ret_new st.inn (fun Q q => ⟨Nat.le_trans hz (by decide), q⟩) fun p F' s h => .tup (SqT.of h) (dps_mono s rd)
theorem sl_lst (h : SA X W es fs) (hl : ∀ env ds, fs env = .ok ds → ds.length ≤ 100000) : SL X W (.List es pos) fs := by
  obtain ⟨t, p, r⟩ := h
  refine ⟨_, pe_lst p, fun BF B env σ F H sr => ?_⟩
  have q : Ret (RL X.K) W σ F H ((fs env).bnd fun ds => .ok ds) (tLst t σ H) := Ret.bnd (r _ _ _ _ _ _ sr) RL.back sr.inn (T' := fun xs H1 Q => xs.length ≤ sizeLine ∧ ∀ p, H1 p = none → Q (V.ref p) (upd H1 p (HO.lst xs))) fun ds vs F1 H1 e st rd => by
    have hz := hl env ds e
    rw [← dps_len rd] at hz
    exact ret_newL st.inn (fun Q q => ⟨Nat.le_trans hz (by decide), q⟩) rd
  cases e : fs env with
  | bad => trivial
  | ok ds =>
    rw [e] at q
    exact q
  | exc c =>
    rw [e] at q
    exact q
theorem aNil_len : ∀ env ds, aNil env = .ok ds → ds.length ≤ 0 := fun env ds e => by
  cases e
  exact Nat.le_refl _
theorem aCons_len {n : Nat} (h : ∀ env ds, fs env = .ok ds → ds.length ≤ n) : ∀ env ds, aCons f fs env = .ok ds → ds.length ≤ n + 1 := fun env ds e => by
  unfold aCons at e
  cases e1 : f env with
  | bad =>
    rw [e1] at e
    cases e
  | exc c =>
    rw [e1] at e
    cases e
  | ok d =>
    rw [e1] at e
    cases e2 : fs env with
    | bad =>
      rw [e2] at e
      cases e
    | exc c =>
      rw [e2] at e
      cases e
    | ok ds' =>
      rw [e2] at e
      cases e
      have := h env ds' e2
      show ds'.length + 1 ≤ n + 1
      omega
theorem len_ok {n : Nat} (h : ∀ env ds, fs env = .ok ds → ds.length ≤ n) (hn : n ≤ 100000) : ∀ env ds, fs env = .ok ds → ds.length ≤ 100000 := fun env ds e => Nat.le_trans (h env ds e) hn
/-- a fresh list as a value -/
theorem se_of_sl (h : SL X W e fs) : SE X W e (xL fs) := by
  obtain ⟨t, p, r⟩ := h
  refine ⟨t, p, fun BF B env σ F H sr => ?_⟩
  have q := r _ _ _ _ _ _ sr
  unfold xL
  cases e : fs env with
  | bad => trivial
  | exc c =>
    rw [e] at q
    exact q
  | ok ds =>
    rw [e] at q
    intro Q hQ
    refine q Q fun v F' H' st rl => ?_
    obtain ⟨p, vs, rfl, h1, h2, h3, h4⟩ := rl
    exact hQ _ _ _ (st.frz h1 h2 h3) (.lst (SqL.of upd_same) (dps_mono (same_new h2) h4))
/-- slices -/
def SO (X : Cx) (W : Wx) (e : Option Expr) (f : OX) : Prop := ∃ t : TO, PO X e t ∧ ∀ BF B env σ F H, SR (kx X) BF B env σ F H → Ret (fun _ _ _ v d => v = d) W σ F H (f env) (t σ H)
theorem so_none : SO X W none pNo := ⟨_, po_none, fun _ _ _ _ _ _ sr => ret_of sr.inn (fun _ q => q) rfl⟩
theorem so_some (h : SE X W e f) : SO X W (some e) (pAt f) := by
  obtain ⟨t, p, r⟩ := h
  refine ⟨_, po_some p, fun BF B env σ F H sr => Ret.bnd (r _ _ _ _ _ _ sr) (fun _ _ _ _ _ _ h => h) sr.inn (T' := fun x H1 Q => ∃ i, x = .int i ∧ Q (some i) H1) fun d v F1 H1 _ st rd => ?_⟩
  unfold oInt
  split
  · cases rd
    exact ret_of st.inn (fun Q q => ⟨_, rfl, q⟩) rfl
  · trivial
theorem se_slice {lo hi : Option Expr} {fl fh : OX} {p2 : Pos} (he : SE X W e f) (hl : SO X W lo fl) (hu : SO X W hi fh) : SE X W (.Subscript e (.Slice lo hi none p2) pos) (xSl f fl fh) := by
  obtain ⟨t, p, r⟩ := he
  obtain ⟨tl, pl, rl⟩ := hl
  obtain ⟨th, ph, rh⟩ := hu
  refine ⟨_, pe_slice (sl_list.or sl_tupA) p pl ph, fun BF B env σ F H sr => ?_⟩
  refine Ret.bnd (r _ _ _ _ _ _ sr) (fun _ _ _ _ _ _ h => h) sr.inn (T' := fun x H1 Q => tl σ H1 fun l H2 => th σ H2 fun u H3 => (rSlL X.K x l u H3 Q ∨ rSlA X.K x l u H3 Q)) fun d v F1 H1 _ st rd => ?_
  refine Ret.bnd (rl _ _ _ _ _ _ (sr.step st)) (fun _ _ _ _ _ _ h => h) st.inn (T' := fun l H2 Q => th σ H2 fun u H3 => (rSlL X.K v l u H3 Q ∨ rSlA X.K v l u H3 Q)) fun l l' F2 H2 _ st2 e2 => ?_
  refine Ret.bnd (rh _ _ _ _ _ _ ((sr.step st).step st2)) (fun _ _ _ _ _ _ h => h) st2.inn (T' := fun u H3 Q => (rSlL X.K v l' u H3 Q ∨ rSlA X.K v l' u H3 Q)) fun u u' F3 H3 _ st3 e3 => ?_
  have e2 : l' = l := e2
  have e3 : u' = u := e3
  subst e2
  subst e3
  exact sl_ret l' u' st3.inn (dp_mono (st2.trans st3).fr rd)
/-- calls of built-in functions and types -/
theorem cb_ret {r : List V → Hp → VK → Prop} {o : List D → An D} {t : TA} (gr : CG X.K W r o) {BF B : Hp} {env : Env} {σ : St} {F H : Hp} (sr : SR (kx X) BF B env σ F H) (ga : Ret (RA X.K) W σ F H (fs env) (t σ H)) : Ret (RD X.K) W σ F H (xApp o fs env) (tCB r t σ H) :=
  Ret.bnd ga (fun _ _ _ _ _ _ h => h) sr.inn (T' := fun vs H1 Q => r vs H1 Q) fun ds vs F1 H1 _ st rd => gr F1 H1 σ vs ds st.inn rd
theorem cbl_ret {r : List V → Hp → VK → Prop} {o : List D → An (List D)} {t : TA} (gr : CGL X.K W r o) {BF B : Hp} {env : Env} {σ : St} {F H : Hp} (sr : SR (kx X) BF B env σ F H) (ga : Ret (RA X.K) W σ F H (fs env) (t σ H)) : Ret (RL X.K) W σ F H (xAppL o fs env) (tCB r t σ H) :=
  Ret.bnd ga RL.back sr.inn (T' := fun vs H1 Q => r vs H1 Q) fun ds vs F1 H1 _ st rd => gr F1 H1 σ vs ds st.inn rd
theorem se_callB {id : String} {x : Str} {p : Pos} {r : List V → Hp → VK → Prop} {o : List D → An D} (hc : CallR X (.builtin id) r) (gr : CG X.K W r o) (hm : X.mg x = none) (ha : SA X W (e :: es) fs) (hg : Gl X x := by rfl) (hv : bootBuiltins x = some (.builtin id) := by decide +kernel) (hn : x ≠ "__name__" := by decide) (hdb : (x == ("__debug__" : Str)) = false := by decide)
    (he : starEach (e :: es) X.env = (false, eval e X.env) :: starEach es X.env := by rfl) (hpl : (backTo pos (starEach es X.env)).any (·.1) = false := by rfl) : SE X W (.Call (.Name x p) (e :: es) [] pos) (xApp o fs) := by
  obtain ⟨t, pt, rt⟩ := ha
  exact ⟨_, pe_callB hc hg hm hv pt hn hdb he hpl, fun BF B env σ F H sr => cb_ret gr sr (rt _ _ _ _ _ _ sr)⟩
theorem se_callT {T : String} {x : Str} {p : Pos} {r : List V → Hp → VK → Prop} {o : List D → An D} (hc : CallR X (.type T) r) (gr : CG X.K W r o) (hm : X.mg x = none) (ha : SA X W (e :: es) fs) (hg : Gl X x := by rfl) (hv : bootBuiltins x = some (.type T) := by decide +kernel) (hn : x ≠ "__name__" := by decide) (hdb : (x == ("__debug__" : Str)) = false := by decide)
    (he : starEach (e :: es) X.env = (false, eval e X.env) :: starEach es X.env := by rfl) (hpl : (backTo pos (starEach es X.env)).any (·.1) = false := by rfl) : SE X W (.Call (.Name x p) (e :: es) [] pos) (xApp o fs) := by
  obtain ⟨t, pt, rt⟩ := ha
  exact ⟨_, pe_callTy hc hg hm hv pt hn hdb he hpl, fun BF B env σ F H sr => cb_ret gr sr (rt _ _ _ _ _ _ sr)⟩
theorem sl_callT {T : String} {x : Str} {p : Pos} {r : List V → Hp → VK → Prop} {o : List D → An (List D)} (hc : CallR X (.type T) r) (gr : CGL X.K W r o) (hm : X.mg x = none) (ha : SA X W (e :: es) fs) (hg : Gl X x := by rfl) (hv : bootBuiltins x = some (.type T) := by decide +kernel) (hn : x ≠ "__name__" := by decide) (hdb : (x == ("__debug__" : Str)) = false := by decide)
    (he : starEach (e :: es) X.env = (false, eval e X.env) :: starEach es X.env := by rfl) (hpl : (backTo pos (starEach es X.env)).any (·.1) = false := by rfl) : SL X W (.Call (.Name x p) (e :: es) [] pos) (xAppL o fs) := by
  obtain ⟨t, pt, rt⟩ := ha
  exact ⟨_, pe_callTy hc hg hm hv pt hn hdb he hpl, fun BF B env σ F H sr => cbl_ret gr sr (rt _ _ _ _ _ _ sr)⟩
theorem se_len {p : Pos} (hm : X.mg "len" = none) (ha : SE X W e f) (hg : Gl X "len" := by rfl) (hs : starEach [e] X.env = (false, eval e X.env) :: starEach [] X.env := by rfl) (hpl : (backTo pos (starEach [] X.env)).any (·.1) = false := by rfl) :
    SE X W (.Call (.Name "len" p) [e] [] pos) (xApp oLen (aCons f aNil)) := se_callB call_len_seq cg_len hm (sa_cons ha sa_nil hs) hg boot_len (by decide) (by decide) hs hpl
theorem sl_list {p : Pos} (hm : X.mg "list" = none) (ha : SE X W e f) (hg : Gl X "list" := by rfl) (hs : starEach [e] X.env = (false, eval e X.env) :: starEach [] X.env := by rfl) (hpl : (backTo pos (starEach [] X.env)).any (·.1) = false := by rfl) :
    SL X W (.Call (.Name "list" p) [e] [] pos) (xAppL oList (aCons f aNil)) := sl_callT call_list_of cg_list hm (sa_cons ha sa_nil hs) hg (by decide +kernel) (by decide) (by decide) hs hpl
theorem se_tuple {p : Pos} (hm : X.mg "tuple" = none) (ha : SE X W e f) (hg : Gl X "tuple" := by rfl) (hs : starEach [e] X.env = (false, eval e X.env) :: starEach [] X.env := by rfl) (hpl : (backTo pos (starEach [] X.env)).any (·.1) = false := by rfl) :
    SE X W (.Call (.Name "tuple" p) [e] [] pos) (xApp oTuple (aCons f aNil)) := se_callT call_tuple_of cg_tuple hm (sa_cons ha sa_nil hs) hg (by decide +kernel) (by decide) (by decide) hs hpl
theorem se_intOf {p : Pos} (hm : X.mg "int" = none) (ha : SE X W e f) (hg : Gl X "int" := by rfl) (hs : starEach [e] X.env = (false, eval e X.env) :: starEach [] X.env := by rfl) (hpl : (backTo pos (starEach [] X.env)).any (·.1) = false := by rfl) :
    SE X W (.Call (.Name "int" p) [e] [] pos) (xApp oIntOf (aCons f aNil)) := se_callT call_int1 cg_int hm (sa_cons ha sa_nil hs) hg (by decide +kernel) (by decide) (by decide) hs hpl
/-- isinstance(x, T), T a built-in type -/
theorem se_isA {x : Str} {T : String} {p p2 : Pos} (hm : X.mg "isinstance" = none) (hx : X.mg x = none) (ha : SE X W e f) (hb : bootBuiltins x = some (.type T) := by decide +kernel) (hg : Gl X "isinstance" := by rfl) (hgx : Gl X x := by rfl) (hn : x ≠ "__name__" := by decide) (hdb : (x == ("__debug__" : Str)) = false := by decide)
    (hs : starEach [e, .Name x p2] X.env = (false, eval e X.env) :: starEach [.Name x p2] X.env := by rfl) (hs2 : starEach [.Name x p2] X.env = (false, eval (.Name x p2) X.env) :: starEach [] X.env := by rfl) (hpl : (backTo pos (starEach [.Name x p2] X.env)).any (·.1) = false := by rfl) :
    SE X W (.Call (.Name "isinstance" p) [e, .Name x p2] [] pos) (xUn (oIsA T) f) := by
  obtain ⟨t, pt, rt⟩ := ha
  refine ⟨_, pe_callB call_isi hg hm (by decide +kernel) (pa_cons pt (pa_cons (pe_bltn (v := .ty T) hgx hx hb rfl hn hdb) pa_nil hs2) hs) (by decide) (by decide) hs hpl, fun BF B env σ F H sr => ?_⟩
  refine Ret.bnd (rt _ _ _ _ _ _ sr) (fun _ _ _ _ _ _ h => h) sr.inn (T' := fun v H1 Q => rIsi X.K [v, .ty T] H1 Q) fun d v F1 H1 _ st rd => ?_
  unfold oIsA
  split
  · rename_i bb e1
    exact ret_of st.inn (fun Q q => ⟨v, .ty T, .type (tyD d), .type T, bb, rfl, .ty T, ty_of (dp_mono st.inn rd), kit_ty e1, q⟩) (.bl _)
  · trivial
end
end Mg
namespace Mg
open PySem PySem.Spec PyProof.Rows L2
/-! ### own defs -/
abbrev wx (cl : Xc → Addr) (W : Wx) : WX := fun cls d σ H => ∃ c, cls = .ref (cl c) ∧ d = none ∧ W c σ H
abbrev W0 : Wx := fun _ _ _ => False
theorem takes_none {X : Cx} {cl : Xc → Addr} : L2N.Takes X (wx cl W0) := fun _ _ x => by
  obtain ⟨_, _, _, _, _, _, _, _, _, _, _, _, _, _, _, _, _, _, _, z⟩ := x
  exact z.elim
def SpOk (K : PySem.W.Frag) (cl : Xc → Addr) (F H : Hp) (Q : VK) (E : XK) : An D → Prop
  | .bad => False
  | .ok d => ∀ v F' H', Step F H F' H' → Dp K F' v d → Q v H'
  | .exc c => ∀ F' H', Step F H F' H' → E (.ref (cl c)) none H'
def spG (K : PySem.W.Frag) (cl : Xc → Addr) (n : Nat) (spec : List D → An D) : Sp := fun vs H Q E =>
  ∃ F ds, Same F H ∧ DpAll K F vs ds ∧ ds.length = n ∧ SpOk K cl F H Q E (spec ds)
/-- the def x, of n parameters, that stands under the module's names, keeps spec -/
def FG (P : Program) (w : World) (K : PySem.W.Frag) (mg : Str → Option Value) (base : Heap) (cl : Xc → Addr) (x : Str) (k n : Nat) (spec : List D → An D) : Prop :=
  ∃ f fd ps, FnOk P w K mg base (L2N.CX P w) k f fd ps (spG K cl n spec) ∧ mg x = some (.ref f) ∧ PySem.W.keepIn K (.ref f) = true ∧ Binds K fd ps [] ∧ ∀ ds, ds.length ≠ n → spec ds = .bad
/-- a def's worth by its body -/
def runDef (nN np : Nat) (body : SX) (ds : List D) : An D :=
  if ds.length = np then (match body (ds.map Slot.val ++ List.replicate (nN - np) Slot.un) with
    | .ret d => .ok d
    | .nx _ => .ok .none
    | .exc c _ => .exc c
    | _ => .bad) else .bad
theorem runDef_len {nN np : Nat} {body : SX} : ∀ ds : List D, ds.length ≠ np → runDef nN np body ds = .bad := fun ds h => if_neg h
section
variable {X : Cx} {W : Wx} {a b e : Expr} {es rest : List Expr} {f g : EX} {fs : AX} {pos : Pos}
theorem se_call {cl : Xc → Addr} {x : Str} {p : Pos} {k n : Nat} {spec : List D → An D} (G : FG X.prog X.w X.K X.mg X.base cl x k n spec) (hr : Room k X.A) (tk : L2N.Takes X (wx cl W)) (ha : SA X W (e :: es) fs) (hg : Gl X x := by rfl) (hdb : (x == ("__debug__" : Str)) = false := by decide)
    (he : starEach (e :: es) X.env = (false, eval e X.env) :: starEach es X.env := by rfl) (hpl : (backTo pos (starEach es X.env)).any (·.1) = false := by rfl) : SE X W (.Call (.Name x p) (e :: es) [] pos) (xApp spec fs) := by
  obtain ⟨t, pt, rt⟩ := ha
  obtain ⟨f, fd, ps, Fk, hm, hk, hb, hlen⟩ := G
  refine ⟨_, pe_callS Fk hr hg hm hk hb (fun σ => L2N.passAt tk σ) pt hdb he hpl, fun BF B env σ F H sr => ?_⟩
  refine Ret.bnd (R := RA X.K) (R' := RD X.K) (rt _ _ _ _ _ _ sr) (fun _ _ _ _ _ _ h => h) sr.inn (T' := fun vs H1 Q => spG X.K cl n spec vs H1 Q (WE (wx cl W) σ)) fun ds vs F1 H1 _ st rd => ?_
  have go : ∀ Q : VK, SpOk X.K cl F1 H1 Q (WE (wx cl W) σ) (spec ds) → spG X.K cl n spec vs H1 Q (WE (wx cl W) σ) := fun Q q => by
    refine ⟨F1, ds, st.inn, rd, ?_, q⟩
    by_cases hl : ds.length = n
    · exact hl
    · rw [hlen ds hl] at q
      exact q.elim
  cases e1 : spec ds with
  | bad => trivial
  | ok d => exact fun Q q => go Q (by rw [e1]; exact q)
  | exc c => exact fun Q q => go Q (by rw [e1]; exact fun F' H' st' => ⟨c, rfl, rfl, q F' H' st'⟩)

/-! ### the def's own lists, read -/
def xLenO (i : Nat) : EX := fun env => match env[i]? with
  | some (.own ds) => .ok (.int ds.length)
  | _ => .bad
def oIdxL (ds : List D) : D → An D
  | .int i => (match atI ds i with | some d => .ok d | none => .bad)
  | _ => .bad
def xIxO (i : Nat) (g : EX) : EX := fun env => match env[i]? with
  | some (.own ds) => (g env).bnd (oIdxL ds)
  | _ => .bad
theorem se_lenO (i : Nat) {x : Str} {p p2 : Pos} (hm : X.mg "len" = none) (hN : X.N[i]? = some x := by rfl) (hv : Vis X.env.scope x := by first | exact Or.inl rfl | exact Or.inr (Or.inl rfl) | exact Or.inr (Or.inr rfl)) (hd : (x == ("__debug__" : Str)) = false := by decide)
    (hcd : (x == ("__classdict__" : Str)) = false := by decide) (hg : Gl X "len" := by rfl) (hs : starEach [.Name x p2] X.env = (false, eval (.Name x p2) X.env) :: starEach [] X.env := by rfl) (hpl : (backTo pos (starEach [] X.env)).any (·.1) = false := by rfl) :
    SE X W (.Call (.Name "len" p) [.Name x p2] [] pos) (xLenO i) := by
  refine ⟨_, pe_callB call_len_seq hg hm boot_len (pa_cons (pe_var hN hv hd hcd) pa_nil hs) (by decide) (by decide) hs hpl, fun BF B env σ F H sr => ?_⟩
  unfold xLenO
  split
  · rename_i ds e
    obtain ⟨a, vs, e1, _, _, e2, r⟩ := sr.own e
    exact ret_of sr.inn (fun Q q => ⟨_, e1, a, vs, rfl, .inl (SqL.of e2), by rw [dps_len r]; exact q⟩) (.int _)
  · trivial
theorem se_ixO (i : Nat) {x : Str} {p2 : Pos} (hb : SE X W b g) (hs : PlainIx b) (hN : X.N[i]? = some x := by rfl) (hv : Vis X.env.scope x := by first | exact Or.inl rfl | exact Or.inr (Or.inl rfl) | exact Or.inr (Or.inr rfl)) (hd : (x == ("__debug__" : Str)) = false := by decide)
    (hcd : (x == ("__classdict__" : Str)) = false := by decide) : SE X W (.Subscript (.Name x p2) b pos) (xIxO i g) := by
  obtain ⟨tb, pb, gb⟩ := hb
  refine ⟨_, pe_ix ix_list (pe_var hN hv hd hcd) pb hs, fun BF B env σ F H sr => ?_⟩
  unfold xIxO
  split
  · rename_i ds e
    obtain ⟨a, vs, e1, _, fn, e2, r⟩ := sr.own e
    have q0 : Ret (RD X.K) W σ F H ((g env).bnd (oIdxL ds)) (fun Q => tb σ H fun y H2 => rIxL X.K (.ref a) y H2 Q) := by
      refine Ret.bnd (R := RD X.K) (R' := RD X.K) (gb _ _ _ _ _ _ sr) (fun _ _ _ _ _ _ h => h) sr.inn (T' := fun y H2 Q => rIxL X.K (.ref a) y H2 Q) fun d v F1 H1 _ st rd => ?_
      cases rd with
      | int j =>
        show Ret (RD X.K) W σ F1 H1 (match atI ds j with | some d => .ok d | none => .bad) _
        cases e6 : atI ds j with
        | none => trivial
        | some z =>
          obtain ⟨u, e7, r7⟩ := atI_dps (dps_mono st.fr r) e6
          exact ret_of st.inn (fun Q q => ⟨_, vs, j, u, rfl, rfl, SqL.of (st.pv _ _ e2 fn).2, e7, q⟩) r7
      | _ => trivial
    cases e3 : (g env).bnd (oIdxL ds) with
    | bad => trivial
    | ok z =>
      rw [e3] at q0
      exact fun Q q => ⟨_, e1, q0 Q q⟩
    | exc c =>
      rw [e3] at q0
      exact fun Q q => ⟨_, e1, q0 Q q⟩
  · trivial

/-! ### what is walked -/
/-- J walks ds, whose values stand in F -/
def JW (K : PySem.W.Frag) (J : It) (F : Hp) (ds : List D) : Prop := ∀ F1 H1, Same F F1 → Same F1 H1 → ∀ i,
  (∀ d, ds[i]? = some d → J.go i H1 ∧ ∀ x H2, J.yld i H1 x H2 → ∃ F2, Step F1 H1 F2 H2 ∧ Dp K F2 x d) ∧ (ds.length ≤ i → J.stop i H1)
abbrev RJ (K : PySem.W.Frag) : Hp → Hp → Hp → It → List D → Prop := fun _ F' _ J ds => JW K J F' ds
def SI (X : Cx) (W : Wx) (tg it : Expr) (src : AX) : Prop := ∃ wi : TI, PI X tg it wi ∧ ∀ BF B env σ F H, SR (kx X) BF B env σ F H → Ret (RJ X.K) W σ F H (src env) (wi σ H)
def oItemsL : D → An (List D)
  | .list ds => .ok ds
  | _ => .bad
def oItemsT : D → An (List D)
  | .tuple ds => .ok ds
  | _ => .bad
def iL (f : EX) : AX := fun env => (f env).bnd oItemsL
def iT (f : EX) : AX := fun env => (f env).bnd oItemsT
def oRng (lo hi : Int) : An (List D) := if (-100000 ≤ lo ∧ lo ≤ 100000) ∧ (-100000 ≤ hi ∧ hi ≤ 100000) then .ok ((List.range (hi - lo).toNat).map fun i : Nat => .int (lo + (i : Int))) else .bad
def oRng1 : List D → An (List D)
  | [.int n] => oRng 0 n
  | _ => .bad
def oRng2 : List D → An (List D)
  | [.int m, .int n] => oRng m n
  | _ => .bad
def iR1 (f : EX) : AX := fun env => (aCons f aNil env).bnd oRng1
def iR2 (f g : EX) : AX := fun env => (aCons f (aCons g aNil) env).bnd oRng2
def enumD (ds : List D) : List D := (List.range ds.length).map fun i : Nat => .tuple [.int (i : Int), ds.getD i .none]
def oEnum : List D → An (List D)
  | [.list ds] => .ok (enumD ds)
  | _ => .bad
def iE (f : EX) : AX := fun env => (aCons f aNil env).bnd oEnum
def zipD : List D → List D → List D
  | x :: xs, y :: ys => .tuple [x, y] :: zipD xs ys
  | _, _ => []
def oZip : List D → An (List D)
  | [.list ds, .list es] => .ok (zipD ds es)
  | _ => .bad
def iZ (f g : EX) : AX := fun env => (aCons f (aCons g aNil) env).bnd oZip
theorem jw_list {K : PySem.W.Frag} {a : Addr} {F : Hp} {vs : List V} {ds : List D} (h : SqL K F a vs) (r : DpAll K F vs ds) : JW K (Itl K a) F ds := by
  intro F1 H1 s1 s2 i
  have h1 : SqL K H1 a vs := s2.seq (s1.seq h)
  refine ⟨fun d e => ?_, fun e => ⟨vs, h1, by rw [dps_len r]; exact e⟩⟩
  obtain ⟨v, e2, rv⟩ := dps_get' r e
  refine ⟨⟨vs, v, h1, e2⟩, fun x H2 y => ?_⟩
  obtain ⟨rfl, y⟩ := y
  have e3 : x = v := Option.some.inj ((y vs h1).symm.trans e2)
  subst e3
  exact ⟨F1, Step.refl s2, dp_mono s1 rv⟩
theorem jw_tup {K : PySem.W.Frag} {a : Addr} {F : Hp} {vs : List V} {ds : List D} (h : SqT K F a vs) (r : DpAll K F vs ds) : JW K (Itt K a) F ds := by
  intro F1 H1 s1 s2 i
  have h1 : SqT K H1 a vs := same_seqT s2 (same_seqT s1 h)
  refine ⟨fun d e => ?_, fun e => ⟨vs, h1, by rw [dps_len r]; exact e⟩⟩
  obtain ⟨v, e2, rv⟩ := dps_get' r e
  refine ⟨⟨vs, v, h1, e2⟩, fun x H2 y => ?_⟩
  obtain ⟨rfl, y⟩ := y
  have e3 : x = v := Option.some.inj ((y vs h1).symm.trans e2)
  subst e3
  exact ⟨F1, Step.refl s2, dp_mono s1 rv⟩
theorem jw_rng {K : PySem.W.Frag} {F : Hp} (lo : Int) (n : Nat) : JW K (Itr lo n) F ((List.range n).map fun i : Nat => .int (lo + (i : Int))) := by
  intro F1 H1 s1 s2 i
  refine ⟨fun d e => ?_, fun e => by
    show n ≤ i
    simpa using e⟩
  rw [List.getElem?_map] at e
  have hi : i < n := by
    by_cases hi : i < n
    · exact hi
    · rw [List.getElem?_eq_none (by simpa using hi)] at e
      cases e
  rw [List.getElem?_range hi] at e
  cases e
  refine ⟨hi, fun x H2 y => ?_⟩
  obtain ⟨rfl, rfl⟩ := y
  exact ⟨F1, Step.refl s2, .int _⟩
theorem jw_enum {K : PySem.W.Frag} {a : Addr} {F : Hp} {vs : List V} {ds : List D} (h : SqL K F a vs) (r : DpAll K F vs ds) : JW K (Ite K a) F (enumD ds) := by
  intro F1 H1 s1 s2 i
  have h1 : SqL K H1 a vs := s2.seq (s1.seq h)
  have hl := dps_len r
  refine ⟨fun d e => ?_, fun e => ⟨vs, h1, ?_⟩⟩
  · unfold enumD at e
    rw [List.getElem?_map] at e
    have hi : i < ds.length := by
      by_cases hi : i < ds.length
      · exact hi
      · rw [List.getElem?_eq_none (by simpa using hi)] at e
        cases e
    rw [List.getElem?_range hi] at e
    cases e
    obtain ⟨v, e2, rv⟩ := dps_get' r (List.getElem?_eq_getElem hi)
    have eg : ds.getD i .none = ds[i] := by
      rw [List.getD_eq_getElem?_getD, List.getElem?_eq_getElem hi]
      rfl
    refine ⟨⟨vs, v, h1, e2⟩, fun x H2 y => ?_⟩
    obtain ⟨T, z, rfl, hT, rfl, y⟩ := y
    have e3 : z = v := Option.some.inj ((y vs h1).symm.trans e2)
    subst e3
    refine ⟨upd F1 T (.tup [.int (i : Nat), z]), Step.new s2 hT, ?_⟩
    have s3 : Same F1 (upd F1 T (.tup [.int (i : Nat), z])) := same_new (s2.free hT)
    show Dp K _ _ (.tuple [.int (i : Int), ds.getD i .none])
    rw [eg]
    exact .tup (SqT.of upd_same) (.cons (.int _) (.cons (dp_mono (s1.trans s3) rv) .nil))
  · unfold enumD at e
    rw [List.length_map, List.length_range] at e
    omega
theorem zipD_len : ∀ xs ys : List D, (zipD xs ys).length = min xs.length ys.length
  | [], _ => by simp [zipD]
  | _ :: _, [] => by simp [zipD]
  | x :: xs, y :: ys => by
    show (zipD xs ys).length + 1 = min (xs.length + 1) (ys.length + 1)
    rw [zipD_len xs ys]
    omega
theorem zipD_get : ∀ (xs ys : List D) (i : Nat) (d : D), (zipD xs ys)[i]? = some d → ∃ x y, xs[i]? = some x ∧ ys[i]? = some y ∧ d = .tuple [x, y]
  | [], _, i, d, h => by simp [zipD] at h
  | _ :: _, [], i, d, h => by simp [zipD] at h
  | x :: xs, y :: ys, 0, d, h => ⟨x, y, rfl, rfl, by simpa [zipD] using h.symm⟩
  | x :: xs, y :: ys, i + 1, d, h => by
    have h' : (zipD xs ys)[i]? = some d := by simpa [zipD] using h
    obtain ⟨u, v, a, b, c⟩ := zipD_get xs ys i d h'
    exact ⟨u, v, by simpa using a, by simpa using b, c⟩
theorem jw_zip {K : PySem.W.Frag} {a b : Addr} {F : Hp} {vs us : List V} {ds es : List D} (h : SqL K F a vs) (r : DpAll K F vs ds) (h2 : SqL K F b us) (r2 : DpAll K F us es) : JW K (Itz K a b) F (zipD ds es) := by
  intro F1 H1 s1 s2 i
  have k1 : SqL K H1 a vs := s2.seq (s1.seq h)
  have k2 : SqL K H1 b us := s2.seq (s1.seq h2)
  have hl := dps_len r
  have hl2 := dps_len r2
  refine ⟨fun d e => ?_, fun e => ⟨vs, us, k1, k2, ?_⟩⟩
  · obtain ⟨x, y, ex, ey, rfl⟩ := zipD_get ds es i d e
    obtain ⟨v, e2, rv⟩ := dps_get' r ex
    obtain ⟨u, e4, ru⟩ := dps_get' r2 ey
    refine ⟨⟨vs, us, v, u, k1, k2, e2, e4⟩, fun z H2 yy => ?_⟩
    obtain ⟨T, x', y', rfl, hT, rfl, y1, y2⟩ := yy
    have e5 : x' = v := Option.some.inj ((y1 vs k1).symm.trans e2)
    have e6 : y' = u := Option.some.inj ((y2 us k2).symm.trans e4)
    subst e5
    subst e6
    have s3 : Same F1 (upd F1 T (.tup [x', y'])) := same_new (s2.free hT)
    exact ⟨upd F1 T (.tup [x', y']), Step.new s2 hT, .tup (SqT.of upd_same) (.cons (dp_mono (s1.trans s3) rv) (.cons (dp_mono (s1.trans s3) ru) .nil))⟩
  · rw [zipD_len] at e
    omega
variable {tg : Expr}
theorem si_list (h : SE X W e f) : SI X W tg e (iL f) := by
  obtain ⟨t, p, r⟩ := h
  refine ⟨_, pi_list p, fun BF B env σ F H sr => Ret.bnd (R := RD X.K) (R' := RJ X.K) (r _ _ _ _ _ _ sr) (fun _ _ _ _ _ _ h => h) sr.inn (T' := fun x H1 R => ∃ a, x = .ref a ∧ (∃ xs, SqL X.K H1 a xs) ∧ R (Itl X.K a) H1) fun d v F1 H1 _ st rd => ?_⟩
  unfold oItemsL
  split
  · cases rd with
    | lst ha hs => exact ret_of st.inn (fun Q q => ⟨_, rfl, ⟨_, st.inn.seq ha⟩, q⟩) (jw_list ha hs)
  · trivial
theorem si_tup (h : SE X W e f) : SI X W tg e (iT f) := by
  obtain ⟨t, p, r⟩ := h
  refine ⟨_, pi_tup p, fun BF B env σ F H sr => Ret.bnd (R := RD X.K) (R' := RJ X.K) (r _ _ _ _ _ _ sr) (fun _ _ _ _ _ _ h => h) sr.inn (T' := fun x H1 R => ∃ a, x = .ref a ∧ (∃ xs, SqT X.K H1 a xs) ∧ R (Itt X.K a) H1) fun d v F1 H1 _ st rd => ?_⟩
  unfold oItemsT
  split
  · cases rd with
    | tup ha hs => exact ret_of st.inn (fun Q q => ⟨_, rfl, ⟨_, same_seqT st.inn ha⟩, q⟩) (jw_tup ha hs)
  · trivial
theorem si_rng1 {p : Pos} (hm : X.mg "range" = none) (h : SE X W e f) (hg : Gl X "range" := by rfl) (hs : starEach [e] X.env = [(false, eval e X.env)] := by rfl) : SI X W tg (.Call (.Name "range" p) [e] [] pos) (iR1 f) := by
  obtain ⟨t, pt, rt⟩ := sa_cons h sa_nil hs
  refine ⟨_, pi_range1 hg hm pt hs, fun BF B env σ F H sr => Ret.bnd (R := RA X.K) (R' := RJ X.K) (rt _ _ _ _ _ _ sr) (fun _ _ _ _ _ _ h => h) sr.inn (T' := fun vs H1 R => ∃ j : Int, vs = [.int j] ∧ -(2 ^ 62) ≤ j ∧ j < 2 ^ 62 ∧ R (Itr 0 j.toNat) H1) fun ds vs F1 H1 _ st rd => ?_⟩
  unfold oRng1
  split
  · unfold oRng
    split
    · rename_i n _ hb
      cases rd with
      | cons r1 r2 =>
        cases r1
        cases r2
        refine ret_of st.inn (fun Q q => ⟨n, rfl, by omega, by omega, q⟩) ?_
        have e0 : (n - 0).toNat = n.toNat := by rw [Int.sub_zero]
        rw [e0]
        exact jw_rng 0 n.toNat
    · trivial
  · trivial
theorem si_rng2 {p : Pos} (hm : X.mg "range" = none) (h : SE X W e f) (h2 : SE X W b g) (hg : Gl X "range" := by rfl) (hs : starEach [e, b] X.env = [(false, eval e X.env), (false, eval b X.env)] := by rfl) (hs2 : starEach [b] X.env = [(false, eval b X.env)] := by rfl) : SI X W tg (.Call (.Name "range" p) [e, b] [] pos) (iR2 f g) := by
  obtain ⟨t, pt, rt⟩ := sa_cons h (sa_cons h2 sa_nil hs2) (hs.trans (by rw [hs2]))
  refine ⟨_, pi_range2 hg hm pt hs hs2, fun BF B env σ F H sr => Ret.bnd (R := RA X.K) (R' := RJ X.K) (rt _ _ _ _ _ _ sr) (fun _ _ _ _ _ _ h => h) sr.inn (T' := fun vs H1 R => ∃ i j : Int, vs = [.int i, .int j] ∧ (-(2 ^ 62) ≤ i ∧ i < 2 ^ 62 ∧ -(2 ^ 62) ≤ j ∧ j < 2 ^ 62) ∧ R (Itr i (j - i).toNat) H1) fun ds vs F1 H1 _ st rd => ?_⟩
  unfold oRng2
  split
  · unfold oRng
    split
    · rename_i m n _ hb
      cases rd with
      | cons r1 r2 =>
        cases r1
        cases r2 with
        | cons r2 r3 =>
          cases r2
          cases r3
          exact ret_of st.inn (fun Q q => ⟨m, n, rfl, by omega, q⟩) (jw_rng m (n - m).toNat)
    · trivial
  · trivial
theorem si_enum {p tpos : Pos} {elts : List Expr} {kk : Nat} (hm : X.mg "enumerate" = none) (h : SE X W e f) (hg : Gl X "enumerate" := by rfl) (hs : starEach [e] X.env = [(false, eval e X.env)] := by rfl) : SI X W (.Tuple elts kk tpos) (.Call (.Name "enumerate" p) [e] [] pos) (iE f) := by
  obtain ⟨t, pt, rt⟩ := sa_cons h sa_nil hs
  refine ⟨_, pi_enum hg hm pt hs, fun BF B env σ F H sr => Ret.bnd (R := RA X.K) (R' := RJ X.K) (rt _ _ _ _ _ _ sr) (fun _ _ _ _ _ _ h => h) sr.inn (T' := fun vs H1 R => ∃ a xs, vs = [.ref a] ∧ SqL X.K H1 a xs ∧ R (Ite X.K a) H1) fun ds vs F1 H1 _ st rd => ?_⟩
  unfold oEnum
  split
  · cases rd with
    | cons r1 r2 =>
      cases r2
      cases r1 with
      | lst ha hs' => exact ret_of st.inn (fun Q q => ⟨_, _, rfl, st.inn.seq ha, q⟩) (jw_enum ha hs')
  · trivial
theorem si_zip {p tpos : Pos} {elts : List Expr} {kk : Nat} (hm : X.mg "zip" = none) (h : SE X W e f) (h2 : SE X W b g) (hg : Gl X "zip" := by rfl) (hs : starEach [e, b] X.env = (false, eval e X.env) :: starEach [b] X.env := by rfl) (hs2 : starEach [b] X.env = (false, eval b X.env) :: starEach [] X.env := by rfl) (hpl : (backTo pos (starEach [b] X.env)).any (·.1) = false := by rfl) :
    SI X W (.Tuple elts kk tpos) (.Call (.Name "zip" p) [e, b] [] pos) (iZ f g) := by
  obtain ⟨t, pt, rt⟩ := sa_cons h (sa_cons h2 sa_nil hs2) hs
  refine ⟨_, pi_zip hg hm pt hs hpl, fun BF B env σ F H sr => Ret.bnd (R := RA X.K) (R' := RJ X.K) (rt _ _ _ _ _ _ sr) (fun _ _ _ _ _ _ h => h) sr.inn (T' := fun vs H1 R => ∃ a b xs ys, vs = [.ref a, .ref b] ∧ SqL X.K H1 a xs ∧ SqL X.K H1 b ys ∧ R (Itz X.K a b) H1) fun ds vs F1 H1 _ st rd => ?_⟩
  unfold oZip
  split
  · cases rd with
    | cons r1 r2 =>
      cases r2 with
      | cons r2 r3 =>
        cases r3
        cases r1 with
        | lst ha hs' =>
          cases r2 with
          | lst hb hs2' => exact ret_of st.inn (fun Q q => ⟨_, _, _, _, rfl, st.inn.seq ha, st.inn.seq hb, q⟩) (jw_zip ha hs' hb hs2')
  · trivial

/-! ### targets -/
abbrev BX := D → Env → Option Env
def bName (i : Nat) : BX := fun d env => some (env.set i (.val d))
def setAll : List Nat → List D → Env → Option Env
  | [], [], env => some env
  | i :: is, d :: ds, env => setAll is ds (env.set i (.val d))
  | _, _, _ => none
def bTup (is : List Nat) : BX := fun d env => match d with
  | .tuple ds => setAll is ds env
  | _ => none
theorem wipe_get (σ : St) (j : Nat) : ∀ vs : List Nat, (wipe σ vs)[j]? = if j ∈ vs then (σ[j]?).map (fun _ => none) else σ[j]?
  | [] => by simp [wipe]
  | v :: vs => by
    show ((wipe σ vs).set v none)[j]? = _
    by_cases h : v = j
    · subst h
      rw [List.getElem?_set_self', wipe_get σ v vs, if_pos List.mem_cons_self]
      cases e : σ[v]? with
      | none => split <;> rfl
      | some x => split <;> rfl
    · rw [List.getElem?_set_ne h, wipe_get σ j vs]
      by_cases hj : j ∈ vs
      · rw [if_pos hj, if_pos (List.mem_cons_of_mem _ hj)]
      · rw [if_neg hj, if_neg (fun z => (List.mem_cons.mp z).elim (fun z => h z.symm) hj)]
theorem wipe_set {σ : St} {i : Nat} {x : Option V} {vs : List Nat} (h : i ∈ vs) : wipe (σ.set i x) vs = wipe σ vs := by
  refine List.ext_getElem? fun j => ?_
  rw [wipe_get, wipe_get]
  by_cases hj : i = j
  · subst hj
    rw [if_pos h, if_pos h, List.getElem?_set_self']
    cases σ[i]? <;> rfl
  · rw [List.getElem?_set_ne hj]
def wipeE (env : Env) : List Nat → Env
  | [] => env
  | v :: vs => (wipeE env vs).set v .un
theorem SR.wipe {k : KX} {BF B F H : Hp} {env : Env} {σ : St} (s : SR k BF B env σ F H) : ∀ vs : List Nat, SR k BF B (wipeE env vs) (L2.wipe σ vs) F H
  | [] => s
  | v :: vs => (SR.wipe s vs).unset
/-- what a target's reading is worth; ts: the slots that it sets -/
def GB (k : KX) (g : TG) (b : BX) (ts : List Nat) : Prop := ∀ BF B env σ F H v d env', SR k BF B env σ F H → Dp k.1 F v d → b d env = some env' →
  ∀ Q : St → Hp → Prop, (∀ σ', SR k BF B env' σ' F H → (∀ vs : List Nat, (∀ i ∈ ts, i ∈ vs) → L2.wipe σ' vs = L2.wipe σ vs) → Q σ' H) → g v σ H Q
theorem gb_name {k : KX} (i : Nat) : GB k (gName i) (bName i) [i] := by
  intro BF B env σ F H v d env' sr r e Q q
  cases e
  exact q _ (sr.set r) fun vs h => wipe_set (h i List.mem_cons_self)
def gNames : List Nat → TGs
  | [] => gNil
  | i :: is => gCons (gName i) (gNames is)
theorem gb_names {k : KX} {BF B F H : Hp} : ∀ (is : List Nat) (env : Env) (σ : St) (vs : List V) (ds : List D) (env' : Env), SR k BF B env σ F H → DpAll k.1 F vs ds → setAll is ds env = some env' →
    ∀ Q : St → Hp → Prop, (∀ σ', SR k BF B env' σ' F H → (∀ us : List Nat, (∀ i ∈ is, i ∈ us) → L2.wipe σ' us = L2.wipe σ us) → Q σ' H) → gNames is vs σ H Q
  | [], env, σ, vs, ds, env', sr, r, e, Q, q => by
    cases r with
    | nil =>
      cases e
      exact ⟨rfl, q σ sr fun _ _ => rfl⟩
    | cons a b => cases e
  | i :: is, env, σ, vs, ds, env', sr, r, e, Q, q => by
    cases r with
    | nil => cases e
    | @cons v vs d ds a b =>
      refine ⟨v, vs, rfl, ?_⟩
      exact gb_names is _ _ vs ds env' (sr.set a) b e Q fun σ' sr' hw => q σ' sr' fun us h => (hw us fun j hj => h j (List.mem_cons_of_mem _ hj)).trans (wipe_set (h i List.mem_cons_self))
theorem setAll_len : ∀ (is : List Nat) (ds : List D) (env env' : Env), setAll is ds env = some env' → ds.length = is.length
  | [], [], _, _, _ => rfl
  | [], _ :: _, _, _, e => by cases e
  | _ :: _, [], _, _, e => by cases e
  | _ :: is, _ :: ds, _, _, e => congrArg (· + 1) (setAll_len is ds _ _ e)
theorem gb_tup {k : KX} (is : List Nat) (n : Nat) (hn : is.length = n) : GB k (gTup k.1 n (gNames is)) (bTup is) is := by
  intro BF B env σ F H v d env' sr r e Q q
  unfold bTup at e
  split at e
  · rename_i ds
    cases r with
    | @tup a vs _ ha hs =>
      have hl := setAll_len _ _ _ _ e
      exact ⟨a, vs, rfl, same_seqT sr.inn ha, by rw [dps_len hs, hl, hn], gb_names is env σ vs ds env' sr hs e Q q⟩
  · cases e
theorem pgs_names_nil : PGs X [] (gNames []) := pgs_nil
theorem pgs_names_cons {x : Str} {p : Pos} {i : Nat} {es : List Expr} {is : List Nat} (nd : X.N.Nodup) (h2 : PGs X es (gNames is)) (hi : X.N[i]? = some x := by rfl) (hx : Loc X.env.scope x := by first | exact Or.inl rfl | exact Or.inr rfl) (hf : X.fn x = true ∨ X.env.scope.names.lookup x = some .local := by first | exact .inl rfl | exact .inr rfl)
    (hs : (assignEach (.Name x p :: es) X.env).map (·.2) = assign (.Name x p) X.env :: (assignEach es X.env).map (·.2) := by rfl) : PGs X (.Name x p :: es) (gNames (i :: is)) := pgs_cons (pg_name nd hi hx hf) h2 hs

/-! ### list comprehensions -/
def lcGo (b : BX) (c : TX) (f : EX) (env0 : Env) : List D → An (List D)
  | [] => .ok []
  | d :: ds => match b d env0 with
    | none => .bad
    | some env1 => match c env1 with
      | .ok true => (match f env1 with
        | .ok x => (lcGo b c f env0 ds).bnd fun xs => .ok (x :: xs)
        | _ => .bad)
      | .ok false => lcGo b c f env0 ds
      | _ => .bad
def oLc (vs : List Nat) (b : BX) (c : TX) (f : EX) (env : Env) (ds : List D) : An (List D) := if ds.length ≤ 100000 then lcGo b c f (wipeE env vs) ds else .bad
def xLc (src : AX) (vs : List Nat) (b : BX) (c : TX) (f : EX) : AX := fun env => (src env).bnd (oLc vs b c f env)
def tYesX : TX := fun _ => .ok true
abbrev blkX (X : Cx) (scope : Scope) (s : Shared) (H : Hp) (C : Addr) (cl : List (Str × Addr)) (fp : List Addr) : Cx := X.blk s H scope (compEnvC scope cl C X.env) fp
/-- the tests of a comprehension -/
def STs (X : Cx) (W : Wx) (ifs : List Expr) (f : TX) : Prop := ∃ t : TT, PTs X ifs t ∧ ∀ BF B env σ F H, SR (kx X) BF B env σ F H → Ret RB W σ F H (f env) (t σ H)
theorem sts_nil : STs X W [] tYesX := ⟨_, pts_nil, fun _ _ _ _ _ _ sr => ret_of sr.inn (fun _ q => q) rfl⟩
theorem sts_one {tf : TX} (h : ST X W e tf) : STs X W [e] tf := by
  obtain ⟨t, p, r⟩ := h
  exact ⟨t, pts_one p, r⟩
theorem Step.wr {F H F' H' : Hp} {p : Addr} {o : HO} (s : Step F H F' H') (n : H p = none) (f : F' p = none) : Step F H F' (upd H' p o) :=
  ⟨s.fr, fun b u e => by rw [upd_ne (ne_of_none e f)]; exact s.inn b u e, fun b u e g => by
    rw [upd_ne (ne_of_none e n)]
    exact s.pv b u e g⟩
theorem lcGo_len (b : BX) (c : TX) (f : EX) (env0 : Env) : ∀ (ds xs : List D), lcGo b c f env0 ds = .ok xs → xs.length ≤ ds.length
  | [], xs, e => by
    cases e
    exact Nat.le_refl _
  | d :: ds, xs, e => by
    unfold lcGo at e
    split at e
    · cases e
    · split at e
      · split at e
        · cases e2 : lcGo b c f env0 ds with
          | bad =>
            rw [e2] at e
            cases e
          | exc z =>
            rw [e2] at e
            cases e
          | ok ys =>
            rw [e2] at e
            cases e
            have := lcGo_len b c f env0 ds ys e2
            show ys.length + 1 ≤ ds.length + 1
            omega
        · cases e
      · have := lcGo_len b c f env0 ds xs e
        show xs.length ≤ ds.length + 1
        omega
      · cases e
theorem lcGo_exc (b : BX) (c : TX) (f : EX) (env0 : Env) : ∀ (ds : List D) (x : Xc), lcGo b c f env0 ds = .exc x → False
  | [], x, e => by cases e
  | d :: ds, x, e => by
    unfold lcGo at e
    split at e
    · cases e
    · split at e
      · split at e
        · cases e2 : lcGo b c f env0 ds with
          | bad =>
            rw [e2] at e
            cases e
          | exc z => exact lcGo_exc b c f env0 ds z e2
          | ok ys =>
            rw [e2] at e
            cases e
        · cases e
      · exact lcGo_exc b c f env0 ds x e
      · cases e
/-- the reading of a comprehension; kb: the block's -/
theorem lc_ret {kb : KX} {wi : TI} {g : TG} {tt : TT} {te : TE} {vs ts : List Nat} {src : AX} {b : BX} {c : TX} {f : EX} {BF B : Hp} {env : Env} {σ : St} {F H : Hp} (hk : kb.1 = (kx X).1) (hn : noErr env = true) (sr : SR (kx X) BF B env σ F H)
    (gi : Ret (RJ X.K) W σ F H (src env) (wi σ H)) (gg : GB kb g b ts) (hts : ∀ i ∈ ts, i ∈ vs) (gt : ∀ BF B env σ F H, SR kb BF B env σ F H → Ret RB W0 σ F H (c env) (tt σ H)) (ge : ∀ BF B env σ F H, SR kb BF B env σ F H → Ret (RD X.K) W0 σ F H (f env) (te σ H)) :
    Ret (RL X.K) W σ F H (xLc src vs b c f env) (tLc wi g tt te vs σ H) := by
  obtain ⟨kb1, ea⟩ := kb
  dsimp only at hk
  subst hk
  refine Ret.bnd (R := RJ X.K) (R' := RL X.K) gi RL.back sr.inn (T' := fun J H1 Q => ∀ D, H1 D = none → ∃ W : Nat → Nat → Hp → Prop, (∃ m, W 0 m (upd H1 D (.lst []))) ∧ ∀ i m H, W i m H →
    (J.stop i H ∧ Q (.ref D) H) ∨ (J.go i H ∧ ∃ Nx : Hp → Prop, (∀ H', Nx H' → ∃ m', m' < m ∧ W (i + 1) m' H') ∧ ∀ x H', J.yld i H x H' → g x (L2.wipe σ vs) H' fun σ2 H2 => L2.wipe σ2 vs = L2.wipe σ vs ∧ tt σ2 H2 fun b H3 =>
      if b = true then te σ2 H3 fun y H4 => ∃ acc, H4 D = some (.lst acc) ∧ acc.length < sizeLine ∧ Nx (upd H4 D (.lst (acc ++ [y]))) else Nx H3)) fun ds J F1 H1 _ st jw => ?_
  unfold oLc
  split
  · rename_i hz
    cases e : lcGo b c f (wipeE env vs) ds with
    | bad => trivial
    | exc x => exact (lcGo_exc b c f _ ds x e).elim
    | ok total =>
      intro Q q Dl hD
      have srE : SR ((kx X).1, ea) BF B (wipeE env vs) (L2.wipe σ vs) F1 H1 := ((sr.step st).other hn).wipe vs
      refine ⟨fun i m H' => m = ds.length - i ∧ i ≤ ds.length ∧ ∃ F' acc don rst, lcGo b c f (wipeE env vs) (ds.drop i) = .ok rst ∧ don ++ rst = total ∧ don.length ≤ i ∧ Step F1 H1 F' H' ∧ F' Dl = none ∧ H' Dl = some (.lst acc) ∧ DpAll X.K F' acc don,
        ⟨ds.length, by simp, Nat.zero_le _, F1, [], [], total, by simpa using e, rfl, Nat.le_refl _, Step.priv st.inn hD, st.inn.free hD, upd_same, .nil⟩, ?_⟩
      rintro i m H' ⟨rfl, hi, F', acc, don, rst, e1, e2, hdl, st', fd, hd, rd⟩
      have jw' := jw F' H' st'.fr st'.inn i
      by_cases hlt : i < ds.length
      · have hget : ds[i]? = some ds[i] := List.getElem?_eq_getElem hlt
        have hdrop : ds.drop i = ds[i] :: ds.drop (i + 1) := List.drop_eq_getElem_cons hlt
        rw [hdrop] at e1
        unfold lcGo at e1
        split at e1
        · cases e1
        · rename_i env1 eb
          obtain ⟨go, yl⟩ := jw'.1 _ hget
          refine .inr ⟨go, fun H'' => ∃ F' acc don rst, lcGo b c f (wipeE env vs) (ds.drop (i + 1)) = .ok rst ∧ don ++ rst = total ∧ don.length ≤ i + 1 ∧ Step F1 H1 F' H'' ∧ F' Dl = none ∧ H'' Dl = some (.lst acc) ∧ DpAll X.K F' acc don, fun H'' h => ⟨ds.length - (i + 1), by omega, rfl, hlt, h⟩, fun x H2 y => ?_⟩
          obtain ⟨F2, st2, r2⟩ := yl x H2 y
          obtain ⟨fd2, hd2⟩ := st2.pv _ _ hd fd
          refine gg BF B _ _ F2 H2 x ds[i] env1 (srE.step (st'.trans st2)) r2 eb _ fun σ2 sr2 hw => ⟨?_, ?_⟩
          · rw [hw vs hts]
            refine List.ext_getElem? fun j => ?_
            rw [wipe_get, wipe_get]
            by_cases hj : j ∈ vs
            · rw [if_pos hj, if_pos hj]
              cases σ[j]? <;> rfl
            · rw [if_neg hj]
          · have qt := gt BF B env1 σ2 F2 H2 sr2
            split at e1
            · rename_i et
              rw [et] at qt
              refine qt _ fun bv F3 H3 st3 eb3 => ?_
              have eb3 : bv = true := eb3
              subst eb3
              rw [if_pos rfl]
              have qe := ge BF B env1 σ2 F3 H3 (sr2.step st3)
              split at e1
              · rename_i xv ex
                rw [ex] at qe
                refine qe _ fun yv F4 H4 st4 r4 => ?_
                have stA := (st'.trans st2).trans (st3.trans st4)
                obtain ⟨fd4, hd4⟩ := (st2.trans (st3.trans st4)).pv _ _ hd fd
                cases e3 : lcGo b c f (wipeE env vs) (ds.drop (i + 1)) with
                | bad =>
                  rw [e3] at e1
                  cases e1
                | exc z =>
                  rw [e3] at e1
                  cases e1
                | ok rst' =>
                  rw [e3] at e1
                  cases e1
                  refine ⟨acc, hd4, ?_, F4, acc ++ [yv], don ++ [xv], rst', e3.symm ▸ rfl, ?_, ?_, stA.wr hD fd4, fd4, upd_same, dps_app (dps_mono (st2.trans (st3.trans st4)).fr rd) (.cons r4 .nil)⟩
                  · rw [dps_len rd]
                    exact Nat.lt_of_lt_of_le (by omega : don.length < 100001) (by decide)
                  · rw [List.append_assoc]
                    exact e2
                  · rw [List.length_append]
                    show don.length + 1 ≤ i + 1
                    omega
              · cases e1
            · rename_i et
              rw [et] at qt
              refine qt _ fun bv F3 H3 st3 eb3 => ?_
              have eb3 : bv = false := eb3
              subst eb3
              rw [if_neg Bool.false_ne_true]
              obtain ⟨fd3, hd3⟩ := (st2.trans st3).pv _ _ hd fd
              exact ⟨F3, acc, don, rst, e1, e2, by omega, (st'.trans st2).trans st3, fd3, hd3, dps_mono (st2.trans st3).fr rd⟩
            · cases e1
      · have ei : i = ds.length := by omega
        subst ei
        rw [List.drop_length] at e1
        cases e1
        rw [List.append_nil] at e2
        subst e2
        exact .inl ⟨jw'.2 (Nat.le_refl _), q _ F' H' st' ⟨Dl, acc, rfl, hD, fd, hd, rd⟩⟩
  · trivial
def nErr (f : AX) : AX := fun env => if noErr env = true then f env else .bad
theorem sl_lc {elt tg iter : Expr} {ifs : List Expr} {scope : Scope} {own : List (Str × Nat)} {gt : TG} {src : AX} {bx : BX} {ts : List Nat} {c : TX} {f : EX} (hc : X.calm = true) (nd : X.N.Nodup) (hi : SI X W tg iter src) (ok : BlkOk X.N X.env.scope scope own)
    (hg : ∀ s H C cl fp, PG (blkX X scope s H C cl fp) tg gt) (gb : GB (X.K, 0) gt bx ts) (hts : ∀ i ∈ ts, i ∈ own.map (·.2)) (ht : ∀ s H C cl fp, STs (blkX X scope s H C cl fp) W0 ifs c) (he : ∀ s H C cl fp, SE (blkX X scope s H C cl fp) W0 elt f)
    (hs : ∀ x, foldedSetIterable iter X.env x = pure x := by intro _; rfl) : SL X W (.ListComp elt [⟨tg, iter, ifs, 0⟩] scope pos) (nErr (xLc src (own.map (·.2)) bx c f)) := by
  obtain ⟨wi, pi, ri⟩ := hi
  refine ⟨tLc wi gt (fun σ H Q => ∀ s H' C cl fp, ∃ t, PTs (blkX X scope s H' C cl fp) ifs t ∧ t σ H Q) (fun σ H Q => ∀ s H' C cl fp, ∃ t, PE (blkX X scope s H' C cl fp) elt t ∧ t σ H Q) (own.map (·.2)),
    pe_lc hc nd pi ok hg (fun s H C cl fp => ⟨fun pins s' σ H' Q I h => ?_⟩) (fun s H C cl fp => ⟨fun pins s' σ H' Q I h => ?_⟩) hs, fun BF B env σ F H sr => ?_⟩
  · obtain ⟨t, pt, q⟩ := h s H C cl fp
    exact pt.run pins s' σ H' Q I q
  · obtain ⟨t, pt, q⟩ := h s H C cl fp
    exact pt.run pins s' σ H' Q I q
  · unfold nErr
    split
    · rename_i hn
      refine lc_ret (kb := (X.K, 0)) rfl hn sr (ri _ _ _ _ _ _ sr) gb hts (fun BF B env σ F H sr => ?_) (fun BF B env σ F H sr => ?_)
      · cases e1 : c env with
        | bad => trivial
        | ok z =>
          intro Q q s H' C cl fp
          obtain ⟨t, pt, rt⟩ := ht s H' C cl fp
          have qq := rt BF B env σ F H sr
          rw [e1] at qq
          exact ⟨t, pt, qq Q q⟩
        | exc z =>
          intro Q q s H' C cl fp
          obtain ⟨t, pt, rt⟩ := ht s H' C cl fp
          have qq := rt BF B env σ F H sr
          rw [e1] at qq
          exact ⟨t, pt, qq Q q⟩
      · cases e1 : f env with
        | bad => trivial
        | ok z =>
          intro Q q s H' C cl fp
          obtain ⟨t, pt, rt⟩ := he s H' C cl fp
          have qq := rt BF B env σ F H sr
          rw [e1] at qq
          exact ⟨t, pt, qq Q q⟩
        | exc z =>
          intro Q q s H' C cl fp
          obtain ⟨t, pt, rt⟩ := he s H' C cl fp
          have qq := rt BF B env σ F H sr
          rw [e1] at qq
          exact ⟨t, pt, qq Q q⟩
    · trivial
theorem sl_lcO {elt tg iter : Expr} {ifs : List Expr} {scope : Scope} {own : List (Str × Nat)} {os : List Nat} {gt : TG} {src : AX} {bx : BX} {ts : List Nat} {c : TX} {f : EX} (hc : X.calm = true) (nd : X.N.Nodup) (hi : SI X W tg iter src) (ok : BlkOk X.N X.env.scope scope own) (ho : own.map (·.2) = os)
    (hg : ∀ s H C cl fp, PG (blkX X scope s H C cl fp) tg gt) (gb : GB (X.K, 0) gt bx ts) (hts : ∀ i ∈ ts, i ∈ os) (ht : ∀ s H C cl fp, STs (blkX X scope s H C cl fp) W0 ifs c) (he : ∀ s H C cl fp, SE (blkX X scope s H C cl fp) W0 elt f)
    (hs : ∀ x, foldedSetIterable iter X.env x = pure x := by intro _; rfl) : SL X W (.ListComp elt [⟨tg, iter, ifs, 0⟩] scope pos) (nErr (xLc src os bx c f)) := by
  subst ho
  exact sl_lc hc nd hi ok hg gb hts ht he hs
end
end Mg
namespace Mg
open PySem PySem.Spec PyProof.Rows L2
/-! ### denotations of statements -/
def An.thn {α : Type} (a : An α) (env : Env) (k : α → Out) : Out := match a with
  | .bad => .bad
  | .ok x => k x
  | .exc c => .exc c env
theorem thn_ok {α : Type} {x : α} {env : Env} {k : α → Out} : (An.ok x).thn env k = k x := rfl
theorem thn_exc {α : Type} {c : Xc} {env : Env} {k : α → Out} : (An.exc c : An α).thn env k = .exc c env := rfl
theorem thn_bad {α : Type} {env : Env} {k : α → Out} : (An.bad : An α).thn env k = .bad := rfl
def sSkip : SX := fun env => .nx env
def Out.thn (o : Out) (k : SX) : Out := match o with
  | .nx env => k env
  | o => o
def sSeq (s t : SX) : SX := fun env => (s env).thn t
theorem seq_nx {env : Env} {t : SX} : (Out.nx env).thn t = t env := rfl
theorem seq_ret {d : D} {t : SX} : (Out.ret d).thn t = .ret d := rfl
theorem seq_ct {env : Env} {t : SX} : (Out.ct env).thn t = .ct env := rfl
theorem seq_exc {c : Xc} {env : Env} {t : SX} : (Out.exc c env).thn t = .exc c env := rfl
def sIf (c : TX) (s t : SX) : SX := fun env => (c env).thn env fun b => if b = true then s env else t env
def sAsg (b : BX) (f : EX) : SX := fun env => (f env).thn env fun d => match b d env with
  | some env' => .nx env'
  | none => .bad
def sSet (i : Nat) (f : EX) : SX := fun env => (f env).thn env fun d => .nx (env.set i (.val d))
/-- a new list of one's own -/
def sOwn (i : Nat) (f : AX) : SX := fun env => (f env).thn env fun ds => .nx (env.set i (.own ds))
/-- a, b = x, y -/
def sPar (i j : Nat) (f g : EX) : SX := fun env => (f env).thn env fun d => (g env).thn env fun e => .nx ((env.set i (.val d)).set j (.val e))
def sRet (f : EX) : SX := fun env => (f env).thn env fun d => .ret d
def sCt : SX := fun env => .ct env
def sDrop (f : EX) : SX := fun env => (f env).thn env fun _ => .nx env
def sRaise (c : Xc) : SX := fun env => .exc c env
def sApp (i : Nat) (f : EX) : SX := fun env => match env[i]? with
  | some (.own ds) => (f env).thn env fun d => if ds.length ≤ 100000 then .nx (env.set i (.own (ds ++ [d]))) else .bad
  | _ => .bad
/-- x[k] = e, x a list of the def's own -/
def oSetI (i : Nat) (ds : List D) (d : D) (env : Env) : D → Out
  | .int k => (match ixN ds.length k with
    | some j => .nx (env.set i (.own (ds.set j d)))
    | none => .bad)
  | _ => .bad
def sSetI (i : Nat) (fk f : EX) : SX := fun env => match env[i]? with
  | some (.own ds) => (f env).thn env fun d => (fk env).thn env (oSetI i ds d env)
  | _ => .bad
/-- an own list is frozen (no statement of the text) -/
def sFrz (i : Nat) (s : SX) : SX := fun env => match env[i]? with
  | some (.own ds) => s (env.set i (.val (.list ds)))
  | _ => .bad
def sLoop (b : BX) (body : SX) : List D → SX
  | [], env => .nx env
  | d :: ds, env => match b d env with
    | none => .bad
    | some env1 => match body env1 with
      | .nx env2 => sLoop b body ds env2
      | .ct env2 => sLoop b body ds env2
      | .ret d => .ret d
      | .exc c env2 => .exc c env2
      | .bad => .bad
      | .rtE _ _ => .bad
def sFor (src : AX) (b : BX) (body : SX) : SX := fun env => (src env).thn env fun ds => sLoop b body ds env
/-- behind an except suite: the name of the error is gone -/
def Out.fin (i : Nat) : Out → Out
  | .nx env => if noErr (env.set i .un) = true then .nx (env.set i .un) else .bad
  | .ct env => if noErr (env.set i .un) = true then .ct (env.set i .un) else .bad
  | .ret d => .ret d
  | _ => .bad
def Out.fin0 : Out → Out
  | .nx env => if noErr env = true then .nx env else .bad
  | .ct env => if noErr env = true then .ct env else .bad
  | .ret d => .ret d
  | _ => .bad
def sTry (i : Nat) (body : SX) (h : Xc → SX) : SX := fun env => if noErr env = true then (match body env with
  | .exc c env1 => if noErr env1 = true then (h c (env1.set i .err)).fin i else .bad
  | .nx env1 => if noErr env1 = true then .nx env1 else .bad
  | .ct env1 => if noErr env1 = true then .ct env1 else .bad
  | .ret d => .ret d
  | .rtE _ _ => .bad
  | .bad => .bad) else .bad
def sTry0 (body : SX) (h : Xc → SX) : SX := fun env => if noErr env = true then (match body env with
  | .exc c env1 => if noErr env1 = true then (h c env1).fin0 else .bad
  | .nx env1 => if noErr env1 = true then .nx env1 else .bad
  | .ct env1 => if noErr env1 = true then .ct env1 else .bad
  | .ret d => .ret d
  | .rtE _ _ => .bad
  | .bad => .bad) else .bad

section
variable {X : Cx} {W : Wx} {e : Expr} {es : List Expr} {f g : EX} {fs : AX} {pos : Pos} {st : Stmt} {sts : List Stmt} {s t : SX}
/-- from an expression's answer on -/
theorem Ret.stm {α β : Type} {R : Hp → Hp → Hp → β → α → Prop} {k : KX} {BF B : Hp} {env : Env} {σ : St} {F H : Hp} {a : An α} {T : (β → Hp → Prop) → Prop} {K : α → Out} {E : Ends} {T' : β → Hp → Prop} (ga : Ret R W σ F H a T) (sr : SR k BF B env σ F H)
    (hp : Post k W BF B E F (a.thn env K)) (hk : ∀ d v F1 H1, a = .ok d → Step F H F1 H1 → R H F1 H1 v d → Post k W BF B E F (K d) → T' v H1) : T T' := by
  cases a with
  | bad => exact hp.elim
  | exc c => exact ga _ fun F' H' st => hp σ F' H' st.fr (sr.step st)
  | ok d => exact ga _ fun v F' H' st r => hk d v F' H' rfl st r hp
theorem Post.mono {k : KX} {BF B F F' : Hp} {E : Ends} {o : Out} (h : Post k W BF B E F o) (s : Same F F') : Post k W BF B E F' o := by
  cases o with
  | bad => exact h
  | nx env => exact fun σ F1 H1 s1 => h σ F1 H1 (s.trans s1)
  | ct env => exact fun σ F1 H1 s1 => h σ F1 H1 (s.trans s1)
  | ret d => exact h
  | exc c env => exact fun σ F1 H1 s1 => h σ F1 H1 (s.trans s1)
  | rtE r env => exact fun v σ F1 H1 s1 => h v σ F1 H1 (s.trans s1)
theorem ss_nil : SSs X W [] sSkip := ⟨_, pss_nil, fun BF B env σ F H E sr h => h σ F H (Same.refl F) sr⟩
theorem ss_cons (h1 : SS X W st s) (h2 : SSs X W sts t) : SSs X W (st :: sts) (sSeq s t) := by
  obtain ⟨t1, p1, r1⟩ := h1
  obtain ⟨t2, p2, r2⟩ := h2
  refine ⟨_, pss_cons p1 p2, fun BF B env σ F H E sr h => ?_⟩
  refine r1 BF B env σ F H { E with nx := t2 E } sr ?_
  unfold sSeq at h
  cases e : s env with
  | bad =>
    rw [e] at h
    exact h
  | nx env1 =>
    rw [e] at h
    exact fun σ1 F1 H1 s1 sr1 => r2 BF B env1 σ1 F1 H1 E sr1 (Post.mono h s1)
  | ct env1 =>
    rw [e] at h
    exact h
  | ret d =>
    rw [e] at h
    exact h
  | exc c env1 =>
    rw [e] at h
    exact h
  | rtE r env1 =>
    rw [e] at h
    exact h
theorem ss_one (h1 : SS X W st s) : SSs X W [st] s := by
  obtain ⟨t1, p1, r1⟩ := h1
  exact ⟨_, pss_one p1, r1⟩
theorem ss_frz (i : Nat) (h : SSs X W sts s) : SSs X W sts (sFrz i s) := by
  obtain ⟨t1, p1, r1⟩ := h
  refine ⟨_, p1, fun BF B env σ F H E sr h => ?_⟩
  unfold sFrz at h
  split at h
  · rename_i ds e
    obtain ⟨F', s', sr'⟩ := sr.frz e
    exact r1 _ _ _ _ _ _ E sr' (Post.mono h s')
  · exact h.elim
theorem ss_if {c : Expr} {a b : List Stmt} {tf : TX} (hc : ST X W c tf) (ha : SSs X W a s) (hb : SSs X W b t) : SS X W (.If c a b pos) (sIf tf s t) := by
  obtain ⟨tc, pc, rc⟩ := hc
  obtain ⟨ta, pa, ra⟩ := ha
  obtain ⟨tb, pb, rb⟩ := hb
  refine ⟨_, ps_if pc pa pb, fun BF B env σ F H E sr h => ?_⟩
  refine Ret.stm (T' := fun b H1 => if b = true then ta E σ H1 else tb E σ H1) (rc _ _ _ _ _ _ sr) sr h fun d v F1 H1 _ st r hp => ?_
  have r : v = d := r
  subst r
  cases v with
  | true => exact ra _ _ _ _ _ _ E (sr.step st) (Post.mono hp st.fr)
  | false => exact rb _ _ _ _ _ _ E (sr.step st) (Post.mono hp st.fr)
theorem ss_set (i : Nat) {x : Str} {pos' : Pos} (nd : X.N.Nodup) (he : SE X W e f) (hi : X.N[i]? = some x := by rfl) (hx : Loc X.env.scope x := by first | exact Or.inl rfl | exact Or.inr rfl) (hs : swapsWith e (some (.Name x pos')) pos.line X.env = pure false := by rfl) (hf : X.fn x = true ∨ X.env.scope.names.lookup x = some .local := by first | exact .inl rfl | exact .inr rfl) : SS X W (.Assign [.Name x pos'] e pos) (sSet i f) := by
  obtain ⟨t, p, r⟩ := he
  exact ⟨_, ps_set nd hi hx p hs hf, fun BF B env σ F H E sr h => Ret.stm (T' := fun x H1 => E.nx (σ.set i (some x)) H1) (r _ _ _ _ _ _ sr) sr h fun d v F1 H1 _ st rd hp => hp _ F1 H1 st.fr ((sr.step st).set rd)⟩
theorem ss_own (i : Nat) {x : Str} {pos' : Pos} (nd : X.N.Nodup) (he : SL X W e fs) (hi : X.N[i]? = some x := by rfl) (hx : Loc X.env.scope x := by first | exact Or.inl rfl | exact Or.inr rfl) (hs : swapsWith e (some (.Name x pos')) pos.line X.env = pure false := by rfl) (hf : X.fn x = true ∨ X.env.scope.names.lookup x = some .local := by first | exact .inl rfl | exact .inr rfl) : SS X W (.Assign [.Name x pos'] e pos) (sOwn i fs) := by
  obtain ⟨t, p, r⟩ := he
  refine ⟨_, ps_set nd hi hx p hs hf, fun BF B env σ F H E sr h => Ret.stm (T' := fun x H1 => E.nx (σ.set i (some x)) H1) (r _ _ _ _ _ _ sr) sr h fun ds v F1 H1 _ st rd hp => ?_⟩
  obtain ⟨p, vs, rfl, h1, h2, h3, h4⟩ := rd
  exact hp _ F1 H1 st.fr (sr.setOwn st h1 h2 h3 h4)
/-- name = [..for..] on one line -/
theorem ss_lc (i : Nat) {y : Str} {py spos : Pos} {elt tg iter : Expr} {ifs : List Expr} {scope : Scope} {own : List (Str × Nat)} {gt : TG} {src : AX} {bx : BX} {ts : List Nat} {c : TX} (nd : X.N.Nodup) (hc : X.calm = true) (hi : SI X W tg iter src) (ok : BlkOk X.N X.env.scope scope own)
    (hg : ∀ s H C cl fp, PG (blkX X scope s H C cl fp) tg gt) (gb : GB (X.K, 0) gt bx ts) (hts : ∀ i ∈ ts, i ∈ own.map (·.2)) (ht : ∀ s H C cl fp, STs (blkX X scope s H C cl fp) W0 ifs c) (he : ∀ s H C cl fp, SE (blkX X scope s H C cl fp) W0 elt f)
    (hyl : X.env.scope.names.lookup y = some .local := by rfl) (hsw : swapsWith (.ListComp elt [⟨tg, iter, ifs, 0⟩] scope pos) (some (.Name y py)) spos.line X.env = pure true := by exact sw_true rfl rfl rfl (by decide +kernel)) (hy : X.N[i]? = some y := by rfl)
    (hs : ∀ x, foldedSetIterable iter X.env x = pure x := by intro _; rfl) : SS X W (.Assign [.Name y py] (.ListComp elt [⟨tg, iter, ifs, 0⟩] scope pos) spos) (sOwn i (nErr (xLc src (own.map (·.2)) bx c f))) := by
  obtain ⟨wi, pi, ri⟩ := hi
  refine ⟨tAsg (tLc wi gt (fun σ H Q => ∀ s H' C cl fp, ∃ t, PTs (blkX X scope s H' C cl fp) ifs t ∧ t σ H Q) (fun σ H Q => ∀ s H' C cl fp, ∃ t, PE (blkX X scope s H' C cl fp) elt t ∧ t σ H Q) (own.map (·.2))) (gName i),
    ps_setLc hc nd hy hyl hsw pi ok hg (fun s H C cl fp => ⟨fun pins s' σ H' Q I h => ?_⟩) (fun s H C cl fp => ⟨fun pins s' σ H' Q I h => ?_⟩) hs, fun BF B env σ F H E sr h => ?_⟩
  · obtain ⟨t, pt, q⟩ := h s H C cl fp
    exact pt.run pins s' σ H' Q I q
  · obtain ⟨t, pt, q⟩ := h s H C cl fp
    exact pt.run pins s' σ H' Q I q
  · have rr : Ret (RL X.K) W σ F H (nErr (xLc src (own.map (·.2)) bx c f) env) (tLc wi gt (fun σ H Q => ∀ s H' C cl fp, ∃ t, PTs (blkX X scope s H' C cl fp) ifs t ∧ t σ H Q) (fun σ H Q => ∀ s H' C cl fp, ∃ t, PE (blkX X scope s H' C cl fp) elt t ∧ t σ H Q) (own.map (·.2)) σ H) := by
      unfold nErr
      split
      · rename_i hn
        refine lc_ret (kb := (X.K, 0)) rfl hn sr (ri _ _ _ _ _ _ sr) gb hts (fun BF B env σ F H sr => ?_) (fun BF B env σ F H sr => ?_)
        · cases e1 : c env with
          | bad => trivial
          | ok z =>
            intro Q q s H' C cl fp
            obtain ⟨t, pt, rt⟩ := ht s H' C cl fp
            have qq := rt BF B env σ F H sr
            rw [e1] at qq
            exact ⟨t, pt, qq Q q⟩
          | exc z =>
            intro Q q s H' C cl fp
            obtain ⟨t, pt, rt⟩ := ht s H' C cl fp
            have qq := rt BF B env σ F H sr
            rw [e1] at qq
            exact ⟨t, pt, qq Q q⟩
        · cases e1 : f env with
          | bad => trivial
          | ok z =>
            intro Q q s H' C cl fp
            obtain ⟨t, pt, rt⟩ := he s H' C cl fp
            have qq := rt BF B env σ F H sr
            rw [e1] at qq
            exact ⟨t, pt, qq Q q⟩
          | exc z =>
            intro Q q s H' C cl fp
            obtain ⟨t, pt, rt⟩ := he s H' C cl fp
            have qq := rt BF B env σ F H sr
            rw [e1] at qq
            exact ⟨t, pt, qq Q q⟩
      · trivial
    refine Ret.stm (T' := fun x H1 => E.nx (σ.set i (some x)) H1) rr sr h fun ds v F1 H1 _ st rd hp => ?_
    obtain ⟨p, vs, rfl, h1, h2, h3, h4⟩ := rd
    exact hp _ F1 H1 st.fr (sr.setOwn st h1 h2 h3 h4)
theorem ss_lcO (i : Nat) {y : Str} {py spos : Pos} {elt tg iter : Expr} {ifs : List Expr} {scope : Scope} {own : List (Str × Nat)} {os : List Nat} {gt : TG} {src : AX} {bx : BX} {ts : List Nat} {c : TX} (nd : X.N.Nodup) (hc : X.calm = true) (hi : SI X W tg iter src) (ok : BlkOk X.N X.env.scope scope own) (ho : own.map (·.2) = os)
    (hg : ∀ s H C cl fp, PG (blkX X scope s H C cl fp) tg gt) (gb : GB (X.K, 0) gt bx ts) (hts : ∀ i ∈ ts, i ∈ os) (ht : ∀ s H C cl fp, STs (blkX X scope s H C cl fp) W0 ifs c) (he : ∀ s H C cl fp, SE (blkX X scope s H C cl fp) W0 elt f)
    (hyl : X.env.scope.names.lookup y = some .local := by rfl) (hsw : swapsWith (.ListComp elt [⟨tg, iter, ifs, 0⟩] scope pos) (some (.Name y py)) spos.line X.env = pure true := by exact sw_true rfl rfl rfl (by decide +kernel)) (hy : X.N[i]? = some y := by rfl)
    (hs : ∀ x, foldedSetIterable iter X.env x = pure x := by intro _; rfl) : SS X W (.Assign [.Name y py] (.ListComp elt [⟨tg, iter, ifs, 0⟩] scope pos) spos) (sOwn i (nErr (xLc src os bx c f))) := by
  subst ho
  exact ss_lc i nd hc hi ok hg gb hts ht he hyl hsw hy hs
/-- a target of names = e -/
theorem ss_asg {tg : Expr} {gt : TG} {b : BX} {ts : List Nat} (he : SE X W e f) (hg : PG X tg gt) (gb : GB (kx X) gt b ts) (hs : swapsWithSole [tg] e pos.line X.env = pure false := by rfl) (hw : swappedStores [tg] e X.env = pure none := by rfl)
    (h1 : (assignEach [tg] X.env).map (·.2) = [assign tg X.env] := by rfl) : SS X W (.Assign [tg] e pos) (sAsg b f) := by
  obtain ⟨t, p, r⟩ := he
  refine ⟨_, ps_asg p hg hs hw h1, fun BF B env σ F H E sr h => Ret.stm (T' := fun x H1 => gt x σ H1 E.nx) (r _ _ _ _ _ _ sr) sr h fun d v F1 H1 _ st rd hp => ?_⟩
  cases eb : b d env with
  | none =>
    rw [eb] at hp
    exact hp.elim
  | some env1 =>
    rw [eb] at hp
    exact gb BF B env σ F1 H1 v d env1 (sr.step st) rd eb _ fun σ1 sr1 _ => hp σ1 F1 H1 st.fr sr1
theorem ss_par (i j : Nat) {x y : Str} {a b : Expr} {px py pt : Pos} {kt k2 pt2} (nd : X.N.Nodup) (hc : X.calm = true) (ha : SE X W a f) (hb : SE X W b g) (hij : i ≠ j) (hi : X.N[i]? = some x := by rfl) (hj : X.N[j]? = some y := by rfl)
    (hx : X.env.scope.names.lookup x = some .local := by rfl) (hy : X.env.scope.names.lookup y = some .local := by rfl) (hw : swappedStores [.Tuple [.Name x px, .Name y py] kt pt] (.Tuple [a, b] k2 pt2) X.env = pure (some [x, y]) := by rfl)
    (hs : swapsWithSole [.Tuple [.Name x px, .Name y py] kt pt] (.Tuple [a, b] k2 pt2) pos.line X.env = pure false := by rfl) (h1 : starEach [a, b] X.env = (false, eval a X.env) :: starEach [b] X.env := by rfl) (h2 : starEach [b] X.env = (false, eval b X.env) :: starEach [] X.env := by rfl) :
    SS X W (.Assign [.Tuple [.Name x px, .Name y py] kt pt] (.Tuple [a, b] k2 pt2) pos) (sPar i j f g) := by
  obtain ⟨ta, pa, ra⟩ := ha
  obtain ⟨tb, pb, rb⟩ := hb
  refine ⟨_, ps_par hc nd hi hj hij hx hy (pa_cons pa (pa_cons pb pa_nil h2) h1) hw hs, fun BF B env σ F H E sr h => ?_⟩
  refine Ret.stm (T' := fun x H1 => tCons tb tNil σ H1 fun xs H2 => ∃ v w, x :: xs = [v, w] ∧ E.nx ((σ.set i (some v)).set j (some w)) H2) (ra _ _ _ _ _ _ sr) sr h fun d v F1 H1 _ st rd hp => ?_
  refine Ret.stm (F := F1) (T' := fun y H2 => ∃ v' w, v :: [y] = [v', w] ∧ E.nx ((σ.set i (some v')).set j (some w)) H2) (rb _ _ _ _ _ _ (sr.step st)) (sr.step st) (Post.mono hp st.fr) fun d2 v2 F2 H2 _ st2 rd2 hp2 => ?_
  exact ⟨v, v2, rfl, hp2 _ F2 H2 st2.fr ((((sr.step st).step st2).set (dp_mono st2.fr rd)).set rd2)⟩
theorem ss_ret (he : SE X W e f) : SS X W (.Return (some e) pos) (sRet f) := by
  obtain ⟨t, p, r⟩ := he
  exact ⟨_, ps_ret p, fun BF B env σ F H E sr h => Ret.stm (T' := E.rt) (r _ _ _ _ _ _ sr) sr h fun d v F1 H1 _ st rd hp => hp v F1 H1 (sr.stp.trans st) rd⟩
theorem ss_ct : SS X W (.Continue pos) sCt := ⟨_, ps_continue, fun BF B env σ F H E sr h => h σ F H (Same.refl F) sr⟩
theorem ss_drop (he : SE X W e f) (hs : swapsWith e none pos.line X.env = pure false := by rfl) : SS X W (.Expr e pos) (sDrop f) := by
  obtain ⟨t, p, r⟩ := he
  exact ⟨_, ps_expr p hs, fun BF B env σ F H E sr h => Ret.stm (T' := fun _ H1 => E.nx σ H1) (r _ _ _ _ _ _ sr) sr h fun d v F1 H1 _ st rd hp => hp σ F1 H1 st.fr (sr.step st)⟩
/-- what the class of a refusal must be -/
structure XcOk (K : PySem.W.Frag) (mg : Str → Option Value) (x : Str) (C : Addr) : Prop where
  g : mg x = some (.ref C)
  x : PySem.W.excIn K C [.type "ValueError", .type "Exception", .type "BaseException", .type "object"] "ValueError.__new__" = true
  k : PySem.W.keepIn K (.ref C) = true
  b : PySem.W.subIn K (.ref C) (.type "BaseException") = some true
  t : PySem.W.typeIn K (.ref C) = some (.type "type")
theorem ss_raise {x m : Str} {j : Nat} {p p2 cpos : Pos} {cl : Xc → Addr} (c : Xc) (hx : XcOk X.K X.mg x (cl c)) (hc : X.calm = true) (tk : L2N.Takes X (wx cl W)) (hg : Gl X x := by rfl) (hdb : (x == ("__debug__" : Str)) = false := by decide) : SS X W (.Raise (some (.Call (.Name x p) [.Constant (.str m) j p2] [] cpos)) none pos) (sRaise c) :=
  ⟨_, L2N.ps_raise hc tk (L2N.pmk_own PySem.F.excBase_ValueError hx.x hx.g hx.k (raises_own hx.b hx.t) hg hdb), fun BF B env σ F H E sr h => ⟨c, rfl, rfl, h σ F H (Same.refl F) sr⟩⟩
theorem ss_app (i : Nat) {x : Str} {p apos cpos : Pos} (he : SE X W e f) (hN : X.N[i]? = some x := by rfl) (hv : Vis X.env.scope x := by first | exact Or.inl rfl | exact Or.inr (Or.inl rfl) | exact Or.inr (Or.inr rfl)) (hd : (x == ("__debug__" : Str)) = false := by decide) (hcd : (x == ("__classdict__" : Str)) = false := by decide)
    (hbase : attributeBase (.Name x p) "append" X.env (eval (.Name x p) X.env) = eval (.Name x p) X.env := by rfl)
    (hfew : ((backTo cpos (starEach [e] X.env)).all (fun x => !x.1) && (backToKw cpos (keywordEach [] X.env)).all (fun x => x.1.isSome) && decide (([e] : List Expr).length + ([] : List Keyword).length + (if ([] : List Keyword).isEmpty then 0 else 1) < 30)) = true := by rfl)
    (hline : (apos.endLine == cpos.line) = true := by rfl) (hs : starEach [e] X.env = (false, eval e X.env) :: starEach [] X.env := by rfl) (hplain : (backTo cpos (starEach [] X.env)).any (·.1) = false := by rfl)
    (hsw : swapsWith (.Call (.Attribute (.Name x p) "append" apos) [e] [] cpos) none pos.line X.env = pure false := by rfl) : SS X W (.Expr (.Call (.Attribute (.Name x p) "append" apos) [e] [] cpos) pos) (sApp i f) := by
  obtain ⟨t, pt, r⟩ := he
  refine ⟨_, ps_expr (pe_bm PySem.F.plainAttrs_list PySem.F.slot_list_append PySem.F.type_list_append mt_append (pe_var hN hv hd hcd) (pa_cons pt pa_nil hs) hbase hfew hline hs hplain) hsw, fun BF B env σ F H E sr h => ?_⟩
  unfold sApp at h
  split at h
  · rename_i ds e0
    obtain ⟨a, vs, e1, bn, fn, e2, rv⟩ := sr.own e0
    refine ⟨_, e1, .inl ⟨rfl, _, SqL.of e2⟩, ?_⟩
    refine Ret.stm (T' := fun y H2 => tNil σ H2 fun xs H2 => rAppend (.ref a) (y :: xs) H2 fun _ H1 => E.nx σ H1) (r _ _ _ _ _ _ sr) sr h fun d v F1 H1 _ st rd hp => ?_
    split at hp
    · rename_i hz
      refine ⟨a, vs, v, rfl, rfl, (st.pv _ _ e2 fn).2, ?_, hp σ F1 _ st.fr ((sr.step st).mut e0 e1 (dps_app (dps_mono st.fr rv) (.cons rd .nil)))⟩
      rw [dps_len rv]
      exact Nat.lt_of_le_of_lt hz (by decide)
    · exact hp.elim
  · exact h.elim
theorem ss_setI (i : Nat) {x : Str} {p tpos : Pos} {ek : Expr} (he : SE X W e f) (hk : SE X W ek g) (hN : X.N[i]? = some x := by rfl) (hv : Vis X.env.scope x := by first | exact Or.inl rfl | exact Or.inr (Or.inl rfl) | exact Or.inr (Or.inr rfl)) (hd : (x == ("__debug__" : Str)) = false := by decide) (hcd : (x == ("__classdict__" : Str)) = false := by decide)
    (ha : ∀ v, assign (.Subscript (.Name x p) ek tpos) X.env v = (do
      let ov ← holding [v] (eval (.Name x p) X.env)
      let iv ← holding [v, ov] (eval ek X.env)
      standAt tpos
      holding [v, ov, iv] (setItem ov iv v)
      release [v, ov, iv] []) := by intro _; rfl) (hs : swapsWithSole [.Subscript (.Name x p) ek tpos] e pos.line X.env = pure false := by rfl) (hw : swappedStores [.Subscript (.Name x p) ek tpos] e X.env = pure none := by rfl)
    (h1 : (assignEach [.Subscript (.Name x p) ek tpos] X.env).map (·.2) = [assign (.Subscript (.Name x p) ek tpos) X.env] := by rfl) : SS X W (.Assign [.Subscript (.Name x p) ek tpos] e pos) (sSetI i g f) := by
  obtain ⟨t, pt, r⟩ := he
  obtain ⟨tk, pk, rk⟩ := hk
  refine ⟨_, ps_asg pt (pg_sub (pe_var hN hv hd hcd) pk set_list ha) hs hw h1, fun BF B env σ F H E sr h => ?_⟩
  unfold sSetI at h
  split at h
  · rename_i ds e0
    refine Ret.stm (T' := fun v H1 => gSub (tVar i) tk rSetL v σ H1 E.nx) (r _ _ _ _ _ _ sr) sr h fun d v F1 H1 _ st rd hp => ?_
    have sr1 := sr.step st
    obtain ⟨a, vs, e1, bn, fn, e2, rv⟩ := sr1.own e0
    refine ⟨_, e1, ?_⟩
    refine Ret.stm (F := F1) (T' := fun kv H2 => rSetL (.ref a) kv v H2 fun H3 => E.nx σ H3) (rk _ _ _ _ _ _ sr1) sr1 (Post.mono hp st.fr) fun kd kv F2 H2 _ st2 rd2 hp2 => ?_
    cases rd2 with
    | int k =>
      have hp2 : Post (kx X) W BF B E F1 (match ixN ds.length k with | some j => .nx (env.set i (.own (ds.set j d))) | none => .bad) := hp2
      cases e3 : ixN ds.length k with
      | none =>
        rw [e3] at hp2
        exact hp2.elim
      | some j =>
        rw [e3] at hp2
        refine ⟨a, vs, k, j, rfl, rfl, (st2.pv _ _ e2 fn).2, by rw [dps_len rv]; exact e3, ?_⟩
        exact hp2 σ F2 _ st2.fr ((sr1.step st2).mut e0 e1 (dps_set (dp_mono st2.fr rd) j (dps_mono st2.fr rv)))
    | _ => exact hp2.elim
  · exact h.elim
/-- for -/
theorem ss_for {tg iter : Expr} {gt : TG} {b : BX} {ts : List Nat} {src : AX} {body : List Stmt} (hp : PassesOwn (model X.prog X.w) X.A X.env X.xe) (hc : X.calm = true) (hi : SI X W tg iter src) (hg : PG X tg gt) (gb : GB (kx X) gt b ts) (hb : SSs X W body s)
    (hs : ∀ x, foldedSetIterable iter X.env x = pure x := by intro _; rfl) : SS X W (.For tg iter body [] pos) (sFor src b s) := by
  obtain ⟨wi, pi, ri⟩ := hi
  obtain ⟨tb, pb, rb⟩ := hb
  refine ⟨_, ps_for hp hc pi hg pb hs, fun BF B env σ F H E sr h => ?_⟩
  refine Ret.stm (T' := fun J H1 => ∃ Wv : Nat → Nat → St → Hp → Prop, (∃ m, Wv 0 m σ H1) ∧ ∀ i m σ H, Wv i m σ H →
    (J.stop i H ∧ E.nx σ H) ∨ (J.go i H ∧ ∃ N : St → Hp → Prop, (∀ σ' H', N σ' H' → ∃ m', m' < m ∧ Wv (i + 1) m' σ' H') ∧ ∀ x H', J.yld i H x H' → gt x σ H' fun σ2 H2 => tb { E with nx := N, ct := N, bk := E.nx } σ2 H2)) (ri _ _ _ _ _ _ sr) sr h fun ds J F1 H1 _ st jw hpo => ?_
  refine ⟨fun i m σ' H' => m = ds.length - i ∧ i ≤ ds.length ∧ ∃ env' F', SR (kx X) BF B env' σ' F' H' ∧ Same F1 F' ∧ Post (kx X) W BF B E F' (sLoop b s (ds.drop i) env'),
    ⟨ds.length, by simp, Nat.zero_le _, env, F1, sr.step st, Same.refl F1, by simpa using Post.mono hpo st.fr⟩, ?_⟩
  rintro i m σ' H' ⟨rfl, hi, env', F', sr', s1, po⟩
  have jw' := jw F' H' s1 sr'.inn i
  by_cases hlt : i < ds.length
  · have hget : ds[i]? = some ds[i] := List.getElem?_eq_getElem hlt
    have hdrop : ds.drop i = ds[i] :: ds.drop (i + 1) := List.drop_eq_getElem_cons hlt
    rw [hdrop] at po
    obtain ⟨go, yl⟩ := jw'.1 _ hget
    refine .inr ⟨go, fun σ' H' => ∃ env' F', SR (kx X) BF B env' σ' F' H' ∧ Same F1 F' ∧ Post (kx X) W BF B E F' (sLoop b s (ds.drop (i + 1)) env'), fun σ2 H2 h2 => ⟨ds.length - (i + 1), by omega, rfl, hlt, h2⟩, fun x H2 y => ?_⟩
    obtain ⟨F2, st2, r2⟩ := yl x H2 y
    unfold sLoop at po
    cases eb : b ds[i] env' with
    | none =>
      rw [eb] at po
      exact po.elim
    | some env1 =>
      rw [eb] at po
      refine gb BF B _ _ F2 H2 x ds[i] env1 (sr'.step st2) r2 eb _ fun σ2 sr2 _ => ?_
      refine rb BF B env1 σ2 F2 H2 _ sr2 ?_
      have po : Post (kx X) W BF B E F' (match s env1 with | .nx env2 => sLoop b s (ds.drop (i + 1)) env2 | .ct env2 => sLoop b s (ds.drop (i + 1)) env2 | .ret d => .ret d | .exc c env2 => .exc c env2 | .bad => .bad | .rtE _ _ => .bad) := po
      cases es : s env1 with
      | bad =>
        rw [es] at po
        exact po
      | nx env2 =>
        rw [es] at po
        exact fun σ3 F3 H3 s3 sr3 => ⟨env2, F3, sr3, s1.trans (st2.fr.trans s3), Post.mono po (st2.fr.trans s3)⟩
      | ct env2 =>
        rw [es] at po
        exact fun σ3 F3 H3 s3 sr3 => ⟨env2, F3, sr3, s1.trans (st2.fr.trans s3), Post.mono po (st2.fr.trans s3)⟩
      | ret d =>
        rw [es] at po
        exact po
      | exc c env2 =>
        rw [es] at po
        exact fun σ3 F3 H3 s3 => po σ3 F3 H3 (st2.fr.trans s3)
      | rtE r env2 =>
        rw [es] at po
        exact po.elim
  · have ei : i = ds.length := by omega
    subst ei
    rw [List.drop_length] at po
    exact .inl ⟨jw'.2 (Nat.le_refl _), po σ' F' H' (Same.refl F') sr'⟩
end

/-! ### try -/
section
variable {X : Cx} {W : Wx} {pos : Pos} {body suite : List Stmt} {b0 : Stmt} {s : SX} {h : Xc → SX} {cl : Xc → Addr}
/-- the class that the clause names takes every refusal -/
structure Takes5 (X : Cx) (cl : Xc → Addr) (x : Str) (c : Value) : Prop where
  nm : Names X x c
  all : ∀ e, PySem.W.exmOne X.K (.ref (cl e)) c = some true
theorem ss_try (i : Nat) {x n : Str} {c : Value} {np pos' : Pos} (nd : X.N.Nodup) (T : Takes5 X cl x c) (tk : L2N.Takes X (wx cl W)) (hs : X.stack = X.env :: X.outer) (hf : X.env.frame = some X.env.locals)
    (hb : ∀ (W : Wx) (pn : List (Addr × Obj)) (xe : Value → Shared → Prop), L2N.Takes (X.tr pn xe) (wx cl W) → PassesOwn (model X.prog X.w) X.A X.env xe → SSs (X.tr pn xe) W body s)
    (hsu : ∀ (e : Xc) (a : Addr) (oe : Obj) (pn : List (Addr × Obj)), L2N.Zn (.ref (cl e)) none oe → (∃ vs, oe.data = .fields vs) → SSs (X.suite a ((a, oe) :: pn)) W0 (b0 :: suite) (h e))
    (hi : X.N[i]? = some n := by rfl) (hln : X.env.kindOf n = some .local := by rfl) : SS X W (.Try body [.ExceptHandler (some (.Name x np)) (some n) (b0 :: suite) pos'] [] [] pos) (sTry i s h) := by
  refine ⟨_, L2N.ps_try_as (tb := fun Wv E σ H => ∀ (pn : List (Addr × Obj)) (xe : Value → Shared → Prop), L2N.Takes (X.tr pn xe) Wv → PassesOwn (model X.prog X.w) X.A X.env xe → ∃ t, PSs (X.tr pn xe) body t ∧ t E σ H)
    (ts := fun a cls d E σ H => ∀ (oe : Obj) (pn : List (Addr × Obj)), L2N.Zn cls d oe → (∃ vs, oe.data = .fields vs) → ∃ t, PSs (X.suite a ((a, oe) :: pn)) (b0 :: suite) t ∧ t E σ H) hs hf nd hi hln T.nm tk
    (fun Wv pn xe tk po => ⟨fun pins s' σ H D I q => ?_⟩) (fun a oe cls d pn hz hd => ⟨fun pins s' σ H D I q => ?_⟩), fun BF B env σ F H E sr hp => ?_⟩
  · obtain ⟨t, pt, q⟩ := q pn xe tk po
    exact pt.run pins s' σ H D I q
  · obtain ⟨t, pt, q⟩ := q oe pn hz hd
    exact pt.run pins s' σ H D I q
  · intro pn xe tk' po
    have tk2 : L2N.Takes (X.tr pn xe) (wx cl fun e σ H => wAs X.K c i (fun a cls d E σ H => ∀ (oe : Obj) (pn : List (Addr × Obj)), L2N.Zn cls d oe → (∃ vs, oe.data = .fields vs) → ∃ t, PSs (X.suite a ((a, oe) :: pn)) (b0 :: suite) t ∧ t E σ H) (wx cl W) E (.ref (cl e)) none σ H) := tk'.imp fun cls d σ H ⟨e, e1, e2, q⟩ => by
      subst e1
      subst e2
      exact q
    obtain ⟨t, pt, rt⟩ := hb _ pn xe tk2 po
    refine ⟨t, pt, ?_⟩
    unfold sTry at hp
    split at hp
    · rename_i hn
      refine rt BF B env σ F H E (sr.other hn) ?_
      cases es : s env with
      | bad =>
        rw [es] at hp
        exact hp.elim
      | rtE r env1 =>
        rw [es] at hp
        exact hp.elim
      | ret d =>
        rw [es] at hp
        exact hp
      | nx env1 =>
        rw [es] at hp
        have hp : Post (kx X) W BF B E F (if noErr env1 = true then .nx env1 else .bad) := hp
        split at hp
        · rename_i hn1
          exact fun σ1 F1 H1 s1 sr1 => hp σ1 F1 H1 s1 (sr1.other hn1)
        · exact hp.elim
      | ct env1 =>
        rw [es] at hp
        have hp : Post (kx X) W BF B E F (if noErr env1 = true then .ct env1 else .bad) := hp
        split at hp
        · rename_i hn1
          exact fun σ1 F1 H1 s1 sr1 => hp σ1 F1 H1 s1 (sr1.other hn1)
        · exact hp.elim
      | exc e env1 =>
        rw [es] at hp
        have hp : Post (kx X) W BF B E F (if noErr env1 = true then (h e (env1.set i .err)).fin i else .bad) := hp
        split at hp
        · rename_i hn1
          refine fun σ1 F1 H1 s1 sr1 => ⟨true, T.all e, fun _ a ha oe pn2 hz hd => ?_, fun q => Bool.noConfusion q⟩
          obtain ⟨t2, pt2, rt2⟩ := hsu e a oe pn2 hz hd
          refine ⟨t2, pt2, rt2 BF B (env1.set i .err) _ F1 H1 _ (SR.setErr (k := (X.K, a)) (sr1.other (ea := a) hn1)) ?_⟩
          cases eh : h e (env1.set i .err) with
          | bad =>
            rw [eh] at hp
            exact hp.elim
          | exc _ _ =>
            rw [eh] at hp
            exact hp.elim
          | rtE _ _ =>
            rw [eh] at hp
            exact hp.elim
          | ret d =>
            rw [eh] at hp
            exact hp
          | nx env2 =>
            rw [eh] at hp
            have hp : Post (kx X) W BF B E F (if noErr (env2.set i .un) = true then .nx (env2.set i .un) else .bad) := hp
            split at hp
            · rename_i hn2
              exact fun σ2 F2 H2 s2 sr2 => hp _ F2 H2 (s1.trans s2) (sr2.unset.other hn2)
            · exact hp.elim
          | ct env2 =>
            rw [eh] at hp
            have hp : Post (kx X) W BF B E F (if noErr (env2.set i .un) = true then .ct (env2.set i .un) else .bad) := hp
            split at hp
            · rename_i hn2
              exact fun σ2 F2 H2 s2 sr2 => hp _ F2 H2 (s1.trans s2) (sr2.unset.other hn2)
            · exact hp.elim
        · exact hp.elim
    · exact hp.elim
theorem ss_try0 {x : Str} {c : Value} {np pos' : Pos} (T : Takes5 X cl x c) (tk : L2N.Takes X (wx cl W)) (hs : X.stack = X.env :: X.outer) (hf : X.env.frame = some X.env.locals)
    (hb : ∀ (W : Wx) (pn : List (Addr × Obj)) (xe : Value → Shared → Prop), L2N.Takes (X.tr pn xe) (wx cl W) → PassesOwn (model X.prog X.w) X.A X.env xe → SSs (X.tr pn xe) W body s)
    (hsu : ∀ (e : Xc) (a : Addr) (oe : Obj) (pn : List (Addr × Obj)), L2N.Zn (.ref (cl e)) none oe → (∃ vs, oe.data = .fields vs) → SSs (X.suite a ((a, oe) :: pn)) W0 (b0 :: suite) (h e)) :
    SS X W (.Try body [.ExceptHandler (some (.Name x np)) none (b0 :: suite) pos'] [] [] pos) (sTry0 s h) := by
  refine ⟨_, L2N.ps_try_many (tb := fun Wv E σ H => ∀ (pn : List (Addr × Obj)) (xe : Value → Shared → Prop), L2N.Takes (X.tr pn xe) Wv → PassesOwn (model X.prog X.w) X.A X.env xe → ∃ t, PSs (X.tr pn xe) body t ∧ t E σ H)
    (l := [(c, fun a cls d E σ H => ∀ (oe : Obj) (pn : List (Addr × Obj)), L2N.Zn cls d oe → (∃ vs, oe.data = .fields vs) → ∃ t, PSs (X.suite a ((a, oe) :: pn)) (b0 :: suite) t ∧ t E σ H)]) hs hf tk
    (fun Wv pn xe tk po => ⟨fun pins s' σ H D I q => ?_⟩) (.cons T.nm (fun a oe cls d pn hz hd => ⟨fun pins s' σ H D I q => ?_⟩) .nil), fun BF B env σ F H E sr hp => ?_⟩
  · obtain ⟨t, pt, q⟩ := q pn xe tk po
    exact pt.run pins s' σ H D I q
  · obtain ⟨t, pt, q⟩ := q oe pn hz hd
    exact pt.run pins s' σ H D I q
  · intro pn xe tk' po
    have tk2 : L2N.Takes (X.tr pn xe) (wx cl fun e σ H => wMany X.K (wx cl W) E [(c, fun a cls d E σ H => ∀ (oe : Obj) (pn : List (Addr × Obj)), L2N.Zn cls d oe → (∃ vs, oe.data = .fields vs) → ∃ t, PSs (X.suite a ((a, oe) :: pn)) (b0 :: suite) t ∧ t E σ H)] (.ref (cl e)) none σ H) := tk'.imp fun cls d σ H ⟨e, e1, e2, q⟩ => by
      subst e1
      subst e2
      exact q
    obtain ⟨t, pt, rt⟩ := hb _ pn xe tk2 po
    refine ⟨t, pt, ?_⟩
    unfold sTry0 at hp
    split at hp
    · rename_i hn
      refine rt BF B env σ F H E (sr.other hn) ?_
      cases es : s env with
      | bad =>
        rw [es] at hp
        exact hp.elim
      | rtE r env1 =>
        rw [es] at hp
        exact hp.elim
      | ret d =>
        rw [es] at hp
        exact hp
      | nx env1 =>
        rw [es] at hp
        have hp : Post (kx X) W BF B E F (if noErr env1 = true then .nx env1 else .bad) := hp
        split at hp
        · rename_i hn1
          exact fun σ1 F1 H1 s1 sr1 => hp σ1 F1 H1 s1 (sr1.other hn1)
        · exact hp.elim
      | ct env1 =>
        rw [es] at hp
        have hp : Post (kx X) W BF B E F (if noErr env1 = true then .ct env1 else .bad) := hp
        split at hp
        · rename_i hn1
          exact fun σ1 F1 H1 s1 sr1 => hp σ1 F1 H1 s1 (sr1.other hn1)
        · exact hp.elim
      | exc e env1 =>
        rw [es] at hp
        have hp : Post (kx X) W BF B E F (if noErr env1 = true then (h e env1).fin0 else .bad) := hp
        split at hp
        · rename_i hn1
          refine fun σ1 F1 H1 s1 sr1 => ⟨true, T.all e, fun _ a ha oe pn2 hz hd => ?_, fun q => Bool.noConfusion q⟩
          obtain ⟨t2, pt2, rt2⟩ := hsu e a oe pn2 hz hd
          refine ⟨t2, pt2, rt2 BF B env1 _ F1 H1 _ (sr1.other (ea := a) hn1) ?_⟩
          cases eh : h e env1 with
          | bad =>
            rw [eh] at hp
            exact hp.elim
          | exc _ _ =>
            rw [eh] at hp
            exact hp.elim
          | rtE _ _ =>
            rw [eh] at hp
            exact hp.elim
          | ret d =>
            rw [eh] at hp
            exact hp
          | nx env2 =>
            rw [eh] at hp
            have hp : Post (kx X) W BF B E F (if noErr env2 = true then .nx env2 else .bad) := hp
            split at hp
            · rename_i hn2
              exact fun σ2 F2 H2 s2 sr2 => hp _ F2 H2 (s1.trans s2) (sr2.other hn2)
            · exact hp.elim
          | ct env2 =>
            rw [eh] at hp
            have hp : Post (kx X) W BF B E F (if noErr env2 = true then .ct env2 else .bad) := hp
            split at hp
            · rename_i hn2
              exact fun σ2 F2 H2 s2 sr2 => hp _ F2 H2 (s1.trans s2) (sr2.other hn2)
            · exact hp.elim
        · exact hp.elim
    · exact hp.elim
/-- isinstance(e, C) in the suite: e the error, of the class of c; the answer b -/
def xErr (i : Nat) (b : Bool) : EX := fun env => match env[i]? with
  | some .err => .ok (.bool b)
  | _ => .bad
theorem call_isP {X : Cx} {a C : Addr} {oe : Obj} (EC : ExcC X.K C) (hz : Zc (.ref C) none oe) (hd : ∃ vs, oe.data = .fields vs) (hm : (a, oe) ∈ X.pn) : CallR X (.builtin "isinstance") (rIsE X.K C a) := fun pins s σ H xs us Q I r h => by
  obtain ⟨c, cv, b, rfl, hcv, e, q⟩ := h
  obtain ⟨u1, u2, rfl, r1, r2⟩ := vals2 r
  cases r1
  cases hcv _ r2
  obtain ⟨vs, hv⟩ := hd
  have J : PySem.W.InstAt s.heap a oe C none := by
    obtain ⟨oc, od, oda, osl⟩ := oe
    obtain ⟨h1, h2⟩ := hz
    dsimp only at h1 h2 hv
    subst h1 h2 hv
    exact ⟨(I.pin _ (List.mem_append_left _ hm)).1, rfl, rfl, trivial⟩
  have kt := PySem.W.handS_kitx_exc (ox := oe) (x := a) EC.hg EC.hk EC.hs EC.hd EC.ha EC.hn EC.ht EC.hm
  exact PySem.W.kia_one kt I.kIn J e (fun z => nomatch z) fun tk => ⟨.bl b, H, I.kept (t' := tk) fun _ _ z => z, rfl, q⟩
theorem se_isE (i : Nat) {x n : Str} {a C : Addr} {oe : Obj} {pn : List (Addr × Obj)} {p p1 p2 cpos : Pos} {bb : Bool} {Cv : V} {Cw : Value} {W : Wx} (hp : X.pn = (a, oe) :: pn) (EC : ExcC X.K C) (hz : L2N.Zn (.ref C) none oe) (hd : ∃ vs, oe.data = .fields vs) (hm : X.mg "isinstance" = none) (pc : PE X (.Name x p2) (tC Cv)) (hu : ∀ u, RelV Cv u → u = Cw)
    (hk : PySem.W.kitOne X.K (.ref C) Cw = some bb) (hN : X.N[i]? = some n := by rfl) (hv : Vis X.env.scope n := by first | exact Or.inl rfl | exact Or.inr (Or.inl rfl) | exact Or.inr (Or.inr rfl)) (hdb : (n == ("__debug__" : Str)) = false := by decide) (hcd : (n == ("__classdict__" : Str)) = false := by decide) (hg : Gl X "isinstance" := by rfl)
    (hs : starEach [.Name n p1, .Name x p2] X.env = (false, eval (.Name n p1) X.env) :: starEach [.Name x p2] X.env := by rfl) (hs2 : starEach [.Name x p2] X.env = (false, eval (.Name x p2) X.env) :: starEach [] X.env := by rfl) (hpl : (backTo cpos (starEach [.Name x p2] X.env)).any (·.1) = false := by rfl) :
    SE X W (.Call (.Name "isinstance" p) [.Name n p1, .Name x p2] [] cpos) (xErr i bb) := by
  refine ⟨_, pe_callB (call_isP EC hz.zc hd (by rw [hp]; exact List.mem_cons_self)) hg hm (by decide +kernel) (pa_cons (pe_var hN hv hdb hcd) (pa_cons pc pa_nil hs2) hs) (by decide) (by decide) hs hpl, fun BF B env σ F H sr => ?_⟩
  unfold xErr
  split
  · rename_i e0
    have e1 := sr.errAt e0
    have e2 : (kx X).2 = a := by
      unfold kx
      rw [hp]
    rw [e2] at e1
    exact ret_of sr.inn (fun Q q => ⟨.ref a, e1, Cv, Cw, bb, rfl, hu, hk, q⟩) (.bl bb)
  · trivial
end

/-! ### defs -/
section
variable {P : Program} {w : World} {K : PySem.W.Frag} {mg : Str → Option Value} {base : Heap} {cl : Xc → Addr}
theorem start_sr {F H : Hp} {N : List Str} {vs : List V} {ds : List D} {ea : Addr} (i : Same F H) (r : DpAll K F vs ds) : SR (K, ea) F H (ds.map Slot.val ++ List.replicate (N.length - ds.length) Slot.un) (L2.start N vs) F H := by
  have hl := dps_len r
  refine ⟨?_, Step.refl i, i, fun _ _ => False, fun j x e => ?_, fun _ _ _ j2 => ?_, fun _ _ j2 => ?_⟩
  · unfold L2.start
    rw [List.length_append, List.length_append, List.length_map, List.length_map, List.length_replicate, List.length_replicate, hl]
  · by_cases hj : j < ds.length
    · rw [List.getElem?_append_left (by simpa using hj), List.getElem?_map] at e
      cases e1 : ds[j]? with
      | none =>
        rw [e1] at e
        cases e
      | some d =>
        rw [e1] at e
        cases e
        obtain ⟨v, e2, rv⟩ := dps_get' r e1
        refine ⟨v, ?_, rv⟩
        unfold L2.start
        rw [List.getElem?_append_left (by rw [List.length_map, hl]; exact hj), List.getElem?_map, e2]
        rfl
    · rw [List.getElem?_append_right (by simpa using hj), List.getElem?_replicate] at e
      split at e
      · cases e
        trivial
      · cases e
  · exact j2.elim
  · exact j2.elim
/-- the wish of a def's body -/
abbrev dW (cl : Xc → Addr) (E : XK) : Wx := fun c _ H => E (.ref (cl c)) none H
theorem def_post {F H : Hp} {Q : VK} {E : XK} {ds : List D} {nN np : Nat} {body : SX} {k : KX} (hk : k.1 = K) (hl : ds.length = np) (h : SpOk K cl F H Q E (runDef nN np body ds)) :
    Post k (dW cl E) F H { nx := fun _ H' => Q .non H', rt := Q } F (body (ds.map Slot.val ++ List.replicate (nN - ds.length) Slot.un)) := by
  subst hk
  unfold runDef at h
  rw [if_pos hl, ← hl] at h
  cases e : body (ds.map Slot.val ++ List.replicate (nN - ds.length) Slot.un) with
  | bad =>
    rw [e] at h
    exact h
  | ct env =>
    rw [e] at h
    exact h.elim
  | rtE r env =>
    rw [e] at h
    exact h.elim
  | ret d =>
    rw [e] at h
    exact h
  | nx env =>
    rw [e] at h
    exact fun σ F' H' _ sr => h _ F' H' sr.stp .non
  | exc c env =>
    rw [e] at h
    exact fun σ F' H' _ sr => h F' H' sr.stp
theorem def_ok {x : Str} {st : Stmt} {f : Addr} {fd : FuncData} {N ps : List Str} {k : Nat} {body : SX} (Fn : Fun K x x st f fd) (hm : mg x = some (.ref f)) (hb : Binds K fd ps []) (S : FnScope N ps (defScope st))
    (hbody : ∀ (cdv : Value) (A : Around) (outer : List PySem.Env) (s : Shared) (H : Hp) (E : XK), Room k (A.deeper (envOfC x (defScope st) s.heap.objs.size f cdv)) → SSs (cxOf (L2N.CX P w) P w K mg base N x (defScope st) f cdv A outer s H E) (dW cl E) (defBody st) body) :
    FG P w K mg base cl x (k + 1) ps.length (runDef N.length ps.length body) := by
  have hk := Fn.kp
  obtain ⟨oc, od, kV, doc, pm, an, cdv, ct, osl, rfl, lk, hcd⟩ := Fn.ex
  refine ⟨f, _, ps, fn_of lk hcd S (fun vs H Q E h => ?_) (fun A outer s H vs Q E hr h => ?_), hm, hk, hb, runDef_len⟩
  · obtain ⟨F, ds, _, r, hl, _⟩ := h
    rw [dps_len r, hl]
  · obtain ⟨F, ds, i, r, hl, q⟩ := h
    obtain ⟨t, pt, rt⟩ := hbody cdv A outer s H E hr
    exact ⟨t, pt, rt F H _ _ F H _ (start_sr i r) (def_post rfl hl q)⟩
theorem takes_def {X : Cx} {E : XK} (tk : L2N.Takes X fun cls d _ H => E cls d H) : L2N.Takes X (wx cl (dW cl E)) := tk.imp fun cls d σ H ⟨c, e1, e2, q⟩ => by
  subst e1
  subst e2
  exact q
end
end Mg
namespace Mg
open PySem PySem.Spec PyProof.Rows L2
/-! ### the law -/
def spLaw (K : PySem.W.Frag) : Sp := fun vs H Q _ => ∃ (a : Addr) (ns : List Int), vs = [.ref a] ∧ SqL K H a (ns.map V.int) ∧ ns.length ≤ 63 ∧ ∀ H', Q (.bl true) H'
section
variable {P : Program} {w : World} {K : PySem.W.Frag} {mg : Str → Option Value} {base : Heap} {cl : Xc → Addr} {cM : Addr}
theorem law_ok {st : Stmt} {f : Addr} {fd : FuncData} {N : List Str} {x : Str} {k : Nat} {body : SX} (Fn : Fun K "law" "law" st f fd) (S : FnScope N [x] (defScope st))
    (ht : ∀ ns : List Int, ns.length ≤ 63 → runDef N.length 1 body [.list (ns.map .int)] = .ok (.bool true))
    (hbody : ∀ (cdv : Value) (A : Around) (outer : List PySem.Env) (s : Shared) (H : Hp) (E : XK), Room k (A.deeper (envOfC "law" (defScope st) s.heap.objs.size f cdv)) → SSs (cxOf CX0 P w K mg base N "law" (defScope st) f cdv A outer s H E).nox W0 (defBody st) body) :
    FnOk P w K mg base CX0 (k + 1) f fd [x] (spLaw K) := by
  refine Fn.ok S (fun vs H Q E h => ?_) (fun cdv A outer s H vs Q E hr h => ?_)
  · obtain ⟨a, ns, rfl, _⟩ := h
    rfl
  · obtain ⟨a, ns, rfl, hS, hl, q⟩ := h
    obtain ⟨t, pt, rt⟩ := hbody cdv A outer s H E hr
    refine ⟨t, pt, rt H H _ _ H H _ (start_sr (ea := 0) (ds := [.list (ns.map .int)]) (Same.refl H) (.cons (.lst hS (dps_ints ns)) .nil)) ?_⟩
    have e := ht ns hl
    unfold runDef at e
    rw [if_pos (show [PyData.list (ns.map .int)].length = 1 from rfl)] at e
    show Post _ _ _ _ _ _ (body ([PyData.list (ns.map .int)].map Slot.val ++ List.replicate (N.length - 1) Slot.un))
    cases e1 : body ([PyData.list (ns.map .int)].map Slot.val ++ List.replicate (N.length - 1) Slot.un) with
    | bad =>
      rw [e1] at e
      cases e
    | ct env =>
      rw [e1] at e
      cases e
    | rtE r env =>
      rw [e1] at e
      cases e
    | nx env =>
      rw [e1] at e
      cases e
    | exc c env =>
      rw [e1] at e
      cases e
    | ret d =>
      rw [e1] at e
      cases e
      intro v F' H' st r
      cases r
      exact q H'
end
end Mg
namespace Mg
open PySem PySem.Spec PyProof.Rows L2
/-! ### more of lists: in, index, count, sum, +, sorted -/
def flatD : D → Bool
  | .none => true
  | .bool _ => true
  | .int _ => true
  | .str _ => true
  | _ => false
def toV : D → V
  | .bool b => .bl b
  | .int i => .int i
  | .str x => .str x
  | _ => .non
theorem toV_of {K : PySem.W.Frag} {F : Hp} {v : V} {d : D} (r : Dp K F v d) (f : flatD d = true) : v = toV d ∧ flatV v = true := by
  cases r <;> first | exact ⟨rfl, rfl⟩ | cases f
theorem toVs_of {K : PySem.W.Frag} {F : Hp} : ∀ {vs : List V} {ds : List D}, DpAll K F vs ds → ds.all flatD = true → vs = ds.map toV ∧ vs.all flatV = true
  | _, _, .nil, _ => ⟨rfl, rfl⟩
  | _, _, .cons r t, f => by
    rw [List.all_cons, Bool.and_eq_true] at f
    obtain ⟨h1, h2⟩ := toV_of r f.1
    obtain ⟨h3, h4⟩ := toVs_of t f.2
    refine ⟨by rw [List.map_cons, ← h1, ← h3], by rw [List.all_cons, h2, h4] <;> rfl⟩
/-- == of flat data -/
def eqF (y x : D) : Bool := eqV (toV y) (toV x)
def inD (x : D) (ds : List D) : Bool := ds.any fun y => eqF y x
def oIn (a b : D) : An D := match b with
  | .list ds => if (flatD a && ds.all flatD) = true then .ok (.bool (inD a ds)) else .bad
  | .tuple ds => if (flatD a && ds.all flatD) = true then .ok (.bool (inD a ds)) else .bad
  | _ => .bad
def oIndex (a b : D) : An D := match a with
  | .list ds => if (flatD b && ds.all flatD) = true then (match ds.findIdx? fun y => eqF y b with
    | some j => .ok (.int (j : Int))
    | none => .bad) else .bad
  | _ => .bad
def oCount (a b : D) : An D := match a with
  | .list ds => if (flatD b && ds.all flatD) = true then .ok (.int (ds.countP fun y => eqF y b : Nat)) else .bad
  | _ => .bad
def intsOf : List D → Option (List Int)
  | [] => some []
  | .int i :: r => (intsOf r).map (i :: ·)
  | _ => none
def oSum : List D → An D
  | [.list ds] => (match intsOf ds with
    | some ns => .ok (.int ns.sum)
    | none => .bad)
  | _ => .bad
def oCat : D → D → An (List D)
  | .list a, .list b => if a.length + b.length ≤ 100000 then .ok (a ++ b) else .bad
  | _, _ => .bad
def xOpL (o : D → D → An (List D)) (f g : EX) : AX := fun env => (f env).bnd fun a => (g env).bnd fun b => o a b
def isI : D → Bool
  | .int _ => true
  | _ => false
def isIT : D → Bool
  | .tuple (x :: r) => isI x && r.all isI
  | _ => false
def oSorted : List D → An (List D)
  | [.list ds] => if (ds.all isI || ds.all isIT) = true ∧ ds.length ≤ 100000 then .ok (ds.mergeSort (PySem.W.dataLe false fun d => d)) else .bad
  | _ => .bad
section
variable {K : PySem.W.Frag} {W : Wx} {σ : St} {F H : Hp}
theorem inV_map (x : D) (ds : List D) : inV (toV x) (ds.map toV) = inD x ds := by
  unfold inV inD
  rw [List.any_map]
  rfl
theorem og_in : OG K W (rIn K false) oIn := by
  intro F H σ x y a b i ra rb
  unfold oIn
  split
  · split
    · rename_i h
      obtain ⟨h1, h2⟩ := Bool.and_eq_true_iff.mp h
      cases rb with
      | lst hb hs =>
        obtain ⟨e1, f1⟩ := toV_of ra h1
        obtain ⟨e2, f2⟩ := toVs_of hs h2
        subst e1
        subst e2
        exact ret_of i (fun Q q => ⟨_, _, rfl, .inl (i.seq hb), f1, f2, by rw [inV_map]; exact q⟩) (.bl _)
    · trivial
  · split
    · rename_i h
      obtain ⟨h1, h2⟩ := Bool.and_eq_true_iff.mp h
      cases rb with
      | tup hb hs =>
        obtain ⟨e1, f1⟩ := toV_of ra h1
        obtain ⟨e2, f2⟩ := toVs_of hs h2
        subst e1
        subst e2
        exact ret_of i (fun Q q => ⟨_, _, rfl, .inr (same_seqT i hb), f1, f2, by rw [inV_map]; exact q⟩) (.bl _)
    · trivial
  · trivial
theorem intsOf_eq : ∀ {ds : List D} {ns : List Int}, intsOf ds = some ns → ds = ns.map .int
  | [], ns, h => by
    cases h
    rfl
  | d :: ds, ns, h => by
    cases d with
    | int i =>
      have h' : (intsOf ds).map (i :: ·) = some ns := h
      cases e : intsOf ds with
      | none =>
        rw [e] at h'
        cases h'
      | some ms =>
        rw [e] at h'
        cases h'
        rw [List.map_cons, intsOf_eq e]
    | _ => cases h
theorem dps_ints_inv {vs : List V} : ∀ {ns : List Int}, DpAll K F vs (ns.map .int) → vs = ns.map V.int := by
  intro ns
  induction ns generalizing vs with
  | nil =>
    intro h
    cases h
    rfl
  | cons n ns ih =>
    intro h
    cases h with
    | cons h1 h2 =>
      cases h1
      rw [ih h2]
      rfl
theorem cg_sum : CG K W (rSum K) oSum := by
  intro F H σ vs ds i r
  unfold oSum
  split
  · split
    · rename_i ns e
      have e := intsOf_eq e
      subst e
      cases r with
      | cons r1 r2 =>
        cases r2
        cases r1 with
        | lst ha hs =>
          have e2 := dps_ints_inv hs
          subst e2
          exact ret_of i (fun Q q => ⟨_, ns, rfl, i.seq ha, q⟩) (.int _)
    · trivial
  · trivial
end
theorem findIdx_spec {α : Type} {p : α → Bool} : ∀ {l : List α} {j : Nat}, l.findIdx? p = some j → (∃ z, l[j]? = some z ∧ p z = true) ∧ ∀ (m : Nat) (z : α), m < j → l[m]? = some z → p z = false
  | [], j, h => by cases h
  | a :: l, j, h => by
    rw [List.findIdx?_cons] at h
    split at h
    · rename_i hp
      cases h
      exact ⟨⟨a, rfl, hp⟩, fun m z hm => absurd hm (Nat.not_lt_zero m)⟩
    · rename_i hp
      cases e : l.findIdx? p with
      | none =>
        rw [e] at h
        cases h
      | some k =>
        rw [e] at h
        cases h
        obtain ⟨h1, h2⟩ := findIdx_spec (l := l) e
        refine ⟨h1, fun m z hm hz => ?_⟩
        cases m with
        | zero =>
          cases hz
          simpa using hp
        | succ m => exact h2 m z (Nat.lt_of_succ_lt_succ hm) (by simpa using hz)
section
variable {X : Cx} {W : Wx} {a b e : Expr} {f g : EX} {pos : Pos}
theorem index_ret {F H : Hp} {σ : St} {x y : V} {d e : D} (i : Same F H) (ra : Dp X.K F x d) (rb : Dp X.K F y e) : Ret (RD X.K) W σ F H (oIndex d e) (rIndex X.K x [y] H) := by
  unfold oIndex
  split
  · rename_i ds
    split
    · rename_i h
      obtain ⟨h1, h2⟩ := Bool.and_eq_true_iff.mp h
      split
      · rename_i j ej
        cases ra with
        | @lst a0 vs _ ha hs =>
          obtain ⟨e1, f1⟩ := toV_of rb h1
          obtain ⟨e2, f2⟩ := toVs_of hs h2
          obtain ⟨⟨z, hz, hp⟩, hno⟩ := findIdx_spec ej
          subst e1
          subst e2
          refine ret_of i (fun Q q => ⟨a0, _, _, j, toV z, rfl, rfl, i.seq ha, f1, f2, by rw [List.getElem?_map, hz]; rfl, hp, fun m z' hm hz' => ?_, q⟩) (.int _)
          rw [List.getElem?_map] at hz'
          cases e3 : ds[m]? with
          | none =>
            rw [e3] at hz'
            cases hz'
          | some w =>
            rw [e3] at hz'
            cases hz'
            exact hno m w hm e3
      · trivial
    · trivial
  · trivial
/-- xs.count(y), flat things -/
def rCnt (K : PySem.W.Frag) : V → List V → Hp → VK → Prop := fun x xs H Q => ∃ (p : Addr) (ys : List V) (y : V), x = .ref p ∧ xs = [y] ∧ SqL K H p ys ∧ flatV y = true ∧ ys.all flatV = true ∧ Q (.int (ys.countP fun z => eqV z y : Nat)) H
theorem countP_eqU {x : V} : ∀ {xs : List V} {us : List Value}, Vals xs us → xs.all flatV = true → us.countP (eqU x) = xs.countP fun y => eqV y x
  | _, _, .nil, _ => rfl
  | y :: xs, u :: us, .cons r t, f => by
    rw [List.all_cons, Bool.and_eq_true] at f
    rw [List.countP_cons, List.countP_cons, eqU_of r f.1, countP_eqU t f.2]
theorem mt_cnt : MtR X "list.count" (rCnt X.K) := by
  intro pins s σ H x xs v us Q I rx rxs h
  obtain ⟨p, ys, y, rfl, rfl, hs, fy, fs, q⟩ := h
  cases rx
  obtain ⟨u, rfl, ru⟩ := rxs.one
  obtain ⟨its, rv, ⟨⟨cls, dd, data, sl⟩, n, ho, hc, hdn, hd⟩, hlen⟩ := I.list hs
  simp only at hc hd
  subst hc hd
  refine call_meets PySem.F.slot_list_count ⟨_, ho, rfl⟩ PySem.F.entry_list_count (PySem.F.args_list_count_2 _ _)
    (SeqAt.list_countAt p its.toArray n dd sl u (eqU y)) ⟨ho, fun z hz => mem_eqAt ru fy rv fs z (by simpa using hz), ?_⟩
  have ec : its.toArray.toList.countP (eqU y) = ys.countP fun z => eqV z y := countP_eqU rv fs
  rw [ec]
  exact ⟨.int _, H, I.tok _, ⟨_, rfl⟩, q⟩
theorem count_ret {F H : Hp} {σ : St} {x y : V} {d e : D} (i : Same F H) (ra : Dp X.K F x d) (rb : Dp X.K F y e) : Ret (RD X.K) W σ F H (oCount d e) (rCnt X.K x [y] H) := by
  unfold oCount
  split
  · split
    · rename_i h
      obtain ⟨h1, h2⟩ := Bool.and_eq_true_iff.mp h
      cases ra with
      | @lst a0 vs ds0 ha hs =>
        obtain ⟨e1, f1⟩ := toV_of rb h1
        obtain ⟨e2, f2⟩ := toVs_of hs h2
        subst e1
        subst e2
        refine ret_of i (fun Q q => ⟨a0, _, _, rfl, rfl, i.seq ha, f1, f2, ?_⟩) (.int _)
        rw [List.countP_map]
        exact q
    · trivial
  · trivial
/-- a method of a list with one argument, that gives a value -/
theorem meth_ret {r : V → List V → Hp → VK → Prop} {o : D → D → An D} {to ta : TE} (gr : ∀ F H σ x y d e, Same F H → Dp X.K F x d → Dp X.K F y e → Ret (RD X.K) W σ F H (o d e) (r x [y] H)) {BF B : Hp} {env : Env} {σ : St} {F H : Hp} (sr : SR (kx X) BF B env σ F H)
    (ga : ∀ BF B env σ F H, SR (kx X) BF B env σ F H → Ret (RD X.K) W σ F H (f env) (to σ H)) (gb : ∀ BF B env σ F H, SR (kx X) BF B env σ F H → Ret (RD X.K) W σ F H (g env) (ta σ H)) (hg : ∃ d, f env = .ok d ∧ ∃ ds, d = .list ds) :
    Ret (RD X.K) W σ F H (xOp o f g env) (tBM X.K "list" r to (tCons ta tNil) σ H) := by
  refine Ret.bnd (R := RD X.K) (R' := RD X.K) (ga _ _ _ _ _ _ sr) (fun _ _ _ _ _ _ h => h) sr.inn (T' := fun x H1 Q => tyV X.K "list" x H1 ∧ ta σ H1 fun y H2 => r x [y] H2 Q) fun d v F1 H1 e1 st ra => ?_
  obtain ⟨d', e2, ds, e3⟩ := hg
  rw [e1] at e2
  cases e2
  subst e3
  have ty : tyV X.K "list" v H1 := by
    cases ra with
    | lst ha hs => exact .inl ⟨rfl, _, st.inn.seq ha⟩
  have q0 : Ret (RD X.K) W σ F1 H1 ((g env).bnd fun e => o (.list ds) e) (fun Q => ta σ H1 fun y H2 => r v [y] H2 Q) :=
    Ret.bnd (R := RD X.K) (R' := RD X.K) (gb _ _ _ _ _ _ (sr.step st)) (fun _ _ _ _ _ _ h => h) st.inn (T' := fun y H2 Q => r v [y] H2 Q) fun d2 v2 F2 H2 _ st2 rb => gr F2 H2 σ v v2 _ d2 st2.inn (dp_mono st2.fr ra) rb
  cases e : (g env).bnd fun e => o (.list ds) e with
  | bad => trivial
  | ok z =>
    rw [e] at q0
    exact fun Q q => ⟨ty, q0 Q q⟩
  | exc c =>
    rw [e] at q0
    exact fun Q q => ⟨ty, q0 Q q⟩
def isL : D → Bool
  | .list _ => true
  | _ => false
/-- a method of a list: the receiver is looked at first -/
def xMt (o : D → D → An D) (f g : EX) : EX := fun env => match f env with
  | .ok (.list ds) => (g env).bnd fun e => o (.list ds) e
  | _ => .bad
theorem xMt_ret {o : D → D → An D} {env : Env} {R : An D → Prop} (hb : R .bad) (h : (∃ d, f env = .ok d ∧ ∃ ds, d = .list ds) → R (xOp o f g env)) : R (xMt o f g env) := by
  unfold xMt
  split
  · rename_i ds e
    have q := h ⟨_, e, ds, rfl⟩
    unfold xOp at q
    rw [e] at q
    exact q
  · exact hb
theorem se_meth {m : Str} {id : String} {apos cpos : Pos} {r : V → List V → Hp → VK → Prop} {o : D → D → An D} (slot : PySem.Slot "list" m id) (hty : typeOf (.builtin id) = pure (.type "method_descriptor")) (hm : MtR X id r) (gr : ∀ F H σ x y d e, Same F H → Dp X.K F x d → Dp X.K F y e → Ret (RD X.K) W σ F H (o d e) (r x [y] H)) (ha : SE X W a f) (hb : SE X W b g)
    (hbase : attributeBase a m X.env (eval a X.env) = eval a X.env := by rfl)
    (hfew : ((backTo cpos (starEach [b] X.env)).all (fun x => !x.1) && (backToKw cpos (keywordEach [] X.env)).all (fun x => x.1.isSome) && decide (([b] : List Expr).length + ([] : List Keyword).length + (if ([] : List Keyword).isEmpty then 0 else 1) < 30)) = true := by rfl)
    (hline : (apos.endLine == cpos.line) = true := by rfl) (hs : starEach [b] X.env = (false, eval b X.env) :: starEach [] X.env := by rfl) (hplain : (backTo cpos (starEach [] X.env)).any (·.1) = false := by rfl) :
    SE X W (.Call (.Attribute a m apos) [b] [] cpos) (xMt o f g) := by
  obtain ⟨to, po, ro⟩ := ha
  obtain ⟨ta, pa, ra⟩ := hb
  refine ⟨_, pe_bm PySem.F.plainAttrs_list slot hty hm po (pa_cons pa pa_nil hs) hbase hfew hline hs hplain, fun BF B env σ F H sr => ?_⟩
  exact xMt_ret (R := fun z => Ret (RD X.K) W σ F H z (tBM X.K "list" r to (tCons ta tNil) σ H)) trivial fun hg => by
    exact meth_ret gr sr ro ra hg
def rCatL (K : PySem.W.Frag) : R2 := fun x y H Q => ∃ l b xs zs, x = .ref l ∧ y = .ref b ∧ SqL K H l xs ∧ SqL K H b zs ∧ xs.length + zs.length ≤ sizeLine ∧ ∀ p, H p = none → Q (.ref p) (upd H p (.lst (xs ++ zs)))
theorem op_catL : OpR X (binaryOp .Add) (rCatL X.K) := by
  intro pins s σ H x y v u Q I rx ry h
  obtain ⟨l, b, xs, zs, rfl, rfl, hl, hb, hz, q⟩ := h
  cases rx
  cases ry
  obtain ⟨its, r, ⟨⟨cls, dd, data, sl⟩, n, ho, hc, hdn, hd⟩, _⟩ := I.list hl
  obtain ⟨its2, r2, ⟨⟨cls2, dd2, data2, sl2⟩, n2, ho2, hc2, hdn2, hd2⟩, _⟩ := I.list hb
  simp only at hc hd hc2 hd2
  subst hc hd hc2 hd2
  have hlen : its.toArray.size + its2.toArray.size ≤ sizeLine := by
    rw [List.size_toArray, List.size_toArray, ← r.length, ← r2.length]
    exact hz
  have ea : its.toArray ++ its2.toArray = (its ++ its2).toArray := by simp
  refine concat_meets ⟨_, ho, rfl⟩ ⟨_, ho2, rfl⟩ noFill_list_add seq_list_add PySem.F.slot_list_add PySem.F.entry_list_add (PySem.F.args_list_add_2 _ _) (PyProof.Rows.list_addW l b its.toArray its2.toArray n n2 dd dd2 sl sl2 hlen) ⟨ho, ho2, ?_⟩
  rw [ea]
  exact ⟨.ref _, upd H s.heap.objs.size (.lst (xs ++ zs)), I.laid (t' := s.toks) (fun b u e => Heap.get?_push_of_some _ e) (Nat.le_refl _) ⟨by rw [List.length_append]; exact hz, its ++ its2, 0, r.append r2, Heap.get?_push_size _ rfl⟩, rfl, q _ (I.hok.fresh (Nat.le_refl _))⟩
theorem cat_ret {F H : Hp} {σ : St} {x y : V} {d e : D} (i : Same F H) (ra : Dp X.K F x d) (rb : Dp X.K F y e) : Ret (RL X.K) W σ F H (oCat d e) (rCatL X.K x y H) := by
  unfold oCat
  split
  · split
    · rename_i hz
      cases ra with
      | lst ha hs =>
        cases rb with
        | lst hb ht =>
          have l1 := dps_len hs
          have l2 := dps_len ht
          exact ret_newL i (fun Q q => ⟨_, _, _, _, rfl, rfl, i.seq ha, i.seq hb, by rw [l1, l2]; exact Nat.le_trans hz (by decide), q⟩) (dps_app hs ht)
    · trivial
  · trivial
theorem sl_cat (ha : SE X W a f) (hb : SE X W b g) : SL X W (.BinOp a .Add b pos) (xOpL oCat f g) := by
  obtain ⟨ta, pa, ga⟩ := ha
  obtain ⟨tb, pb, gb⟩ := hb
  refine ⟨_, pe_op op_catL pa pb, fun BF B env σ F H sr => ?_⟩
  exact Ret.bnd (R := RD X.K) (R' := RL X.K) (ga _ _ _ _ _ _ sr) RL.back sr.inn (T' := fun x H1 Q => tb σ H1 fun y H2 => rCatL X.K x y H2 Q) fun d v F1 H1 _ st ra =>
    Ret.bnd (R := RD X.K) (R' := RL X.K) (gb _ _ _ _ _ _ (sr.step st)) RL.back st.inn (T' := fun y H2 Q => rCatL X.K v y H2 Q) fun d2 v2 F2 H2 _ st2 rb => cat_ret st2.inn (dp_mono st2.fr ra) rb
/-! sorted, of ints, of tuples of ints -/
theorem isI_shape {d : D} (h : isI d = true) : ∃ i, d = .int i := by
  cases d <;> first | exact ⟨_, rfl⟩ | cases h
theorem isIT_shape {d : D} (h : isIT d = true) : ∃ x r, d = .tuple (x :: r) ∧ isI x = true ∧ r.all isI = true := by
  cases d with
  | tuple xs =>
    cases xs with
    | nil => cases h
    | cons x r =>
      obtain ⟨h1, h2⟩ := Bool.and_eq_true_iff.mp h
      exact ⟨x, r, rfl, h1, h2⟩
  | _ => cases h
theorem alike_ints : ∀ {xs ys : List D}, xs.all isI = true → ys.all isI = true → PySem.W.alikeAll xs ys = true
  | [], _, _, _ => by simp [PySem.W.alikeAll]
  | _ :: _, [], _, _ => by simp [PySem.W.alikeAll]
  | x :: xs, y :: ys, h1, h2 => by
    rw [List.all_cons, Bool.and_eq_true] at h1 h2
    obtain ⟨i, rfl⟩ := isI_shape h1.1
    obtain ⟨j, rfl⟩ := isI_shape h2.1
    simp [PySem.W.alikeAll, PySem.W.alike, alike_ints h1.2 h2.2]
theorem sort_conds {ds : List D} (h : (ds.all isI || ds.all isIT) = true) : PySem.W.AllAlike ds ∧ PySem.W.Sortable ds := by
  rcases Bool.or_eq_true_iff.mp h with h | h
  · have hs : ∀ d ∈ ds, ∃ i, d = PyData.int i := fun d hd => isI_shape (List.all_eq_true.mp h d hd)
    refine ⟨fun d hd d' hd' => ?_, .inr fun d hd => ?_⟩
    · obtain ⟨i, rfl⟩ := hs d hd
      obtain ⟨j, rfl⟩ := hs d' hd'
      simp [PySem.W.alike]
    · obtain ⟨i, rfl⟩ := hs d hd
      exact ⟨fun z => (nomatch z), fun xs z => (nomatch z)⟩
  · have hs : ∀ d ∈ ds, ∃ x r, d = PyData.tuple (x :: r) ∧ isI x = true ∧ r.all isI = true := fun d hd => isIT_shape (List.all_eq_true.mp h d hd)
    refine ⟨fun d hd d' hd' => ?_, .inl fun d hd => ?_⟩
    · obtain ⟨x, r, rfl, a1, a2⟩ := hs d hd
      obtain ⟨y, t, rfl, b1, b2⟩ := hs d' hd'
      have q := alike_ints (xs := x :: r) (ys := y :: t) (by rw [List.all_cons, a1, a2] <;> rfl) (by rw [List.all_cons, b1, b2] <;> rfl)
      simp [PySem.W.alike, q]
    · obtain ⟨x, r, e, _⟩ := hs d hd
      exact ⟨x, r, e⟩
theorem depth_ints : ∀ {xs : List D}, xs.all isI = true → PyData.depthAll xs ≤ 1
  | [], _ => by simp [PyData.depthAll]
  | x :: xs, h => by
    rw [List.all_cons, Bool.and_eq_true] at h
    obtain ⟨i, rfl⟩ := isI_shape h.1
    have := depth_ints h.2
    simp [PyData.depthAll, PyData.depth]
    omega
theorem sort_depth {ds : List D} (h : (ds.all isI || ds.all isIT) = true) : ∀ d ∈ ds, d.depth ≤ 8 := by
  intro d hd
  rcases Bool.or_eq_true_iff.mp h with h | h
  · obtain ⟨i, rfl⟩ := isI_shape (List.all_eq_true.mp h d hd)
    simp [PyData.depth]
  · obtain ⟨x, r, rfl, a1, a2⟩ := isIT_shape (List.all_eq_true.mp h d hd)
    have q := depth_ints (xs := x :: r) (by rw [List.all_cons, a1, a2] <;> rfl)
    simp [PyData.depth] at q ⊢
    omega
def rSortD (K : PySem.W.Frag) : List V → Hp → VK → Prop := fun xs H Q => ∃ p vs ds F, xs = [.ref p] ∧ SqL K H p vs ∧ Same F H ∧ DpAll K F vs ds ∧ (ds.all isI || ds.all isIT) = true ∧ ∀ l us, H l = none → DpAll K F us (ds.mergeSort (PySem.W.dataLe false fun d => d)) → Q (.ref l) (upd H l (.lst us))
theorem each_of {s : Shared} {F H : Hp} {pins : List (Addr × Obj)} {σ : St} (I : Inv X pins σ H s) (i : Same F H) : ∀ {vs : List V} {us : List Value} {ds : List D}, Vals vs us → DpAll X.K F vs ds → PySem.W.EachIs (fun u d => ∃ v, RelV v u ∧ Dp X.K F v d) us ds ∧ PySem.W.EachIs (fun u d => ∃ as, Reads s.heap u d as) us ds
  | _, _, _, .nil, .nil => ⟨.nil, .nil⟩
  | _, _, _, .cons r t, .cons h hs => ⟨.cons ⟨_, r, h⟩ (each_of I i t hs).1, .cons (Dp.reads I _ _ _ (dp_mono i h) r) (each_of I i t hs).2⟩
theorem vals_of_each {H : Hp} {K : PySem.W.Frag} : ∀ {us : List Value} {ds : List D}, PySem.W.EachIs (fun u d => ∃ v, RelV v u ∧ Dp K H v d) us ds → ∃ vs, Vals vs us ∧ DpAll K H vs ds
  | _, _, .nil => ⟨[], .nil, .nil⟩
  | _, _, .cons ⟨v, r, h⟩ t => by
    obtain ⟨vs, a, b⟩ := vals_of_each t
    exact ⟨v :: vs, .cons r a, .cons h b⟩
theorem call_sortD (hu : X.A.units + 64 < cLine) : CallR X (.builtin "sorted") (rSortD X.K) := by
  intro pins s σ H xs us Q I r h
  obtain ⟨p, vs, ds, F, rfl, hs, i, hd, hk, q⟩ := h
  obtain ⟨its, rv, hl, hz⟩ := I.list hs
  rw [Vals.ref1 r]
  obtain ⟨e1, e2⟩ := each_of I i rv hd
  obtain ⟨c1, c2⟩ := sort_conds hk
  have hlen : ds.length ≤ sizeLine := by rw [← dps_len hd]; exact hz
  refine PySem.W.sorted_data (enc := fun d => d) hl.isList e1 e2 (by rw [List.map_id']; exact c1) (by rw [List.map_id']; exact c2) hlen (fun d m => ?_) fun out ho eo => ?_
  · have := sort_depth hk d m
    omega
  · obtain ⟨ws, rw1, dw⟩ := vals_of_each eo
    obtain ⟨ep, he'⟩ := PyProof.Rows.sortedAll_at s.heap its out.toArray
    have hn : H (s.heap.objs.size + 1) = none := I.hok.fresh (Nat.le_succ _)
    refine ⟨.ref _, upd H (s.heap.objs.size + 1) (.lst ws), I.laid (t' := s.toks) (fun _ _ => PyProof.Rows.sortedAll_old) (Nat.le_succ _) ⟨?_, out, ep, rw1, he'⟩, rfl, q _ _ hn dw⟩
    rw [rw1.length, ho]
    exact hlen
theorem cg_sortD : CGL X.K W (rSortD X.K) oSorted := by
  intro F H σ vs ds i r
  unfold oSorted
  split
  · split
    · rename_i hk
      cases r with
      | cons r1 r2 =>
        cases r2
        cases r1 with
        | lst ha hs =>
          intro Q q
          exact ⟨_, _, _, F, rfl, i.seq ha, i, hs, hk.1, fun l us hl hus => q _ F _ (Step.priv i hl) ⟨l, us, rfl, hl, i.free hl, upd_same, hus⟩⟩
    · trivial
  · trivial
theorem sl_sorted {p : Pos} (hm : X.mg "sorted" = none) (hu : X.A.units + 64 < cLine) (ha : SE X W e f) (hg : Gl X "sorted" := by rfl) (hs : starEach [e] X.env = (false, eval e X.env) :: starEach [] X.env := by rfl) (hpl : (backTo pos (starEach [] X.env)).any (·.1) = false := by rfl) :
    SL X W (.Call (.Name "sorted" p) [e] [] pos) (xAppL oSorted (aCons f aNil)) := by
  obtain ⟨t, pt, rt⟩ := sa_cons ha sa_nil hs
  exact ⟨_, pe_callB (call_sortD hu) hg hm (by decide +kernel) pt (by decide) (by decide) hs hpl, fun BF B env σ F H sr => cbl_ret cg_sortD sr (rt _ _ _ _ _ _ sr)⟩
theorem se_index {apos cpos : Pos} (ha : SE X W a f) (hb : SE X W b g) (hbase : attributeBase a "index" X.env (eval a X.env) = eval a X.env := by rfl)
    (hfew : ((backTo cpos (starEach [b] X.env)).all (fun x => !x.1) && (backToKw cpos (keywordEach [] X.env)).all (fun x => x.1.isSome) && decide (([b] : List Expr).length + ([] : List Keyword).length + (if ([] : List Keyword).isEmpty then 0 else 1) < 30)) = true := by rfl)
    (hline : (apos.endLine == cpos.line) = true := by rfl) (hs : starEach [b] X.env = (false, eval b X.env) :: starEach [] X.env := by rfl) (hplain : (backTo cpos (starEach [] X.env)).any (·.1) = false := by rfl) :
    SE X W (.Call (.Attribute a "index" apos) [b] [] cpos) (xMt oIndex f g) := se_meth PySem.F.slot_list_index PySem.F.type_list_index mt_index (fun F H σ x y d e i ra rb => index_ret i ra rb) ha hb hbase hfew hline hs hplain
theorem se_count {apos cpos : Pos} (ha : SE X W a f) (hb : SE X W b g) (hbase : attributeBase a "count" X.env (eval a X.env) = eval a X.env := by rfl)
    (hfew : ((backTo cpos (starEach [b] X.env)).all (fun x => !x.1) && (backToKw cpos (keywordEach [] X.env)).all (fun x => x.1.isSome) && decide (([b] : List Expr).length + ([] : List Keyword).length + (if ([] : List Keyword).isEmpty then 0 else 1) < 30)) = true := by rfl)
    (hline : (apos.endLine == cpos.line) = true := by rfl) (hs : starEach [b] X.env = (false, eval b X.env) :: starEach [] X.env := by rfl) (hplain : (backTo cpos (starEach [] X.env)).any (·.1) = false := by rfl) :
    SE X W (.Call (.Attribute a "count" apos) [b] [] cpos) (xMt oCount f g) := se_meth PySem.F.slot_list_count PySem.F.type_list_count mt_cnt (fun F H σ x y d e i ra rb => count_ret i ra rb) ha hb hbase hfew hline hs hplain
end
end Mg
namespace Mg
open PySem PySem.Spec PyProof.Rows L2
/-! ### reckoning with denotations -/
def outAn : Out → An D
  | .ret d => .ok d
  | .nx _ => .ok .none
  | .exc c _ => .exc c
  | _ => .bad
theorem outAn_ret {d : D} : outAn (.ret d) = .ok d := rfl
theorem outAn_nx {env : Env} : outAn (.nx env) = .ok .none := rfl
theorem outAn_exc {c : Xc} {env : Env} : outAn (.exc c env) = .exc c := rfl
theorem run_eq {nN np : Nat} {body : SX} {ds : List D} (h : ds.length = np) : runDef nN np body ds = outAn (body (ds.map Slot.val ++ List.replicate (nN - np) Slot.un)) := by
  unfold runDef
  rw [if_pos h]
  cases body (ds.map Slot.val ++ List.replicate (nN - np) Slot.un) <;> rfl
section
variable {f g : EX} {fs : AX} {env : Env} {s t : SX} {c : TX} {i j : Nat} {d e : D} {a b m n : Int} {o : D → D → An D}
theorem ev_var : xVar i env = (match env[i]? with | some (.val d) => .ok d | _ => .bad) := rfl
theorem ev_var_un {r : Env} : xVar 0 (.un :: r) = .bad := rfl
theorem ev_var0 {r : Env} : xVar 0 (.val d :: r) = .ok d := rfl
theorem ev_varS {x : Slot} {r : Env} : xVar (i + 1) (x :: r) = xVar i r := rfl
theorem ev_c : xC d env = .ok d := rfl
theorem ev_op : xOp o f g env = (f env).bnd fun a => (g env).bnd fun b => o a b := rfl
theorem ev_un {u : D → An D} : xUn u f env = (f env).bnd u := rfl
theorem ev_app {u : List D → An D} : xApp u fs env = (fs env).bnd u := rfl
theorem ev_appL {u : List D → An (List D)} : xAppL u fs env = (fs env).bnd u := rfl
theorem ev_tup : xTup fs env = (fs env).bnd fun ds => .ok (.tuple ds) := rfl
theorem ev_l : xL fs env = (fs env).bnd fun ds => .ok (.list ds) := rfl
theorem ev_anil : aNil env = .ok [] := rfl
theorem ev_acons : aCons f fs env = (f env).bnd fun d => (fs env).bnd fun ds => .ok (d :: ds) := rfl
theorem ev_bool {b : Bool} : oBool (.bool b) = .ok b := rfl
theorem ev_tof : tOf f env = (f env).bnd oBool := rfl
theorem ev_tand {c2 : TX} : tAndX c c2 env = (c env).bnd fun b => if b = true then c2 env else .ok false := rfl
theorem ev_tor {c2 : TX} : tOrX c c2 env = (c env).bnd fun b => if b = true then .ok true else c2 env := rfl
theorem ev_tnot : tNotX c env = (c env).bnd fun b => .ok (!b) := rfl
theorem ev_and : xAnd f g env = (f env).bnd fun d => (oBool d).bnd fun b => if b = true then g env else .ok (.bool false) := rfl
theorem ev_or : xOr f g env = (f env).bnd fun d => (oBool d).bnd fun b => if b = true then .ok (.bool true) else g env := rfl
theorem ev_not : xNot f env = (f env).bnd fun d => (oBool d).bnd fun b => .ok (.bool (!b)) := rfl
theorem ev_addI : oAdd (.int a) (.int b) = .ok (.int (a + b)) := rfl
theorem ev_addT {x y : List D} (h : x.length + y.length ≤ 100000) : oAdd (.tuple x) (.tuple y) = .ok (.tuple (x ++ y)) := if_pos h
theorem ev_sub : oSub (.int a) (.int b) = .ok (.int (a - b)) := rfl
theorem ev_lt : oLt (.int a) (.int b) = .ok (.bool (decide (a < b))) := rfl
theorem ev_le : oLe (.int a) (.int b) = .ok (.bool (decide (a ≤ b))) := rfl
theorem ev_gt : oGt (.int a) (.int b) = .ok (.bool (decide (b < a))) := rfl
theorem ev_ge : oGe (.int a) (.int b) = .ok (.bool (decide (b ≤ a))) := rfl
theorem ev_mulL (h1 : -18446744073709551616 < a) (h2 : a < 18446744073709551616) : oMul (.int a) (.int b) = .ok (.int (a * b)) := if_pos (.inl ⟨h1, h2⟩)
theorem ev_mulR (h1 : -18446744073709551616 < b) (h2 : b < 18446744073709551616) : oMul (.int a) (.int b) = .ok (.int (a * b)) := if_pos (.inr ⟨h1, h2⟩)
theorem ev_mod (h : 0 < b) : oMod (.int a) (.int b) = .ok (.int (a % b)) := if_pos h
theorem ev_fdiv (h : 0 < b) (h2 : b < 1073741824) : oFdiv (.int a) (.int b) = .ok (.int (a / b)) := if_pos ⟨h, h2⟩
theorem ev_p5 : oPow (.int 10) (.int 5) = .ok (.int 100000) := rfl
theorem ev_p9 : oPow (.int 10) (.int 9) = .ok (.int 1000000000) := rfl
theorem ev_p12 : oPow (.int 10) (.int 12) = .ok (.int 1000000000000) := rfl
theorem ev_p15 : oPow (.int 10) (.int 15) = .ok (.int 1000000000000000) := rfl
theorem ev_neg : oNeg (.int a) = .ok (.int (-a)) := rfl
theorem ev_eqI : oEq (.int a) (.int b) = .ok (.bool (decide (a = b))) := by
  rfl
theorem ev_neI : oNe (.int a) (.int b) = .ok (.bool (!decide (a = b))) := by
  rfl
theorem ev_eqSt {x y : Str} : oEq (.str x) (.str y) = .ok (.bool (decide (x = y))) := rfl
theorem ev_neSt {x y : Str} : oNe (.str x) (.str y) = .ok (.bool (!decide (x = y))) := rfl
theorem ev_isNn : oIsN .none .none = .ok (.bool true) := rfl
theorem ev_isNt {x : List D} : oIsN (.tuple x) .none = .ok (.bool false) := rfl
theorem ev_isnNn : oIsnN .none .none = .ok (.bool false) := rfl
theorem ev_isnNt {x : List D} : oIsnN (.tuple x) .none = .ok (.bool true) := rfl
theorem ev_lenL {x : List D} : oLen [.list x] = .ok (.int x.length) := rfl
theorem ev_lenT {x : List D} : oLen [.tuple x] = .ok (.int x.length) := rfl
theorem ev_listL {x : List D} : oList [.list x] = .ok x := rfl
theorem ev_listT {x : List D} : oList [.tuple x] = .ok x := rfl
theorem ev_tupleL {x : List D} : oTuple [.list x] = .ok (.tuple x) := rfl
theorem ev_tupleT {x : List D} : oTuple [.tuple x] = .ok (.tuple x) := rfl
theorem ev_min : oMin [.int a, .int b] = .ok (.int (if b < a then b else a)) := rfl
theorem ev_max : oMax [.int a, .int b] = .ok (.int (if b > a then b else a)) := rfl
theorem ev_intI : oIntOf [.int a] = .ok (.int a) := rfl
theorem ev_intB {b : Bool} : oIntOf [.bool b] = .ok (.int (if b then 1 else 0)) := rfl
theorem ev_ix0 {x : List D} : oIdx (.tuple (d :: x)) (.int 0) = .ok d := by
  have e : atI (d :: x) ((0 : Nat) : Int) = some d := atI_nat rfl
  show (match atI (d :: x) ((0 : Nat) : Int) with | some d => An.ok d | none => .bad) = _
  rw [e]
theorem ev_slice {lo hi : OX} : xSl f lo hi env = (f env).bnd fun a => (lo env).bnd fun l => (hi env).bnd fun u => oSl a l u := rfl
theorem ev_pno : pNo env = .ok none := rfl
theorem ev_pat : pAt f env = (f env).bnd oInt := rfl
theorem ev_oint : oInt (.int a) = .ok (some a) := rfl
theorem ev_slL {x : List D} {l u : Option Int} : oSl (.list x) l u = .ok (.list (cutD x l u)) := rfl
theorem ev_slT {x : List D} {l u : Option Int} : oSl (.tuple x) l u = .ok (.tuple (cutD x l u)) := rfl
theorem ev_skip : sSkip env = .nx env := rfl
theorem ev_seq : sSeq s t env = (s env).thn t := rfl
theorem ev_if : sIf c s t env = (c env).thn env fun b => if b = true then s env else t env := rfl
theorem ev_set : sSet i f env = (f env).thn env fun d => .nx (env.set i (.val d)) := rfl
theorem ev_own : sOwn i fs env = (fs env).thn env fun ds => .nx (env.set i (.own ds)) := rfl
theorem ev_par : sPar i j f g env = (f env).thn env fun d => (g env).thn env fun e => .nx ((env.set i (.val d)).set j (.val e)) := rfl
theorem ev_ret : sRet f env = (f env).thn env fun d => .ret d := rfl
theorem ev_ct : sCt env = .ct env := rfl
theorem ev_drop : sDrop f env = (f env).thn env fun _ => .nx env := rfl
theorem ev_raise {x : Xc} : sRaise x env = .exc x env := rfl
theorem ev_opL {o : D → D → An (List D)} : xOpL o f g env = (f env).bnd fun a => (g env).bnd fun b => o a b := rfl
theorem pl_val : (Slot.val d).plain = true := rfl
theorem pl_un : Slot.un.plain = true := rfl
theorem pl_own {ds : List D} : (Slot.own ds).plain = true := rfl
theorem ev_lenO : xLenO i env = (match env[i]? with | some (.own ds) => .ok (.int ds.length) | _ => .bad) := rfl
theorem ev_ixO : xIxO i g env = (match env[i]? with | some (.own ds) => (g env).bnd (oIdxL ds) | _ => .bad) := rfl
theorem ev_thn_ite {p : Prop} [Decidable p] {x y : Out} : (if p then x else y).thn t = if p then x.thn t else y.thn t := by split <;> rfl
theorem ev_bnd_ite {α β : Type} {p : Prop} [Decidable p] {x y : An α} {k : α → An β} : (if p then x else y).bnd k = if p then x.bnd k else y.bnd k := by split <;> rfl
theorem ev_thnA_ite {α : Type} {p : Prop} [Decidable p] {x y : An α} {k : α → Out} : (if p then x else y).thn env k = if p then x.thn env k else y.thn env k := by split <;> rfl
theorem idx_mem {ds : List D} {k : Int} (h0 : 0 ≤ k) (h1 : k < ds.length) : ∃ d, oIdx (.list ds) (.int k) = .ok d ∧ d ∈ ds := by
  obtain ⟨j, rfl⟩ : ∃ j : Nat, k = (j : Int) := ⟨k.toNat, by omega⟩
  have hj : j < ds.length := by omega
  have e : atI ds (j : Int) = some ds[j] := atI_nat (List.getElem?_eq_getElem hj)
  refine ⟨ds[j], ?_, List.getElem_mem hj⟩
  show (match atI ds (j : Int) with | some d => An.ok d | none => .bad) = _
  rw [e]
theorem idx_at {ds : List D} {k : Int} {d : D} (h0 : 0 ≤ k) (h : ds[k.toNat]? = some d) : oIdx (.list ds) (.int k) = .ok d := by
  obtain ⟨j, rfl⟩ : ∃ j : Nat, k = (j : Int) := ⟨k.toNat, by omega⟩
  show (match atI ds (j : Int) with | some d => An.ok d | none => .bad) = _
  rw [atI_nat (by simpa using h)]
theorem idxT_at {ds : List D} {k : Int} {d : D} (h0 : 0 ≤ k) (h : ds[k.toNat]? = some d) : oIdx (.tuple ds) (.int k) = .ok d := by
  obtain ⟨j, rfl⟩ : ∃ j : Nat, k = (j : Int) := ⟨k.toNat, by omega⟩
  show (match atI ds (j : Int) with | some d => An.ok d | none => .bad) = _
  rw [atI_nat (by simpa using h)]
end
theorem seq_go {s t : SX} {env env' : Env} {r : An D} (h : s env = .nx env') (q : outAn (t env') = r) : outAn (sSeq s t env) = r := by
  show outAn ((s env).thn t) = r
  rw [h]
  exact q
theorem seq_go' {s t : SX} {env env' : Env} {r : Out} (h : s env = .nx env') (q : t env' = r) : sSeq s t env = r := by
  show (s env).thn t = r
  rw [h]
  exact q
theorem eq_self {d : D} (h : SeqAt.shaped d = true) (hs : sEq d d = none) : oEq d d = .ok (.bool true) := by
  unfold oEq
  rw [hs]
  show (if (SeqAt.shaped d && SeqAt.shaped d) = true then An.ok (PyData.bool (PyData.eqv d d)) else .bad) = _
  rw [h, if_pos (by rfl : (true && true) = true), SeqAt.eqv_refl d (SeqAt.canLay_of_shaped h)]
theorem loop_cons {b : BX} {body : SX} {x : D} {xs : List D} {env env1 env2 : Env} (e1 : b x env = some env1) (e2 : body env1 = .nx env2 ∨ body env1 = .ct env2) : sLoop b body (x :: xs) env = sLoop b body xs env2 := by
  conv => lhs; unfold sLoop
  rcases e2 with e2 | e2 <;> simp only [e1, e2]
/-- a loop by what holds behind i turns -/
theorem loop_list {b : BX} {body : SX} (P : Nat → Env → Prop) : ∀ (ds : List D) (k : Nat) (env : Env), (∀ i d env, ds[i]? = some d → P (k + i) env → ∃ env1 env2, b d env = some env1 ∧ (body env1 = .nx env2 ∨ body env1 = .ct env2) ∧ P (k + i + 1) env2) → P k env → ∃ env', sLoop b body ds env = .nx env' ∧ P (k + ds.length) env'
  | [], k, env, _, h0 => ⟨env, rfl, h0⟩
  | d :: ds, k, env, h, h0 => by
    obtain ⟨env1, env2, e1, e2, h2⟩ := h 0 d env rfl h0
    obtain ⟨env', e3, h3⟩ := loop_list P ds (k + 1) env2 (fun i d env hi hp => by
      have q := h (i + 1) d env (by simpa using hi) (by rw [show k + (i + 1) = k + 1 + i by omega]; exact hp)
      rw [show k + 1 + i + 1 = k + (i + 1) + 1 by omega]
      exact q) h2
    refine ⟨env', ?_, by rw [show k + (d :: ds).length = k + 1 + ds.length by simp; omega]; exact h3⟩
    rw [loop_cons e1 e2]
    exact e3
/-- range(lo, hi), as a list -/
abbrev rngD (lo : Int) (n : Nat) : List D := (List.range n).map fun i : Nat => .int (lo + (i : Int))
theorem rng_get {lo : Int} {n i : Nat} {d : D} (h : (rngD lo n)[i]? = some d) : i < n ∧ d = .int (lo + (i : Int)) := by
  rw [List.getElem?_map] at h
  by_cases hi : i < n
  · rw [List.getElem?_range hi] at h
    exact ⟨hi, (Option.some.inj h).symm⟩
  · rw [List.getElem?_eq_none (by simpa using hi)] at h
    cases h
theorem rng_len (lo : Int) (n : Nat) : (rngD lo n).length = n := by simp
theorem ev_r1 {f : EX} {env : Env} {n : Int} (e : f env = .ok (.int n)) (h1 : -100000 ≤ n) (h2 : n ≤ 100000) : iR1 f env = .ok (rngD 0 n.toNat) := by
  show ((f env).bnd fun d => (aNil env).bnd fun ds => .ok (d :: ds)).bnd oRng1 = _
  rw [e]
  show oRng 0 n = _
  unfold oRng
  rw [if_pos ⟨by decide, by omega⟩, Int.sub_zero]
theorem ev_r2 {f g : EX} {env : Env} {m n : Int} (e : f env = .ok (.int m)) (e2 : g env = .ok (.int n)) (h1 : -100000 ≤ n) (h2 : n ≤ 100000) (h3 : -100000 ≤ m) (h4 : m ≤ 100000) : iR2 f g env = .ok (rngD m (n - m).toNat) := by
  show ((f env).bnd fun d => ((g env).bnd fun d2 => (aNil env).bnd fun ds => .ok (d2 :: ds)).bnd fun ds => .ok (d :: ds)).bnd oRng2 = _
  rw [e, e2]
  show oRng m n = _
  unfold oRng
  rw [if_pos ⟨by omega, by omega⟩]
/-- a for whose loop goes through -/
theorem for_go {src : AX} {b : BX} {body : SX} {env env' : Env} {ds : List D} (h : src env = .ok ds) (h2 : sLoop b body ds env = .nx env') : sFor src b body env = .nx env' := by
  show (src env).thn env (fun ds => sLoop b body ds env) = _
  rw [h]
  exact h2
/-- a statement, by what holds behind it -/
theorem seq_P {s t : SX} {env : Env} {r : An D} (P : Env → Prop) (h : ∃ env', s env = .nx env' ∧ P env') (q : ∀ env', P env' → outAn (t env') = r) : outAn (sSeq s t env) = r := by
  obtain ⟨env', e, p⟩ := h
  exact seq_go e (q env' p)
theorem seq_P' {s t : SX} {env : Env} {r : Out} (P : Env → Prop) (h : ∃ env', s env = .nx env' ∧ P env') (q : ∀ env', P env' → t env' = r) : sSeq s t env = r := by
  obtain ⟨env', e, p⟩ := h
  exact seq_go' e (q env' p)
theorem isA_int_int {n : Int} : oIsA "int" (.int n) = .ok (.bool true) := by
  have e : kitB "int" "int" = some true := by decide +kernel
  show (match kitB "int" "int" with | some b => An.ok (PyData.bool b) | none => .bad) = _
  rw [e]
theorem isA_int_bool {n : Int} : oIsA "bool" (.int n) = .ok (.bool false) := by
  have e : kitB "int" "bool" = some false := by decide +kernel
  show (match kitB "int" "bool" with | some b => An.ok (PyData.bool b) | none => .bad) = _
  rw [e]
end Mg
namespace Mg
open PySem PySem.Spec PyProof.Rows L2 L2H
/-! ### defs that are called in an except suite, with the exception that is handled -/
theorem roomH_u {k : Nat} {A : Around} (hr : RoomH k A) : A.units + 64 < cLine := by
  have := hr.un
  omega
def xHot (i : Nat) (d : D) : EX := fun env => match env[i]? with
  | some .err => .ok d
  | _ => .bad
def HotSpec (P : Program) (w : World) (K : PySem.W.Frag) (mg : Str → Option Value) (base : Heap) (cl : Xc → Addr) (k : Nat) (f : Addr) (fd : FuncData) (q : Str) (spec : Xc → D) : Prop :=
  ∀ (c : Xc) (A : Around) (outer : List PySem.Env) (s : Shared) (F H : Hp) (args : Args) (Q : VK) (E : XK) (p : Addr × Obj), RoomH k A → Hot1 A p → PinOk outer H s p → L2N.Zn (.ref (cl c)) none p.2 → Env0 P w K mg base A outer s H →
    BindsTo s fd args [(q, .ref p.1)] → Same F H → (∀ v F' H', Step F H F' H' → Dp K F' v (spec c) → Q v H') → codeAny (model P w) A (.call (.ref f) args) (CR (L2N.CX P w) outer P w H s Q E) s
def FE (P : Program) (w : World) (K : PySem.W.Frag) (mg : Str → Option Value) (base : Heap) (cl : Xc → Addr) (x : Str) (k : Nat) (spec : Xc → D) : Prop :=
  ∃ f fd q, mg x = some (.ref f) ∧ PySem.W.keepIn K (.ref f) = true ∧ Binds K fd [q] [] ∧ HotSpec P w K mg base cl k f fd q spec
section
variable {P : Program} {w : World} {K : PySem.W.Frag} {mg : Str → Option Value} {base : Heap} {cl : Xc → Addr}
theorem hot_sr {F H : Hp} {N : List Str} {a : Addr} {n : Nat} (i : Same F H) (hn : N.length = n + 1) : SR (K, a) F H (.err :: List.replicate n Slot.un) (L2.start N [.ref a]) F H := by
  refine ⟨?_, Step.refl i, i, fun _ _ => False, fun j x e => ?_, fun _ _ _ j2 => ?_, fun _ _ j2 => ?_⟩
  · unfold L2.start
    simp
    omega
  · cases j with
    | zero =>
      cases e
      rfl
    | succ j =>
      rw [List.getElem?_cons_succ, List.getElem?_replicate] at e
      split at e
      · cases e
        trivial
      · cases e
  · exact j2.elim
  · exact j2.elim
theorem hot_ok {x q : Str} {st : Stmt} {f : Addr} {fd : FuncData} {N : List Str} {k n : Nat} {body : Xc → SX} {spec : Xc → D} (Fn : Fun K x x st f fd) (hm : mg x = some (.ref f)) (hb : Binds K fd [q] []) (S : FnScope N [q] (defScope st)) (hn : N.length = n + 1)
    (hspec : ∀ c, body c (.err :: List.replicate n Slot.un) = .ret (spec c))
    (hbody : ∀ (c : Xc) (cdv : Value) (A : Around) (outer : List PySem.Env) (s : Shared) (H : Hp) (E : XK) (p : Addr × Obj), RoomH k (A.deeper (envOfC x (defScope st) s.heap.objs.size f cdv)) → L2N.Zn (.ref (cl c)) none p.2 → (∃ vs, p.2.data = .fields vs) →
      SSs (cxH (L2N.CX P w) P w K mg base N x (defScope st) f cdv A outer s H E p) (dW cl E) (defBody st) (body c)) : FE P w K mg base cl x (k + 1) spec := by
  have hk := Fn.kp
  obtain ⟨oc, od, kV, doc, pm, an, cdv, ct, osl, rfl, lk, hcd⟩ := Fn.ex
  refine ⟨f, _, q, hm, hk, hb, fun c A outer s F H args Q E p hr hot hpin hz e0 bt i hq => ?_⟩
  have KX : K.In s.heap := e0.mod.kin.keeps fun b o e => (e0.bs b o e).1
  have lim : s.heap.NoLimit := e0.mod.nolimit.keeps fun b o e => (e0.bs b o e).1
  have hkind : ∀ y ∈ [(q, Value.ref p.1)], (defScope st).names.lookup y.1 = some .local ∨ ((defScope st).names.lookup y.1 = some .cell ∧ ((cellsFrom (s.heap.objs.size + 1) (defScope st).names []).lookup y.1).isSome = true) := fun y hy => by
    have hy := List.mem_singleton.mp hy
    subst hy
    rcases S.par q List.mem_cons_self with z | z
    · exact .inl z
    · exact .inr ⟨z, PySem.W.cellsFrom_some _ _ _ (.inl z)⟩
  have go := codeAny_call_function (prog := P) (w := w) (A := A) (R := CR (L2N.CX P w) outer P w H s Q E) (args := args) hr.depth (KX _ _ lk) rfl S.co S.gen rfl (PySem.W.codeRec_of KX hcd)
  refine go (bt _ _ _ _ ?_)
  refine wpAny_newFunctionEnv_cells S.kind hkind fun env he s1 x1 => ?_
  subst he
  refine ⟨lim.keeps x1.toInCall.keep, codeAny_func ?_⟩
  obtain ⟨vs, hvs, _⟩ := hot.2
  obtain ⟨t, pt, rt⟩ := hbody c cdv A outer s H E p (hr.deeper _) hz ⟨vs, hvs⟩
  have I : Inv (cxH (L2N.CX P w) P w K mg base N x (defScope st) f cdv A outer s H E p) [] (L2.start N [.ref p.1]) H s1 := inv_startH (us := [.ref p.1]) S hpin e0 rfl (.cons rfl .nil) x1
  have hp : Post (kx (cxH (L2N.CX P w) P w K mg base N x (defScope st) f cdv A outer s H E p)) (dW cl E) F H { nx := fun _ H' => Q .non H', rt := Q } F (body c (.err :: List.replicate n Slot.un)) := by
    rw [hspec c]
    exact hq
  have run := pt.run [] s1 _ H _ I (rt F H _ _ F H _ (hot_sr i hn) hp)
  refine wpAny_mono run (fun fl s' hs => ?_) fun e s' hs => hs
  have fin : ∀ {σ' : St} {H' : Hp} {v : V} {u : Value}, Inv (cxH (L2N.CX P w) P w K mg base N x (defScope st) f cdv A outer s H E p) [] σ' H' s' → RelV v u → Q v H' → CE outer P w H s Q u s' := fun J rv qv => ⟨_, _, J.os, J.bare, J.base, J.hok, rv, qv⟩
  cases fl with
  | ret u =>
    obtain ⟨v, σ', H', J, rv, qv⟩ := hs
    exact fin J rv qv
  | next =>
    obtain ⟨σ', H', J, qv⟩ := hs
    exact fin (v := .non) (u := .none) J rfl qv
  | brk =>
    obtain ⟨_, _, _, z⟩ := hs
    exact z.elim
  | cont =>
    obtain ⟨_, _, _, z⟩ := hs
    exact z.elim
end
section
variable {X : Cx} {W : Wx} {cl : Xc → Addr}
theorem se_hot (i : Nat) {x n : Str} {a : Addr} {oe : Obj} {pn : List (Addr × Obj)} {p p1 cpos : Pos} {k : Nat} {c : Xc} {spec : Xc → D} (G : FE X.prog X.w X.K X.mg X.base cl x k spec) (hr : Room k X.A) (hz : L2N.Zn (.ref (cl c)) none oe) (hd : ∃ vs, oe.data = .fields vs)
    (hN : X.N[i]? = some n := by rfl) (hv : Vis X.env.scope n := by first | exact Or.inl rfl | exact Or.inr (Or.inl rfl) | exact Or.inr (Or.inr rfl)) (hdb : (n == ("__debug__" : Str)) = false := by decide) (hcd : (n == ("__classdict__" : Str)) = false := by decide) (hg : Gl X x := by rfl) (hdx : (x == ("__debug__" : Str)) = false := by decide)
    (hs : starEach [.Name n p1] X.env = (false, eval (.Name n p1) X.env) :: starEach [] X.env := by rfl) (hpl : (backTo cpos (starEach [] X.env)).any (·.1) = false := by rfl) :
    SE (X.suite a ((a, oe) :: pn)) W (.Call (.Name x p) [.Name n p1] [] cpos) (xHot i (spec c)) := by
  obtain ⟨f, fd, q, hm, hk, hb, hf⟩ := G
  let Y : Cx := X.suite a ((a, oe) :: pn)
  refine ⟨fun σ H Q => σ[i]? = some (some (.ref a)) ∧ ∃ F, Same F H ∧ ∀ v F' H', Step F H F' H' → Dp X.K F' v (spec c) → Q v H', ⟨fun pins s σ H Q I h => ?_⟩, fun BF B env σ F H sr => ?_⟩
  · obtain ⟨e1, F, i0, hq⟩ := h
    refine wpAny_Call_Name_kw (ld_glob (X := Y) I hg hm ?_ hdx)
    have pv : PA Y [.Name n p1] (tCons (tVar i) tNil) := pa_cons (X := Y) (pe_var (X := Y) hN hv hdb hcd) pa_nil hs
    refine PySem.W.callWith_K (h₀ := Y.base) I.ok.mod.kin hk (thn (pv.run cpos pins s σ H (fun vs H1 => vs = [.ref a] ∧ H1 = H) I ⟨.ref a, e1, rfl, rfl⟩) fun us s1 hh => ?_) hs hpl
    obtain ⟨vs, H1, I1, r, rfl, rfl⟩ := hh
    refine ⟨I1.kIn, ?_⟩
    obtain ⟨u, rfl, ru⟩ := r.one
    cases ru
    have P1 := I1.pin (a, oe) (List.mem_append_left _ List.mem_cons_self)
    have hpin : PinOk Y.stack H1 s1 (a, oe) := ⟨P1.1, P1.2.1, fun z => (List.mem_cons.mp (I1.stkSub a z)).elim P1.2.2.1 P1.2.2.2.1, P1.2.2.2.2⟩
    obtain ⟨vs, hvs⟩ := hd
    have hot : Hot1 Y.A (a, oe) := ⟨rfl, vs, hvs, hz.2.2 vs hvs⟩
    have b := hb s1 [.ref a] I1.kIn rfl
    refine wpAny_call (codeAny_mono (hf c Y.A Y.stack s1 F H1 ⟨[.ref a], []⟩ Q (fun _ _ _ => False) (a, oe) ⟨hr.dp, hr.un⟩ hot hpin hz I1.env0 b i0 hq) fun r s' hc => ?_)
    cases r with
    | error e =>
      obtain ⟨_, _, _, _, _, _, _, _, _, _, _, _, hc⟩ := hc
      exact hc.elim
    | ok fl =>
      cases fl with
      | ret u => exact I1.after hc
      | next => exact hc.elim
      | brk => exact hc.elim
      | cont => exact hc.elim
  · unfold xHot
    split
    · rename_i e0
      have e1 := sr.errAt e0
      intro Q q
      exact ⟨e1, F, sr.inn, q⟩
    · trivial
end
end Mg
namespace Mg
open PySem PySem.Spec PyProof.Rows L2 L2H
/-! ### the refusals of a law's text -/
def nmX : Xc → Str
  | .noMeter => "NoMeter"
  | .stands => "StandsAlready"
  | .notLater => "NotLater"
  | .noValue => "NoValue"
  | .noReading => "NoReading"
def xr_i : Xc → Xc := fun c => c
def xr_9 : Xc → Xc
  | .notLater => .notLater
  | _ => .noMeter
def adX (a b c d e : Addr) : Xc → Addr
  | .noMeter => a
  | .stands => b
  | .notLater => c
  | .noValue => d
  | .noReading => e
structure Ex5 (K : PySem.W.Frag) (mg : Str → Option Value) (cl : Xc → Addr) (cM : Addr) (xr : Xc → Xc) : Prop where
  ok : ∀ c, XcOk K mg (nmX (xr c)) (cl c)
  ec : ∀ c, ExcC K (cl c)
  kit : ∀ e c, xr c = c → PySem.W.kitOne K (.ref (cl e)) (.ref (cl c)) = some (decide (xr e = c))
  kv : ∀ e, PySem.W.kitOne K (.ref (cl e)) (.type "ValueError") = some true
  km : ∀ e, PySem.W.kitOne K (.ref (cl e)) (.ref cM) = some true
  gM : mg "MeterError" = some (.ref cM)
  tkM : ∀ e, PySem.W.exmOne K (.ref (cl e)) (.ref cM) = some true
theorem Ex5.tk {K : PySem.W.Frag} {mg : Str → Option Value} {cl : Xc → Addr} {cM : Addr} {xr : Xc → Xc} (T : Ex5 K mg cl cM xr) {X : Cx} (hK : X.K = K := by rfl) (hm : X.mg = mg := by rfl) (hg : Gl X "MeterError" := by rfl) : Takes5 X cl "MeterError" (.ref cM) := by
  subst hK hm
  exact ⟨⟨hg, by decide, .inl T.gM⟩, T.tkM⟩
theorem kit_ref {K : PySem.W.Frag} {t : Value} {C : Addr} {b : Bool} (hd : PySem.W.hasDictIn K C = true) (ht : PySem.W.typeIn K (.ref C) = some (.type "type")) (hs : PySem.W.subIn K t (.ref C) = some b) (he : (t == .ref C) = true → b = true) : PySem.W.kitOne K t (.ref C) = some b := by
  obtain ⟨cd, hc, _⟩ := PySem.W.any_some hd
  have e2 : ((PySem.W.clsIn K C).isSome && PySem.W.typeIn K (.ref C) == some (.type "type")) = true := by rw [hc, ht] <;> rfl
  unfold PySem.W.kitOne
  split
  · rename_i h
    rw [he h]
  · show (if ((PySem.W.clsIn K C).isSome && PySem.W.typeIn K (.ref C) == some (.type "type")) = true then PySem.W.subIn K t (.ref C) else none) = some b
    rw [if_pos e2]
    exact hs
theorem kit_val {K : PySem.W.Frag} {C : Addr} (hs : PySem.W.subIn K (.ref C) (.type "ValueError") = some true) : PySem.W.kitOne K (.ref C) (.type "ValueError") = some true := by
  unfold PySem.W.kitOne
  split
  · rfl
  · show (if PySem.W.kitMeta "ValueError" = true then PySem.W.subIn K (.ref C) (.type "ValueError") else none) = some true
    rw [if_pos (by decide +kernel)]
    exact hs
/-- what the text of one refusal's class says -/
structure Cls1 (K : PySem.W.Frag) (cM : Addr) (x : Str) (C : Addr) : Prop where
  a : PySem.W.nsIn K mainGlobals x = some (some (.ref C))
  x : PySem.W.excIn K C [.type "ValueError", .type "Exception", .type "BaseException", .type "object"] "ValueError.__new__" = true
  k : PySem.W.keepIn K (.ref C) = true
  b : PySem.W.subIn K (.ref C) (.type "BaseException") = some true
  t : PySem.W.typeIn K (.ref C) = some (.type "type")
  hg : PySem.W.findIn K (.ref C) "__getattribute__" = some (some (.builtin "BaseException.__getattribute__"))
  hk : PySem.W.findIn K (.ref C) "__getattr__" = some none
  hd : PySem.W.hasDictIn K C = true
  ha : PySem.W.findIn K (.ref C) "__class__" = some (some (.builtin "object.__class__"))
  hm : PySem.W.mroIn K C (.type "object") = some true
  v : PySem.W.subIn K (.ref C) (.type "ValueError") = some true
  m : PySem.W.subIn K (.ref C) (.ref cM) = some true
theorem ex5_mk {K : PySem.W.Frag} {h : Heap} {mg : Str → Option Value} {cM : Addr} (X : K.In h) (G : h.Ns mainGlobals mg) (ad : Xc → Addr) (xr : Xc → Xc) (hxr : ∀ c, xr (xr c) = xr c)
    (aM : PySem.W.nsIn K mainGlobals "MeterError" = some (some (.ref cM))) (bM : PySem.W.subIn K (.ref cM) (.type "BaseException") = some true) (dM : PySem.W.hasDictIn K cM = true) (tM : PySem.W.typeIn K (.ref cM) = some (.type "type"))
    (hn : PySem.W.specialIn K (.builtin "object.__class__") "__get__" = some (some (.builtin "getset_descriptor.__get__"))) (ht : PySem.W.takesIn K (.builtin "object.__class__") = some true)
    (F : ∀ c, Cls1 K cM (nmX (xr c)) (ad (xr c))) (S : ∀ e c, PySem.W.subIn K (.ref (ad (xr e))) (.ref (ad (xr c))) = some (decide (xr e = xr c))) : Ex5 K mg (fun c => ad (xr c)) cM xr where
  ok c := ⟨PySem.W.mg_of X G (F c).a, (F c).x, (F c).k, (F c).b, (F c).t⟩
  ec c := ⟨(F c).hg, (F c).hk, (F c).b, (F c).hd, (F c).ha, hn, ht, (F c).hm⟩
  kit e c h := kit_ref (F c).hd (F c).t (by rw [S e c, h]) (fun z => by
    have z1 : ad (xr e) = ad (xr c) := Value.ref.inj (beq_iff_eq.mp z)
    have z2 := S e c
    have z3 := S c c
    rw [z1, z3] at z2
    rw [decide_eq_true rfl] at z2
    rw [h] at z2
    exact (Option.some.inj z2).symm)
  kv e := kit_val (F e).v
  km e := kit_ref dM tM (F e).m (fun _ => rfl)
  gM := PySem.W.mg_of X G aM
  tkM e := PySem.W.exm_ref bM dM tM (F e).m
end Mg
namespace Mg
open PySem PySem.Spec PyProof.Rows L2
/-! ### a dict of the def's own -/
def keyOf : D → Option L2.Key
  | .int i => some (.inl i)
  | .str x => some (.inr x)
  | _ => none
def keyD : L2.Key → D
  | .inl i => .int i
  | .inr x => .str x
theorem kV_of {K : PySem.W.Frag} {F : Hp} {v : V} {d : D} {k : L2.Key} (r : Dp K F v d) (h : keyOf d = some k) : v = kV k := by
  cases r <;> first | (cases h; rfl) | cases h
abbrev Flds := List (L2.Key × Fld)
def getF (fs : Flds) (k : L2.Key) : Option D := match fs.find? fun f => decide (f.1 = k) with
  | some (_, .d d) => some d
  | _ => none
def isFd : Fld → Bool
  | .d _ => true
  | _ => false
def canPut (fs : Flds) (k : L2.Key) : Bool := fs.all fun f => !decide (f.1 = k) || isFd f.2
def putF (fs : Flds) (k : L2.Key) (d : D) : Flds := if (fs.any fun f => decide (f.1 = k)) = true then fs.map (fun f => if f.1 = k then (f.1, .d d) else f) else fs ++ [(k, .d d)]
section
variable {K : PySem.W.Frag} {B F H : Hp} {kvs : List (L2.Key × V)} {fs : Flds} {bs : List Addr} {k : L2.Key} {d : D} {v : V}
theorem FsOk.get (r : FsOk K B F H kvs fs bs) : getF fs k = some d → ∃ v, valV kvs k = some v ∧ Dp K F v d := by
  induction r with
  | nil => exact fun h => nomatch h
  | @d k' v' d' kvs fs bs rd _ ih =>
    intro h
    by_cases e : k' = k
    · unfold getF at h
      rw [List.find?_cons_of_pos (by simpa using e)] at h
      cases h
      exact ⟨v', valV_pos e, rd⟩
    · unfold getF at h
      rw [List.find?_cons_of_neg (by simpa using e)] at h
      rw [valV_neg e]
      exact ih h
  | @l k' b vs ds kvs fs bs hb hf hv rd _ ih =>
    intro h
    by_cases e : k' = k
    · unfold getF at h
      rw [List.find?_cons_of_pos (by simpa using e)] at h
      cases h
    · unfold getF at h
      rw [List.find?_cons_of_neg (by simpa using e)] at h
      rw [valV_neg e]
      exact ih h
theorem FsOk.any (r : FsOk K B F H kvs fs bs) : (kvs.any fun f => decide (f.1 = k)) = fs.any fun f => decide (f.1 = k) := by
  induction r with
  | nil => rfl
  | d _ _ ih => rw [List.any_cons, List.any_cons, ih]
  | l _ _ _ _ _ ih => rw [List.any_cons, List.any_cons, ih]
theorem FsOk.keys (r : FsOk K B F H kvs fs bs) : (kvs.map fun f => kV f.1) = fs.map fun f => kV f.1 := by
  induction r with
  | nil => rfl
  | d _ _ ih => rw [List.map_cons, List.map_cons, ih]
  | l _ _ _ _ _ ih => rw [List.map_cons, List.map_cons, ih]
theorem FsOk.length (r : FsOk K B F H kvs fs bs) : kvs.length = fs.length := by
  induction r with
  | nil => rfl
  | d _ _ ih => rw [List.length_cons, List.length_cons, ih]
  | l _ _ _ _ _ ih => rw [List.length_cons, List.length_cons, ih]
theorem FsOk.repl (rv : Dp K F v d) (r : FsOk K B F H kvs fs bs) : canPut fs k = true → FsOk K B F H (kvs.map fun f => if f.1 = k then (f.1, v) else f) (fs.map fun f => if f.1 = k then (f.1, .d d) else f) bs := by
  induction r with
  | nil => exact fun _ => .nil
  | @d k' v' d' kvs fs bs rd _ ih =>
    intro h
    have h2 : canPut fs k = true := (Bool.and_eq_true_iff.mp (show (_ && canPut fs k) = true from h)).2
    rw [List.map_cons, List.map_cons]
    by_cases e : k' = k
    · rw [if_pos e, if_pos e]
      exact .d rv (ih h2)
    · rw [if_neg e, if_neg e]
      exact .d rd (ih h2)
  | @l k' b vs ds kvs fs bs hb hf hv rd _ ih =>
    intro h
    have h2 := Bool.and_eq_true_iff.mp (show ((!decide (k' = k) || false) && canPut fs k) = true from h)
    have e : ¬ k' = k := by
      intro e
      have := h2.1
      rw [decide_eq_true e] at this
      cases this
    rw [List.map_cons, List.map_cons, if_neg e, if_neg e]
    exact .l hb hf hv rd (ih h2.2)
theorem FsOk.snoc (rv : Dp K F v d) (r : FsOk K B F H kvs fs bs) : FsOk K B F H (kvs ++ [(k, v)]) (fs ++ [(k, .d d)]) bs := by
  induction r with
  | nil => exact .d rv .nil
  | d rd _ ih => exact .d rd ih
  | l hb hf hv rd _ ih => exact .l hb hf hv rd ih
theorem FsOk.put (rv : Dp K F v d) (h : canPut fs k = true) (r : FsOk K B F H kvs fs bs) : FsOk K B F H (putK kvs k v) (putF fs k d) bs := by
  unfold putK putF
  rw [r.any]
  split
  · exact r.repl rv h
  · exact r.snoc rv
end
def xGet (i : Nat) (f : EX) : EX := fun env => match env[i]? with
  | some (.dic m fs) => (f env).bnd fun kd => (match (keyOf kd).bind (getF fs) with
    | some d => .ok d
    | none => .bad)
  | _ => .bad
def xKeys (i : Nat) : AX := fun env => match env[i]? with
  | some (.dic m fs) => .ok (fs.map fun f => keyD f.1)
  | _ => .bad
def sNewD (i : Nat) : SX := fun env => .nx (env.set i (.dic none []))
def oPutD (i : Nat) (m : Option (Addr × List Addr)) (fs : Flds) (d : D) (env : Env) (kd : D) : Out := match keyOf kd with
  | some k => if canPut fs k = true ∧ fs.length < 100000 then .nx (env.set i (.dic m (putF fs k d))) else .bad
  | none => .bad
def sPutD (i : Nat) (fk f : EX) : SX := fun env => match env[i]? with
  | some (.dic m fs) => (f env).thn env fun d => (fk env).thn env (oPutD i m fs d env)
  | _ => .bad
section
variable {X : Cx} {W : Wx} {f g : EX} {b e : Expr} {pos : Pos}
theorem se_get (i : Nat) {x : Str} {p2 : Pos} (hu : X.A.units + 64 < cLine) (hb : SE X W b g) (hs : NoSl b) (hN : X.N[i]? = some x := by rfl) (hv : Vis X.env.scope x := by first | exact Or.inl rfl | exact Or.inr (Or.inl rfl) | exact Or.inr (Or.inr rfl)) (hd : (x == ("__debug__" : Str)) = false := by decide)
    (hcd : (x == ("__classdict__" : Str)) = false := by decide) : SE X W (.Subscript (.Name x p2) b pos) (xGet i g) := by
  obtain ⟨tb, pb, gb⟩ := hb
  refine ⟨_, pe_dget (by omega) (pe_var hN hv hd hcd) pb hs, fun BF B env σ F H sr => ?_⟩
  unfold xGet
  split
  · rename_i m fs e
    obtain ⟨a, kvs, bs, e1, _, fn, e2, r⟩ := sr.dicAt e
    have q0 : Ret (RD X.K) W σ F H ((g env).bnd fun kd => match (keyOf kd).bind (getF fs) with | some d => .ok d | none => .bad) (fun Q => tb σ H fun y H2 => ∃ a' v, V.ref a = .ref a' ∧ DGet H2 a' y (some v) ∧ Q v H2) := by
      refine Ret.bnd (R := RD X.K) (R' := RD X.K) (gb _ _ _ _ _ _ sr) (fun _ _ _ _ _ _ h => h) sr.inn (T' := fun y H2 Q => ∃ a' v, V.ref a = .ref a' ∧ DGet H2 a' y (some v) ∧ Q v H2) fun d v F1 H1 _ st rd => ?_
      cases e3 : (keyOf d).bind (getF fs) with
      | none => trivial
      | some z =>
        obtain ⟨k, e4, e5⟩ := Option.bind_eq_some_iff.mp e3
        obtain ⟨u, e6, ru⟩ := r.get e5
        have ek := kV_of rd e4
        subst ek
        refine ret_of st.inn (fun Q q => ⟨a, u, rfl, ?_, q⟩) (dp_mono st.fr ru)
        rw [← e6]
        exact DGet.k (st.pv _ _ e2 fn).2
    cases e3 : (g env).bnd fun kd => match (keyOf kd).bind (getF fs) with | some d => An.ok d | none => .bad with
    | bad => trivial
    | ok z =>
      rw [e3] at q0
      exact fun Q q => ⟨_, e1, q0 Q q⟩
    | exc c =>
      rw [e3] at q0
      exact fun Q q => ⟨_, e1, q0 Q q⟩
  · trivial
theorem keyD_ok {K : PySem.W.Frag} {F : Hp} : ∀ fs : Flds, DpAll K F (fs.map fun f => kV f.1) (fs.map fun f => keyD f.1)
  | [] => .nil
  | (.inl i, _) :: r => .cons (.int i) (keyD_ok r)
  | (.inr x, _) :: r => .cons (.str x) (keyD_ok r)
theorem sl_keys (i : Nat) {x : Str} {p p2 : Pos} (hc : X.calm = true) (hm : X.mg "list" = none) (hN : X.N[i]? = some x := by rfl) (hv : Vis X.env.scope x := by first | exact Or.inl rfl | exact Or.inr (Or.inl rfl) | exact Or.inr (Or.inr rfl)) (hd : (x == ("__debug__" : Str)) = false := by decide)
    (hcd : (x == ("__classdict__" : Str)) = false := by decide) (hg : Gl X "list" := by rfl) (hs : starEach [.Name x p2] X.env = (false, eval (.Name x p2) X.env) :: starEach [] X.env := by rfl) (hpl : (backTo pos (starEach [] X.env)).any (·.1) = false := by rfl) :
    SL X W (.Call (.Name "list" p) [.Name x p2] [] pos) (xKeys i) := by
  refine ⟨_, pe_callTy (call_list_dK hc) hg hm (by decide +kernel) (pa_cons (pe_var hN hv hd hcd) pa_nil hs) (by decide) (by decide) hs hpl, fun BF B env σ F H sr => ?_⟩
  unfold xKeys
  split
  · rename_i m fs e
    obtain ⟨a, kvs, bs, e1, _, fn, e2, r⟩ := sr.dicAt e
    intro Q q
    refine ⟨_, e1, a, kvs, rfl, e2, fun l hl => ?_⟩
    refine q _ F _ (Step.priv sr.inn hl) ⟨l, _, rfl, hl, none_of_same sr.inn hl, upd_same, ?_⟩
    rw [r.keys]
    exact keyD_ok fs
  · trivial
theorem ss_newD (i : Nat) {x : Str} {pos' spos : Pos} (nd : X.N.Nodup) (hi : X.N[i]? = some x := by rfl) (hx : Loc X.env.scope x := by first | exact Or.inl rfl | exact Or.inr rfl) (hs : swapsWith (.Dict [] [] pos) (some (.Name x pos')) spos.line X.env = pure false := by rfl) (hf : X.fn x = true ∨ X.env.scope.names.lookup x = some .local := by first | exact .inl rfl | exact .inr rfl) :
    SS X W (.Assign [.Name x pos'] (.Dict [] [] pos) spos) (sNewD i) := by
  refine ⟨_, ps_set nd hi hx pe_dnewK hs hf, fun BF B env σ F H E sr h => ?_⟩
  intro p hp
  have t : Step F H F (upd H p (.dK [])) := Step.priv sr.inn hp
  refine h _ F _ (Same.refl F) (sr.setDic (bs := []) t (by simp) (fun c hc => ?_) (fun c hc => ?_) (none_of_same sr.inn hp) upd_same .nil)
  · rw [List.mem_singleton.mp hc]
    exact hp
  · rw [List.mem_singleton.mp hc]
    exact ⟨_, upd_same⟩
theorem ss_putD (i : Nat) {x : Str} {p tpos : Pos} {ek : Expr} (hu : X.A.units + 64 < cLine) (he : SE X W e f) (hk : SE X W ek g) (hN : X.N[i]? = some x := by rfl) (hv : Vis X.env.scope x := by first | exact Or.inl rfl | exact Or.inr (Or.inl rfl) | exact Or.inr (Or.inr rfl)) (hd : (x == ("__debug__" : Str)) = false := by decide) (hcd : (x == ("__classdict__" : Str)) = false := by decide)
    (hs : swapsWith e (some (.Subscript (.Name x p) ek tpos)) pos.line X.env = pure false := by rfl) : SS X W (.Assign [.Subscript (.Name x p) ek tpos] e pos) (sPutD i g f) := by
  obtain ⟨t, pt, r⟩ := he
  obtain ⟨tk, pk, rk⟩ := hk
  refine ⟨_, ps_dput (by omega) (pe_var hN hv hd hcd) pk pt hs, fun BF B env σ F H E sr h => ?_⟩
  unfold sPutD at h
  split at h
  · rename_i m fs e0
    refine Ret.stm (T' := fun v H1 => tVar i σ H1 fun x H2 => tk σ H2 fun y H3 => ∃ a H4, x = .ref a ∧ DPut H3 a y v H4 ∧ E.nx σ H4) (r _ _ _ _ _ _ sr) sr h fun d v F1 H1 _ st rd hp => ?_
    have sr1 := sr.step st
    obtain ⟨a, kvs, bs, e1, bn, fn, e2, rv⟩ := sr1.dicAt e0
    refine ⟨_, e1, ?_⟩
    refine Ret.stm (F := F1) (T' := fun y H3 => ∃ a' H4, V.ref a = .ref a' ∧ DPut H3 a' y v H4 ∧ E.nx σ H4) (rk _ _ _ _ _ _ sr1) sr1 (Post.mono hp st.fr) fun kd kv F2 H2 _ st2 rd2 hp2 => ?_
    have hp2 : Post (kx X) W BF B E F1 (match keyOf kd with | some k => if canPut fs k = true ∧ fs.length < 100000 then .nx (env.set i (.dic m (putF fs k d))) else .bad | none => .bad) := hp2
    cases e3 : keyOf kd with
    | none =>
      rw [e3] at hp2
      exact hp2.elim
    | some k =>
      rw [e3] at hp2
      have hp2 : Post (kx X) W BF B E F1 (if canPut fs k = true ∧ fs.length < 100000 then .nx (env.set i (.dic m (putF fs k d))) else .bad) := hp2
      split at hp2
      · rename_i hc
        have ek := kV_of rd2 e3
        subst ek
        have e4 := (st2.pv _ _ e2 fn).2
        refine ⟨a, _, rfl, DPut.k e4 (by rw [rv.length, sizeLine_eq]; have := hc.2; omega), ?_⟩
        exact hp2 σ F2 _ st2.fr ((sr1.step st2).mutDic e0 e1 e4 fun bs0 r0 => r0.put (dp_mono st2.fr rd) hc.1)
      · exact hp2.elim
  · exact h.elim
end
end Mg
namespace Mg
open PySem PySem.Spec PyProof.Rows L2
/-! ### a def that hands back a list of its own, in a tuple -/
def RO (K : PySem.W.Frag) (H F' H' : Hp) (v : V) (ds : List D) (d : D) : Prop := ∃ t p vs w, v = .ref t ∧ H p = none ∧ F' p = none ∧ H' t = some (.tup [.ref p, w]) ∧ H' p = some (.lst vs) ∧ DpAll K F' vs ds ∧ Dp K F' w d
def SpO (K : PySem.W.Frag) (F H : Hp) (Q : VK) : An (List D × D) → Prop
  | .ok x => ∀ v F' H', Step F H F' H' → RO K H F' H' v x.1 x.2 → Q v H'
  | _ => False
def spGO (K : PySem.W.Frag) (n : Nat) (spec : List D → An (List D × D)) : Sp := fun vs H Q _ =>
  ∃ F ds, Same F H ∧ DpAll K F vs ds ∧ ds.length = n ∧ SpO K F H Q (spec ds)
def FGO (P : Program) (w : World) (K : PySem.W.Frag) (mg : Str → Option Value) (base : Heap) (x : Str) (k n : Nat) (spec : List D → An (List D × D)) : Prop :=
  ∃ f fd ps, FnOk P w K mg base (L2N.CX P w) k f fd ps (spGO K n spec) ∧ mg x = some (.ref f) ∧ PySem.W.keepIn K (.ref f) = true ∧ Binds K fd ps [] ∧ ∀ ds, ds.length ≠ n → spec ds = .bad
def runDefO (nN np : Nat) (body : SX) (ds : List D) : An (List D × D) :=
  if ds.length = np then (match body (ds.map Slot.val ++ List.replicate (nN - np) Slot.un) with
    | .rtE (.pair i d) env => (match env[i]? with
      | some (.own es) => .ok (es, d)
      | _ => .bad)
    | _ => .bad) else .bad
def sRetP (i : Nat) (g : EX) : SX := fun env => match env[i]? with
  | some (.own _) => (g env).thn env fun d => .rtE (.pair i d) env
  | _ => .bad
def sAsgO (i j : Nat) (spec : List D → An (List D × D)) (fs : AX) : SX := fun env => (fs env).thn env fun ds => match spec ds with
  | .ok x => .nx ((env.set i (.own x.1)).set j (.val x.2))
  | _ => .bad
section
variable {X : Cx} {W : Wx} {e : Expr} {es : List Expr} {f g : EX} {fs : AX} {pos : Pos} {cl : Xc → Addr}
theorem ss_retP (i : Nat) {x : Str} {p2 pt : Pos} {k2} {b : Expr} (hb : SE X W b g) (hN : X.N[i]? = some x := by rfl) (hv : Vis X.env.scope x := by first | exact Or.inl rfl | exact Or.inr (Or.inl rfl) | exact Or.inr (Or.inr rfl)) (hd : (x == ("__debug__" : Str)) = false := by decide) (hcd : (x == ("__classdict__" : Str)) = false := by decide)
    (hs : starEach [.Name x p2, b] X.env = (false, eval (.Name x p2) X.env) :: starEach [b] X.env := by rfl) (hs2 : starEach [b] X.env = (false, eval b X.env) :: starEach [] X.env := by rfl) :
    SS X W (.Return (some (.Tuple [.Name x p2, b] k2 pt)) pos) (sRetP i g) := by
  obtain ⟨tb, pb, rb⟩ := hb
  refine ⟨_, ps_ret (pe_tup (pa_cons (pe_var hN hv hd hcd) (pa_cons pb pa_nil hs2) hs)), fun BF B env σ F H E sr h => ?_⟩
  unfold sRetP at h
  split at h
  · rename_i ds e0
    obtain ⟨a, vs, e1, bn, fn, e2, r⟩ := sr.own e0
    refine ⟨_, e1, ?_⟩
    refine Ret.stm (T' := fun w H1 => ([V.ref a, w] : List V).length ≤ sizeLine ∧ ∀ p, H1 p = none → E.rt (V.ref p) (upd H1 p (HO.tup [V.ref a, w]))) (rb _ _ _ _ _ _ sr) sr h fun d w F1 H1 _ st rd hp => ⟨by rw [sizeLine_eq]; show 2 ≤ _; decide, fun p hn => ?_⟩
    have sr1 := sr.step st
    have t : Step F1 H1 F1 (upd H1 p (HO.tup [V.ref a, w])) := Step.priv sr1.inn hn
    exact hp _ σ F1 _ st.fr (sr1.step t) ⟨p, a, w, rfl, e1, sr1.bs.free hn, sr1.inn.free hn, upd_same, rd⟩
  · exact h.elim
theorem ss_asgO (i j : Nat) {x xi xj : Str} {p pi pj pt : Pos} {kt} {k n : Nat} {spec : List D → An (List D × D)} {cpos : Pos} (nd : X.N.Nodup) (G : FGO X.prog X.w X.K X.mg X.base x k n spec) (hc : X.calm = true) (hr : Room k X.A) (tk : L2N.Takes X (wx cl W)) (ha : SA X W (e :: es) fs) (hg : Gl X x := by rfl) (hdb : (x == ("__debug__" : Str)) = false := by decide)
    (he : starEach (e :: es) X.env = (false, eval e X.env) :: starEach es X.env := by rfl) (hpl : (backTo cpos (starEach es X.env)).any (·.1) = false := by rfl)
    (hpg : PG X (.Tuple [.Name xi pi, .Name xj pj] kt pt) (gTup X.K 2 (gNames [i, j])) := by exact pg_tup rfl (pgs_names_cons (by assumption) (pgs_names_cons (by assumption) pgs_names_nil)))
    (hs : swapsWithSole [.Tuple [.Name xi pi, .Name xj pj] kt pt] (.Call (.Name x p) (e :: es) [] cpos) pos.line X.env = pure false := by rfl) (hw : swappedStores [.Tuple [.Name xi pi, .Name xj pj] kt pt] (.Call (.Name x p) (e :: es) [] cpos) X.env = pure none := by rfl)
    (h1 : (assignEach [.Tuple [.Name xi pi, .Name xj pj] kt pt] X.env).map (·.2) = [assign (.Tuple [.Name xi pi, .Name xj pj] kt pt) X.env] := by rfl) :
    SS X W (.Assign [.Tuple [.Name xi pi, .Name xj pj] kt pt] (.Call (.Name x p) (e :: es) [] cpos) pos) (sAsgO i j spec fs) := by
  obtain ⟨t, pt', rt⟩ := ha
  obtain ⟨f, fd, ps, Fk, hm, hk, hb, hlen⟩ := G
  refine ⟨_, ps_asg (pe_callS Fk hr hg hm hk hb (fun σ => L2N.passAt tk σ) pt' hdb he hpl) hpg hs hw h1, fun BF B env σ F H E sr h => ?_⟩
  refine Ret.stm (R := RA X.K) (T' := fun vs H1 => spGO X.K n spec vs H1 (fun v H2 => gTup X.K 2 (gNames [i, j]) v σ H2 E.nx) (WE (wx cl W) σ)) (rt _ _ _ _ _ _ sr) sr h fun ds vs F1 H1 _ st rd hp => ?_
  have hp : Post (kx X) W BF B E F (match spec ds with | .ok x => .nx ((env.set i (.own x.1)).set j (.val x.2)) | _ => .bad) := hp
  cases e1 : spec ds with
  | bad =>
    rw [e1] at hp
    exact hp.elim
  | exc c =>
    rw [e1] at hp
    exact hp.elim
  | ok x =>
    rw [e1] at hp
    refine ⟨F1, ds, st.inn, rd, ?_, ?_⟩
    · by_cases hl : ds.length = n
      · exact hl
      · rw [hlen ds hl] at e1
        cases e1
    · rw [e1]
      rintro v F' H' st2 ⟨t', p', vs', w, rfl, hn, fn, ht, hq, r1, r2⟩
      refine ⟨t', [V.ref p', w], rfl, .inl (.inl ht), rfl, _, _, rfl, _, _, rfl, rfl, ?_⟩
      exact hp _ F' H' (st.fr.trans st2.fr) (((sr.step st).setOwn st2 hn fn hq r1).set r2)
end
section
variable {P : Program} {w : World} {K : PySem.W.Frag} {mg : Str → Option Value} {base : Heap} {cl : Xc → Addr}
theorem def_okO {x : Str} {st : Stmt} {f : Addr} {fd : FuncData} {N ps : List Str} {k : Nat} {body : SX} (Fn : Fun K x x st f fd) (hm : mg x = some (.ref f)) (hb : Binds K fd ps []) (S : FnScope N ps (defScope st))
    (hbody : ∀ (cdv : Value) (A : Around) (outer : List PySem.Env) (s : Shared) (H : Hp) (E : XK), Room k (A.deeper (envOfC x (defScope st) s.heap.objs.size f cdv)) → SSs (cxOf (L2N.CX P w) P w K mg base N x (defScope st) f cdv A outer s H E) (dW cl E) (defBody st) body) :
    FGO P w K mg base x (k + 1) ps.length (runDefO N.length ps.length body) := by
  have hk := Fn.kp
  obtain ⟨oc, od, kV, doc, pm, an, cdv, ct, osl, rfl, lk, hcd⟩ := Fn.ex
  refine ⟨f, _, ps, fn_of lk hcd S (fun vs H Q E h => ?_) (fun A outer s H vs Q E hr h => ?_), hm, hk, hb, fun ds h => if_neg h⟩
  · obtain ⟨F, ds, _, r, hl, _⟩ := h
    rw [dps_len r, hl]
  · obtain ⟨F, ds, i, r, hl, q⟩ := h
    obtain ⟨t, pt, rt⟩ := hbody cdv A outer s H E hr
    refine ⟨t, pt, rt F H _ _ F H _ (start_sr i r) ?_⟩
    unfold runDefO at q
    rw [if_pos hl] at q
    rw [← hl] at q
    cases e : body (ds.map Slot.val ++ List.replicate (N.length - ds.length) Slot.un) with
    | rtE rk env =>
      rw [e] at q
      cases rk with
      | val d => exact q.elim
      | pair j d =>
        have q : SpO K F H Q (match env[j]? with | some (.own es) => .ok (es, d) | _ => .bad) := q
        intro v σ F1 H1 s1 sr1 re
        cases ee : env[j]? with
        | none =>
          rw [ee] at q
          exact q.elim
        | some sl =>
          rw [ee] at q
          cases sl with
          | own es =>
            obtain ⟨a, vs, e1, bn, fn, e2, r2⟩ := sr1.own ee
            obtain ⟨t', a', w', rfl, e3, bt, ft, ht, rw'⟩ := re
            rw [e1] at e3
            cases e3
            exact q _ F1 H1 sr1.stp ⟨t', a, vs, w', rfl, bn, fn, ht, e2, r2, rw'⟩
          | _ => exact q.elim
    | _ =>
      rw [e] at q
      exact q.elim
end
end Mg
namespace Mg
open PySem PySem.Spec PyProof.Rows L2
/-! ### a dict whose fields are lists of its own: reading through a frozen view -/
def frzF : Fld → Fld
  | .l ds => .d (.list ds)
  | f => f
def frzFs (fs : Flds) : Flds := fs.map fun f => (f.1, frzF f.2)
theorem FsOk.addr {K : PySem.W.Frag} {B F H : Hp} {kvs : List (L2.Key × V)} {fs : Flds} {bs : List Addr} (r : FsOk K B F H kvs fs bs) : ∀ b ∈ bs, B b = none ∧ F b = none ∧ ∃ vs, H b = some (.lst vs) := by
  induction r with
  | nil => exact fun b hb => nomatch hb
  | d _ _ ih => exact ih
  | l hb hf hv _ _ ih =>
    intro c hc
    rcases List.mem_cons.mp hc with rfl | hc
    · exact ⟨hb, hf, _, hv⟩
    · exact ih c hc
theorem FsOk.view {K : PySem.W.Frag} {B F H Fs : Hp} {kvs : List (L2.Key × V)} {fs : Flds} {bs : List Addr} (fr : Same F Fs) (r : FsOk K B F H kvs fs bs) : (∀ b ∈ bs, Fs b = H b) → FsOk K B Fs H kvs (frzFs fs) [] := by
  induction r with
  | nil => exact fun _ => .nil
  | d rd _ ih => exact fun h => .d (dp_mono fr rd) (ih h)
  | l hb hf hv rd _ ih => exact fun h => .d (.lst (SqL.of ((h _ List.mem_cons_self).trans hv)) (dps_mono fr rd)) (ih fun b hb => h b (List.mem_cons_of_mem _ hb))
def viewH (F H : Hp) (bs : List Addr) : Hp := fun c => if c ∈ bs then H c else F c
def cutH (F : Hp) (bs : List Addr) : Hp := fun c => if c ∈ bs then none else F c
section
variable {k : KX} {BF B F H F' H' : Hp} {env : Env} {σ : St} {i : Nat} {fs : Flds}
theorem SR.view {m : Option (Addr × List Addr)} (s : SR k BF B env σ F H) (e : env[i]? = some (.dic m fs)) : ∃ bs, (∀ b ∈ bs, F b = none) ∧ SR k BF B (env.set i (.dic none (frzFs fs))) σ (viewH F H bs) H := by
  obtain ⟨O, h1, h2, h3⟩ := s.slots
  obtain ⟨a, kvs, bs, e1, nd, oa, hb, hf, e2, _, r⟩ := h1 i _ e
  have ad := r.addr
  have fr : Same F (viewH F H bs) := fun c o q => by
    unfold viewH
    rw [if_neg (fun z => by rw [(ad c z).2.1] at q; cases q)]
    exact q
  have na : ¬ a ∈ bs := (List.nodup_cons.mp nd).1
  refine ⟨bs, fun b hb => (ad b hb).2.1, by rw [List.length_set]; exact s.len, ⟨s.stp.fr.trans fr, fun c o q => ?_, fun c o q n => ?_⟩, s.bse, O, fun j x ej => ?_, h2, h3⟩
  · unfold viewH at q
    split at q
    · exact q
    · exact s.stp.inn c o q
  · obtain ⟨z1, z2⟩ := s.stp.pv c o q n
    refine ⟨?_, z2⟩
    unfold viewH
    rw [if_neg (fun z => by rw [(ad c z).1] at q; cases q)]
    exact z1
  · rcases get_set_eq ej with ⟨rfl, rfl, hl⟩ | ⟨hj, ej⟩
    · refine ⟨a, kvs, [], e1, by simp, fun c hc => oa c (by rw [List.mem_singleton.mp hc]; exact List.mem_cons_self), hb, ?_, e2, fun _ z => (nomatch z), r.view fr fun b hb => ?_⟩
      · unfold viewH
        rw [if_neg na]
        exact hf
      · unfold viewH
        rw [if_pos hb]
    · refine (h1 j x ej).move fr (fun _ z => z) fun c hc o z1 z2 => ⟨?_, z2⟩
      unfold viewH
      rw [if_neg (fun z => hj (h2 _ _ _ (oa c (List.mem_cons_of_mem _ z)) hc))]
      exact z1
theorem Step.cut {bs : List Addr} (hn : ∀ b ∈ bs, F b = none) (t : Step (viewH F H bs) H F' H') (i : Same (viewH F H bs) H) : Step F H (cutH F' bs) H' := by
  refine ⟨fun c o q => ?_, fun c o q => ?_, fun c o q n => ?_⟩
  · have hc : ¬ c ∈ bs := fun z => by
      rw [hn c z] at q
      cases q
    unfold cutH
    rw [if_neg hc]
    refine t.fr c o ?_
    unfold viewH
    rw [if_neg hc]
    exact q
  · unfold cutH at q
    split at q
    · cases q
    · exact t.inn c o q
  · by_cases hc : c ∈ bs
    · have z : viewH F H bs c = some o := by
        unfold viewH
        rw [if_pos hc]
        exact q
      refine ⟨?_, t.inn c o (t.fr c o z)⟩
      unfold cutH
      rw [if_pos hc]
    · have z : viewH F H bs c = none := by
        unfold viewH
        rw [if_neg hc]
        exact n
      obtain ⟨z1, z2⟩ := t.pv c o q z
      refine ⟨?_, z2⟩
      unfold cutH
      rw [if_neg hc]
      exact z1
end
def xBor (i : Nat) (f : EX) : EX := fun env => match env[i]? with
  | some (.dic m fs) => (match f (env.set i (.dic none (frzFs fs))) with
    | .ok d => if flatD d = true then .ok d else .bad
    | _ => .bad)
  | _ => .bad
def tBor (i : Nat) (c : TX) : TX := fun env => match env[i]? with
  | some (.dic m fs) => (match c (env.set i (.dic none (frzFs fs))) with
    | .ok b => .ok b
    | _ => .bad)
  | _ => .bad
theorem dp_flat {K : PySem.W.Frag} {F F' : Hp} {v : V} {d : D} (r : Dp K F v d) (f : flatD d = true) : Dp K F' v d := by
  cases r with
  | non => exact .non
  | bl b => exact .bl b
  | int j => exact .int j
  | str x => exact .str x
  | lst _ _ => cases f
  | tup _ _ => cases f
section
variable {X : Cx} {W : Wx} {f g : EX} {e : Expr} {pos : Pos} {c : TX}
/-- an expression that answers with a scalar may read the dict's lists -/
theorem se_bor (i : Nat) (he : SE X W e f) : SE X W e (xBor i f) := by
  obtain ⟨t, p, r⟩ := he
  refine ⟨t, p, fun BF B env σ F H sr => ?_⟩
  unfold xBor
  split
  · rename_i m fs e0
    obtain ⟨bs, hn, srv⟩ := sr.view e0
    have q := r BF B _ σ _ H srv
    cases e1 : f (env.set i (.dic none (frzFs fs))) with
    | bad => trivial
    | exc c => trivial
    | ok d =>
      rw [e1] at q
      show Ret _ _ _ _ _ (if flatD d = true then An.ok d else .bad) _
      split
      · rename_i hf
        exact fun Q hq => q Q fun v F' H' st rd => hq v (cutH F' bs) H' (st.cut hn srv.inn) (dp_flat rd hf)
      · trivial
  · trivial
theorem st_bor (i : Nat) (he : ST X W e c) : ST X W e (tBor i c) := by
  obtain ⟨t, p, r⟩ := he
  refine ⟨t, p, fun BF B env σ F H sr => ?_⟩
  unfold tBor
  split
  · rename_i m fs e0
    obtain ⟨bs, hn, srv⟩ := sr.view e0
    have q := r BF B _ σ _ H srv
    cases e1 : c (env.set i (.dic none (frzFs fs))) with
    | bad => trivial
    | exc c => trivial
    | ok d =>
      rw [e1] at q
      exact fun Q hq => q Q fun v F' H' st rd => hq v (cutH F' bs) H' (st.cut hn srv.inn) rd
  · trivial
end
end Mg
namespace Mg
open PySem PySem.Spec PyProof.Rows L2
/-! ### s[k].append(e), s a dict of the def's own -/
def getL : Flds → L2.Key → Option (List D)
  | [], _ => none
  | (k', .l ds) :: r, k => if k' = k then some ds else getL r k
  | (k', .d _) :: r, k => if k' = k then none else getL r k
def appF : Flds → L2.Key → D → Flds
  | [], _, _ => []
  | (k', .l ds) :: r, k, d => if k' = k then (k', .l (ds ++ [d])) :: r else (k', .l ds) :: appF r k d
  | (k', .d x) :: r, k, d => if k' = k then (k', .d x) :: r else (k', .d x) :: appF r k d
section
variable {K : PySem.W.Frag} {B F H : Hp} {kvs : List (L2.Key × V)} {fs : Flds} {bs : List Addr} {k : L2.Key} {d : D} {v : V} {ds : List D}
theorem FsOk.getL (r : FsOk K B F H kvs fs bs) : Mg.getL fs k = some ds → ∃ b vs, valV kvs k = some (.ref b) ∧ b ∈ bs ∧ H b = some (.lst vs) ∧ DpAll K F vs ds := by
  induction r with
  | nil => exact fun h => nomatch h
  | @d k' v' d' kvs fs bs rd _ ih =>
    intro h
    have h : (if k' = k then none else Mg.getL fs k) = some ds := h
    split at h
    · cases h
    · rename_i e
      rw [valV_neg e]
      exact ih h
  | @l k' b vs ds' kvs fs bs hb hf hv rd _ ih =>
    intro h
    have h : (if k' = k then some ds' else Mg.getL fs k) = some ds := h
    split at h
    · rename_i e
      cases h
      exact ⟨b, vs, valV_pos e, List.mem_cons_self, hv, rd⟩
    · rename_i e
      rw [valV_neg e]
      obtain ⟨b', vs', i1, i2, i3, i4⟩ := ih h
      exact ⟨b', vs', i1, List.mem_cons_of_mem _ i2, i3, i4⟩
theorem FsOk.app {b : Addr} {vs : List V} (rv : Dp K F v d) (hvs : H b = some (.lst vs)) (rds : DpAll K F vs ds) (r : FsOk K B F H kvs fs bs) : bs.Nodup → Mg.getL fs k = some ds → valV kvs k = some (.ref b) → FsOk K B F (upd H b (.lst (vs ++ [v]))) kvs (appF fs k d) bs := by
  induction r with
  | nil => exact fun _ h => nomatch h
  | @d k' v' d' kvs fs bs rd r0 ih =>
    intro nd h hv
    have h : (if k' = k then none else Mg.getL fs k) = some ds := h
    split at h
    · cases h
    · rename_i e
      rw [valV_neg e] at hv
      show FsOk K B F _ ((k', v') :: kvs) (if k' = k then (k', .d d') :: fs else (k', .d d') :: appF fs k d) bs
      rw [if_neg e]
      exact .d rd (ih nd h hv)
  | @l k' b0 vs0 ds0 kvs fs bs hb hf hv0 rd r0 ih =>
    intro nd h hv
    obtain ⟨nb, nd⟩ := List.nodup_cons.mp nd
    have h : (if k' = k then some ds0 else Mg.getL fs k) = some ds := h
    show FsOk K B F _ ((k', .ref b0) :: kvs) (if k' = k then (k', .l (ds0 ++ [d])) :: fs else (k', .l ds0) :: appF fs k d) (b0 :: bs)
    split at h
    · rename_i e
      cases h
      rw [valV_pos e] at hv
      have eb : b0 = b := V.ref.inj (Option.some.inj hv)
      subst eb
      rw [if_pos e]
      refine .l hb hf upd_same (dps_app rds (.cons rv .nil)) (r0.move (Same.refl _) fun c hc o z1 z2 => ⟨z1, ?_⟩)
      rw [upd_ne (show c ≠ b0 from fun z => nb (by rw [← z]; exact hc))]
      exact z2
    · rename_i e
      rw [valV_neg e] at hv
      rw [if_neg e]
      obtain ⟨b', vs', i1, i2, _, _⟩ := r0.getL h
      rw [hv] at i1
      cases i1
      refine .l hb hf ?_ rd (ih nd h hv)
      rw [upd_ne (show b0 ≠ b from fun z => nb (by rw [z]; exact i2))]
      exact hv0
end
theorem SR.appF {m : Option (Addr × List Addr)} {k : KX} {BF B F H : Hp} {env : Env} {σ : St} {i : Nat} {fs : Flds} {kk : L2.Key} {ds : List D} {d : D} {v : V} (s : SR k BF B env σ F H) (e : env[i]? = some (.dic m fs)) (hg : getL fs kk = some ds) (rv : Dp k.1 F v d) :
    ∃ a b kvs vs, σ[i]? = some (some (.ref a)) ∧ H a = some (.dK kvs) ∧ valV kvs kk = some (.ref b) ∧ F b = none ∧ H b = some (.lst vs) ∧ DpAll k.1 F vs ds ∧ SR k BF B (env.set i (.dic m (appF fs kk d))) σ F (upd H b (.lst (vs ++ [v]))) := by
  obtain ⟨O, h1, h2, h3⟩ := s.slots
  obtain ⟨a, kvs, bs, e1, nd, oa, hb, hf, e2, hm, r⟩ := h1 i _ e
  obtain ⟨b, vs, i1, i2, i3, i4⟩ := r.getL hg
  obtain ⟨b1, b2, _⟩ := r.addr b i2
  obtain ⟨na, nd2⟩ := List.nodup_cons.mp nd
  refine ⟨a, b, kvs, vs, e1, e2, i1, b2, i3, i4, s.mutAt h1 h2 h3 (oa b (List.mem_cons_of_mem _ i2)) b1 b2 ⟨a, kvs, bs, e1, nd, oa, hb, hf, ?_, hm, r.app rv i3 i4 nd2 hg i1⟩⟩
  rw [upd_ne (show a ≠ b from fun z => na (by rw [z]; exact i2))]
  exact e2
def sAppF (i : Nat) (k : L2.Key) (f : EX) : SX := fun env => match env[i]? with
  | some (.dic m fs) => (match getL fs k with
    | some ds => (f env).thn env fun d => if ds.length ≤ 100000 then .nx (env.set i (.dic m (appF fs k d))) else .bad
    | none => .bad)
  | _ => .bad
section
variable {X : Cx} {W : Wx} {f g : EX} {e : Expr} {pos : Pos}
theorem ss_appF (i : Nat) {x kz : Str} {j : Nat} {p pk ps apos cpos : Pos} (hu : X.A.units + 64 < cLine) (he : SE X W e f) (hN : X.N[i]? = some x := by rfl) (hv : Vis X.env.scope x := by first | exact Or.inl rfl | exact Or.inr (Or.inl rfl) | exact Or.inr (Or.inr rfl)) (hd : (x == ("__debug__" : Str)) = false := by decide) (hcd : (x == ("__classdict__" : Str)) = false := by decide)
    (hbase : attributeBase (.Subscript (.Name x p) (.Constant (.str kz) j pk) ps) "append" X.env (eval (.Subscript (.Name x p) (.Constant (.str kz) j pk) ps) X.env) = eval (.Subscript (.Name x p) (.Constant (.str kz) j pk) ps) X.env := by rfl)
    (hfew : ((backTo cpos (starEach [e] X.env)).all (fun x => !x.1) && (backToKw cpos (keywordEach [] X.env)).all (fun x => x.1.isSome) && decide (([e] : List Expr).length + ([] : List Keyword).length + (if ([] : List Keyword).isEmpty then 0 else 1) < 30)) = true := by rfl)
    (hline : (apos.endLine == cpos.line) = true := by rfl) (hs : starEach [e] X.env = (false, eval e X.env) :: starEach [] X.env := by rfl) (hplain : (backTo cpos (starEach [] X.env)).any (·.1) = false := by rfl)
    (hsw : swapsWith (.Call (.Attribute (.Subscript (.Name x p) (.Constant (.str kz) j pk) ps) "append" apos) [e] [] cpos) none pos.line X.env = pure false := by rfl) :
    SS X W (.Expr (.Call (.Attribute (.Subscript (.Name x p) (.Constant (.str kz) j pk) ps) "append" apos) [e] [] cpos) pos) (sAppF i (.inr kz) f) := by
  obtain ⟨t, pt, r⟩ := he
  refine ⟨_, ps_expr (pe_bm PySem.F.plainAttrs_list PySem.F.slot_list_append PySem.F.type_list_append mt_append (pe_dget (by omega) (pe_var hN hv hd hcd) pe_str (fun _ _ => rfl)) (pa_cons pt pa_nil hs) hbase hfew hline hs hplain) hsw, fun BF B env σ F H E sr h => ?_⟩
  unfold sAppF at h
  split at h
  · rename_i m fs e0
    cases eg : getL fs (.inr kz) with
    | none =>
      rw [eg] at h
      exact h.elim
    | some ds =>
      rw [eg] at h
      obtain ⟨a, b, kvs, vs, e1, e2, e3, fb, e4, rds, _⟩ := sr.appF e0 eg (d := .none) (v := .non) .non
      refine ⟨_, e1, a, .ref b, rfl, ?_, .inl ⟨rfl, _, SqL.of e4⟩, ?_⟩
      · rw [← e3]
        have g : DGet H a (kV (.inr kz)) (valV kvs (.inr kz)) := DGet.k e2
        exact g
      · refine Ret.stm (T' := fun y H2 => tNil σ H2 fun xs H2 => rAppend (.ref b) (y :: xs) H2 fun _ H1 => E.nx σ H1) (r _ _ _ _ _ _ sr) sr h fun d v F1 H1 _ st rd hp => ?_
        split at hp
        · rename_i hz
          obtain ⟨a', b', kvs', vs', f1, f2, f3, f4, f5, f6, f7⟩ := (sr.step st).appF e0 eg rd
          rw [e1] at f1
          cases f1
          obtain ⟨a2, kvs2, bs2, g1, _, ga, g2, _⟩ := sr.dicAt e0
          rw [e1] at g1
          cases g1
          have ek := (st.pv _ _ e2 ga).2
          rw [f2] at ek
          cases ek
          rw [e3] at f3
          cases f3
          have ev := (st.pv _ _ e4 fb).2
          rw [f5] at ev
          cases ev
          refine ⟨b, vs, v, rfl, rfl, f5, ?_, hp σ F1 _ st.fr f7⟩
          rw [dps_len f6]
          exact Nat.lt_of_le_of_lt hz (by decide)
        · exact hp.elim
  · exact h.elim
end
end Mg
namespace Mg
open PySem PySem.Spec PyProof.Rows L2
/-! ### defs that change the dict that they are handed -/
abbrev noH : Hp := fun _ => none
theorem FsOk.reB {K : PySem.W.Frag} {B B' F H : Hp} {kvs : List (L2.Key × V)} {fs : Flds} {bs : List Addr} (r : FsOk K B F H kvs fs bs) : (∀ b ∈ bs, B' b = none) → FsOk K B' F H kvs fs bs := by
  induction r with
  | nil => exact fun _ => .nil
  | d rd _ ih => exact fun h => .d rd (ih h)
  | l hb hf hv rd _ ih => exact fun h => .l (h _ List.mem_cons_self) hf hv rd (ih fun b hb => h b (List.mem_cons_of_mem _ hb))
theorem cut_some {H : Hp} {cs : List Addr} {c : Addr} {o : HO} (h : cutH H cs c = some o) : ¬ c ∈ cs ∧ H c = some o := by
  unfold cutH at h
  split at h
  · cases h
  · rename_i z
    exact ⟨z, h⟩
theorem cut_get {H : Hp} {cs : List Addr} {c : Addr} (h : ¬ c ∈ cs) : cutH H cs c = H c := if_neg h
theorem cut_in {H : Hp} {cs : List Addr} {c : Addr} (h : c ∈ cs) : cutH H cs c = none := if_pos h
structure DicAt (K : PySem.W.Frag) (F H : Hp) (a : Addr) (bs : List Addr) (fs : Flds) : Prop where
  nd : (a :: bs).Nodup
  fa : F a = none
  at_ : ∃ kvs, H a = some (.dK kvs) ∧ FsOk K noH F H kvs fs bs
theorem DicAt.free {K : PySem.W.Frag} {F H : Hp} {a : Addr} {bs : List Addr} {fs : Flds} (D : DicAt K F H a bs fs) : ∀ c ∈ a :: bs, F c = none ∧ ∃ o, H c = some o := by
  obtain ⟨kvs, h1, r⟩ := D.at_
  intro c hc
  rcases List.mem_cons.mp hc with rfl | hc
  · exact ⟨D.fa, _, h1⟩
  · obtain ⟨_, z1, vs, z2⟩ := r.addr c hc
    exact ⟨z1, _, z2⟩
def SpR (K : PySem.W.Frag) (F H : Hp) (a : Addr) (bs : List Addr) (Q : VK) : An (D × Flds) → Prop
  | .ok x => ∀ v F' H', Step F (cutH H (a :: bs)) F' H' → DicAt K F' H' a bs x.2 → Dp K F' v x.1 → Q v H'
  | _ => False
def spGR (K : PySem.W.Frag) (n : Nat) (spec : Flds → List D → An (D × Flds)) : Sp := fun vs H Q _ =>
  ∃ F a bs fs ds vs', vs = .ref a :: vs' ∧ Same F H ∧ DicAt K F H a bs fs ∧ DpAll K F vs' ds ∧ ds.length + 1 = n ∧ SpR K F H a bs Q (spec fs ds)
def FGR (P : Program) (w : World) (K : PySem.W.Frag) (mg : Str → Option Value) (base : Heap) (x : Str) (k n : Nat) (spec : Flds → List D → An (D × Flds)) : Prop :=
  ∃ f fd ps, FnOk P w K mg base (L2N.CX P w) k f fd ps (spGR K n spec) ∧ mg x = some (.ref f) ∧ PySem.W.keepIn K (.ref f) = true ∧ Binds K fd ps [] ∧ ∀ fs ds, ds.length + 1 ≠ n → spec fs ds = .bad
theorem SR.callR {k : KX} {BF B F H : Hp} {env : Env} {σ : St} {i : Nat} {m : Option (Addr × List Addr)} {fs : Flds} (s : SR k BF B env σ F H) (e : env[i]? = some (.dic m fs)) :
    ∃ a bs, σ[i]? = some (some (.ref a)) ∧ DicAt k.1 F H a bs fs ∧ ∀ F' H' fs', Step F (cutH H (a :: bs)) F' H' → DicAt k.1 F' H' a bs fs' → SR k BF B (env.set i (.dic m fs')) σ F' H' := by
  obtain ⟨O, h1, h2, h3⟩ := s.slots
  obtain ⟨a, kvs, bs, e1, nd, oa, hb, hf, e2, hm, r⟩ := h1 i _ e
  have D0 : DicAt k.1 F H a bs fs := ⟨nd, hf, kvs, e2, r.reB fun _ _ => rfl⟩
  have Bn : ∀ c ∈ a :: bs, B c = none := fun c hc => by
    rcases List.mem_cons.mp hc with rfl | hc
    · exact hb
    · exact (r.addr c hc).1
  refine ⟨a, bs, e1, D0, fun F' H' fs' t D1 => ?_⟩
  have fs0 : Same F (cutH H (a :: bs)) := fun c o q => by
    have hc : ¬ c ∈ a :: bs := fun z => by
      rw [(D0.free c z).1] at q
      cases q
    rw [cut_get hc]
    exact s.inn c o q
  have sm : Same (cutH H (a :: bs)) H' := t.same fs0
  obtain ⟨kvs', g1, g2⟩ := D1.at_
  refine ⟨by rw [List.length_set]; exact s.len, ⟨s.stp.fr.trans t.fr, t.inn, fun c o q n => ?_⟩, s.bse, O, fun j x ej => ?_, h2, fun j c z => ?_⟩
  · obtain ⟨z1, z2⟩ := s.stp.pv c o q n
    have hc : ¬ c ∈ a :: bs := fun z => by
      rw [Bn c z] at q
      cases q
    exact t.pv c o (by rw [cut_get hc]; exact z2) z1
  · rcases get_set_eq ej with ⟨rfl, rfl, hl⟩ | ⟨hj, ej⟩
    · exact ⟨a, kvs', bs, e1, nd, oa, hb, D1.fa, g1, hm, g2.reB fun b hb => Bn b (List.mem_cons_of_mem _ hb)⟩
    · refine (h1 j x ej).move t.fr (fun _ z => z) fun c hc o z1 z2 => ?_
      have hn : ¬ c ∈ a :: bs := fun z => hj (h2 _ _ _ (oa c z) hc)
      exact t.pv c o (by rw [cut_get hn]; exact z2) z1
  · by_cases hc : c ∈ a :: bs
    · exact (D1.free c hc).2
    · obtain ⟨o, q⟩ := h3 j c z
      exact ⟨o, sm c o (by rw [cut_get hc]; exact q)⟩
def sRetE (f : EX) : SX := fun env => (f env).thn env fun d => .rtE (.val d) env
def sRetR (i : Nat) (spec : Flds → List D → An (D × Flds)) (fs : AX) : SX := fun env => match env[i]? with
  | some (.dic m fl) => (fs env).thn env fun ds => (match spec fl ds with
    | .ok x => .rtE (.val x.1) (env.set i (.dic m x.2))
    | _ => .bad)
  | _ => .bad
def sAppR (j i : Nat) (spec : Flds → List D → An (D × Flds)) (fs : AX) : SX := fun env => match env[j]? with
  | some (.own xs) => (match env[i]? with
    | some (.dic m fl) => (fs env).thn env fun ds => (match spec fl ds with
      | .ok x => if xs.length ≤ 100000 then .nx ((env.set i (.dic m x.2)).set j (.own (xs ++ [x.1]))) else .bad
      | _ => .bad)
    | _ => .bad)
  | _ => .bad
section
variable {X : Cx} {W : Wx} {e : Expr} {es : List Expr} {f g : EX} {fs : AX} {pos : Pos} {cl : Xc → Addr}
theorem ss_retE (he : SE X W e f) : SS X W (.Return (some e) pos) (sRetE f) := by
  obtain ⟨t, p, r⟩ := he
  exact ⟨_, ps_ret p, fun BF B env σ F H E sr h => Ret.stm (T' := E.rt) (r _ _ _ _ _ _ sr) sr h fun d v F1 H1 _ st rd hp => hp v σ F1 H1 st.fr (sr.step st) rd⟩
theorem ss_retR (i : Nat) {x xs : Str} {p ps : Pos} {k n : Nat} {spec : Flds → List D → An (D × Flds)} {cpos : Pos} (G : FGR X.prog X.w X.K X.mg X.base x k n spec) (hr : Room k X.A) (tk : L2N.Takes X (wx cl W)) (ha : SA X W es fs) (hN : X.N[i]? = some xs := by rfl) (hv : Vis X.env.scope xs := by first | exact Or.inl rfl | exact Or.inr (Or.inl rfl) | exact Or.inr (Or.inr rfl)) (hd : (xs == ("__debug__" : Str)) = false := by decide) (hcd : (xs == ("__classdict__" : Str)) = false := by decide)
    (hg : Gl X x := by rfl) (hdb : (x == ("__debug__" : Str)) = false := by decide)
    (he : starEach (.Name xs ps :: es) X.env = (false, eval (.Name xs ps) X.env) :: starEach es X.env := by rfl) (hpl : (backTo cpos (starEach es X.env)).any (·.1) = false := by rfl) :
    SS X W (.Return (some (.Call (.Name x p) (.Name xs ps :: es) [] cpos)) pos) (sRetR i spec fs) := by
  obtain ⟨t, pt', rt⟩ := ha
  obtain ⟨f, fd, pn, Fk, hm, hk, hb, hlen⟩ := G
  refine ⟨_, ps_ret (pe_callS Fk hr hg hm hk hb (fun σ => L2N.passAt tk σ) (pa_cons (pe_var hN hv hd hcd) pt' he) hdb he hpl), fun BF B env σ F H E sr h => ?_⟩
  unfold sRetR at h
  split at h
  · rename_i m fl e0
    obtain ⟨a, bs, e1, D0, _⟩ := sr.callR e0
    refine ⟨_, e1, ?_⟩
    refine Ret.stm (R := RA X.K) (T' := fun vs H1 => spGR X.K n spec (.ref a :: vs) H1 E.rt (WE (wx cl W) σ)) (rt _ _ _ _ _ _ sr) sr h fun ds vs F1 H1 _ st rd hp => ?_
    obtain ⟨a', bs', e1', D1, back⟩ := (sr.step st).callR e0
    rw [e1] at e1'
    cases e1'
    cases e2 : spec fl ds with
    | bad =>
      rw [e2] at hp
      exact hp.elim
    | exc c =>
      rw [e2] at hp
      exact hp.elim
    | ok x =>
      rw [e2] at hp
      refine ⟨F1, a, bs', fl, ds, vs, rfl, st.inn, D1, rd, ?_, ?_⟩
      · by_cases hl : ds.length + 1 = n
        · exact hl
        · rw [hlen fl ds hl] at e2
          cases e2
      · rw [e2]
        exact fun v F' H' t2 D2 rv => hp v σ F' H' (st.fr.trans t2.fr) (back F' H' x.2 t2 D2) rv
  · exact h.elim
end
end Mg
namespace Mg
open PySem PySem.Spec PyProof.Rows L2
section
variable {X : Cx} {W : Wx} {e : Expr} {es : List Expr} {f g : EX} {fs : AX} {pos : Pos} {cl : Xc → Addr}
theorem ss_appR (j i : Nat) {y x xs : Str} {py p ps apos qpos : Pos} {k n : Nat} {spec : Flds → List D → An (D × Flds)} {cpos : Pos} (G : FGR X.prog X.w X.K X.mg X.base x k n spec) (hr : Room k X.A) (tk : L2N.Takes X (wx cl W)) (ha : SA X W es fs)
    (hNy : X.N[j]? = some y := by rfl) (hvy : Vis X.env.scope y := by first | exact Or.inl rfl | exact Or.inr (Or.inl rfl) | exact Or.inr (Or.inr rfl)) (hdy : (y == ("__debug__" : Str)) = false := by decide) (hcy : (y == ("__classdict__" : Str)) = false := by decide)
    (hN : X.N[i]? = some xs := by rfl) (hv : Vis X.env.scope xs := by first | exact Or.inl rfl | exact Or.inr (Or.inl rfl) | exact Or.inr (Or.inr rfl)) (hd : (xs == ("__debug__" : Str)) = false := by decide) (hcd : (xs == ("__classdict__" : Str)) = false := by decide)
    (hg : Gl X x := by rfl) (hdb : (x == ("__debug__" : Str)) = false := by decide)
    (he : starEach (.Name xs ps :: es) X.env = (false, eval (.Name xs ps) X.env) :: starEach es X.env := by rfl) (hpl : (backTo cpos (starEach es X.env)).any (·.1) = false := by rfl)
    (hbase : attributeBase (.Name y py) "append" X.env (eval (.Name y py) X.env) = eval (.Name y py) X.env := by rfl)
    (hfew : ((backTo qpos (starEach [.Call (.Name x p) (.Name xs ps :: es) [] cpos] X.env)).all (fun x => !x.1) && (backToKw qpos (keywordEach [] X.env)).all (fun x => x.1.isSome) && decide (([.Call (.Name x p) (.Name xs ps :: es) [] cpos] : List Expr).length + ([] : List Keyword).length + (if ([] : List Keyword).isEmpty then 0 else 1) < 30)) = true := by rfl)
    (hline : (apos.endLine == qpos.line) = true := by rfl) (hs : starEach [.Call (.Name x p) (.Name xs ps :: es) [] cpos] X.env = (false, eval (.Call (.Name x p) (.Name xs ps :: es) [] cpos) X.env) :: starEach [] X.env := by rfl) (hplain : (backTo qpos (starEach [] X.env)).any (·.1) = false := by rfl)
    (hsw : swapsWith (.Call (.Attribute (.Name y py) "append" apos) [.Call (.Name x p) (.Name xs ps :: es) [] cpos] [] qpos) none pos.line X.env = pure false := by rfl) :
    SS X W (.Expr (.Call (.Attribute (.Name y py) "append" apos) [.Call (.Name x p) (.Name xs ps :: es) [] cpos] [] qpos) pos) (sAppR j i spec fs) := by
  obtain ⟨t, pt', rt⟩ := ha
  obtain ⟨f, fd, pn, Fk, hm, hk, hb, hlen⟩ := G
  refine ⟨_, ps_expr (pe_bm PySem.F.plainAttrs_list PySem.F.slot_list_append PySem.F.type_list_append mt_append (pe_var hNy hvy hdy hcy) (pa_cons (pe_callS Fk hr hg hm hk hb (fun σ => L2N.passAt tk σ) (pa_cons (pe_var hN hv hd hcd) pt' he) hdb he hpl) pa_nil hs) hbase hfew hline hs hplain) hsw, fun BF B env σ F H E sr h => ?_⟩
  unfold sAppR at h
  split at h
  · rename_i zs ej
    split at h
    · rename_i m fl e0
      obtain ⟨l, vsl, el, _, _, hl, _⟩ := sr.own ej
      obtain ⟨a, bs, e1, _, _⟩ := sr.callR e0
      refine ⟨_, el, .inl ⟨rfl, _, SqL.of hl⟩, _, e1, ?_⟩
      refine Ret.stm (R := RA X.K) (T' := fun vs H1 => spGR X.K n spec (.ref a :: vs) H1 (fun u H2 => tNil σ H2 fun us H3 => rAppend (.ref l) (u :: us) H3 fun _ H4 => E.nx σ H4) (WE (wx cl W) σ)) (rt _ _ _ _ _ _ sr) sr h fun ds vs F1 H1 _ st rd hp => ?_
      obtain ⟨a', bs', e1', D1, back⟩ := (sr.step st).callR e0
      rw [e1] at e1'
      cases e1'
      cases e2 : spec fl ds with
      | bad =>
        rw [e2] at hp
        exact hp.elim
      | exc c =>
        rw [e2] at hp
        exact hp.elim
      | ok x =>
        rw [e2] at hp
        refine ⟨F1, a, bs', fl, ds, vs, rfl, st.inn, D1, rd, ?_, ?_⟩
        · by_cases hl : ds.length + 1 = n
          · exact hl
          · rw [hlen fl ds hl] at e2
            cases e2
        · rw [e2]
          intro v F' H' t2 D2 rv
          have sr' := back F' H' x.2 t2 D2
          have hij : i ≠ j := fun z => by
            subst z
            rw [e0] at ej
            cases ej
          have ej' : (env.set i (.dic m x.2))[j]? = some (.own zs) := by
            rw [List.getElem?_set_ne hij]
            exact ej
          obtain ⟨l', vs', el', _, _, hl', r'⟩ := sr'.own ej'
          rw [el] at el'
          cases el'
          have hp : Post (kx X) W BF B E F (if zs.length ≤ 100000 then .nx ((env.set i (.dic m x.2)).set j (.own (zs ++ [x.1]))) else .bad) := hp
          split at hp
          · rename_i hz
            refine ⟨l, vs', v, rfl, rfl, hl', ?_, hp σ F' _ (st.fr.trans t2.fr) (sr'.mut ej' el (dps_app r' (.cons rv .nil)))⟩
            rw [dps_len r']
            exact Nat.lt_of_le_of_lt hz (by decide)
          · exact hp.elim
    · exact h.elim
  · exact h.elim
end
section
variable {P : Program} {w : World} {K : PySem.W.Frag} {mg : Str → Option Value} {base : Heap} {cl : Xc → Addr}
theorem start_srR {F H : Hp} {N : List Str} {a : Addr} {bs : List Addr} {fs : Flds} {vs : List V} {ds : List D} {ea : Addr} (i : Same F H) (D0 : DicAt K F H a bs fs) (r : DpAll K F vs ds) :
    SR (K, ea) F (cutH H (a :: bs)) (.dic (some (a, bs)) fs :: (ds.map Slot.val ++ List.replicate (N.length - (ds.length + 1)) Slot.un)) (L2.start N (.ref a :: vs)) F H := by
  have hl := dps_len r
  have fs0 : Same F (cutH H (a :: bs)) := fun c o q => by
    have hc : ¬ c ∈ a :: bs := fun z => by
      rw [(D0.free c z).1] at q
      cases q
    rw [cut_get hc]
    exact i c o q
  obtain ⟨kvs, g1, g2⟩ := D0.at_
  refine ⟨?_, ⟨Same.refl F, i, fun c o q n => ⟨n, (cut_some q).2⟩⟩, fs0, fun k c => k = 0 ∧ c ∈ a :: bs, fun j x e => ?_, fun j k c z1 z2 => z1.1.trans z2.1.symm, fun j c z => (D0.free c z.2).2⟩
  · unfold L2.start
    simp
    omega
  · cases j with
    | zero =>
      cases e
      exact ⟨a, kvs, bs, rfl, D0.nd, fun c hc => ⟨rfl, hc⟩, cut_in List.mem_cons_self, D0.fa, g1, fun q z => by cases z; rfl, g2.reB fun b hb => cut_in (List.mem_cons_of_mem _ hb)⟩
    | succ j =>
      rw [List.getElem?_cons_succ] at e
      by_cases hj : j < ds.length
      · rw [List.getElem?_append_left (by simpa using hj), List.getElem?_map] at e
        cases e1 : ds[j]? with
        | none =>
          rw [e1] at e
          cases e
        | some d =>
          rw [e1] at e
          cases e
          obtain ⟨v, e2, rv⟩ := dps_get' r e1
          refine ⟨v, ?_, rv⟩
          unfold L2.start
          rw [List.map_cons, List.cons_append, List.getElem?_cons_succ, List.getElem?_append_left (by rw [List.length_map, hl]; exact hj), List.getElem?_map, e2]
          rfl
      · rw [List.getElem?_append_right (by simpa using hj), List.getElem?_replicate] at e
        split at e
        · cases e
          trivial
        · cases e
/-- what a def of a dict is to make of it: the typed spec, whatever the mark -/
def RSpec (N np : Nat) (body : SX) (spec : Flds → List D → An (D × Flds)) : Prop := (∀ fs ds, ds.length + 1 ≠ np → spec fs ds = .bad) ∧ (∀ fs ds c, spec fs ds ≠ .exc c) ∧
  ∀ m fs ds d fs', spec fs ds = .ok (d, fs') → ∃ env, body (.dic m fs :: (ds.map Slot.val ++ List.replicate (N - (ds.length + 1)) Slot.un)) = .rtE (.val d) env ∧ env[0]? = some (.dic m fs')
theorem def_okR {x : Str} {st : Stmt} {f : Addr} {fd : FuncData} {N ps : List Str} {k : Nat} {body : SX} {spec : Flds → List D → An (D × Flds)} (Fn : Fun K x x st f fd) (hm : mg x = some (.ref f)) (hb : Binds K fd ps []) (S : FnScope N ps (defScope st)) (hS : RSpec N.length ps.length body spec)
    (hbody : ∀ (cdv : Value) (A : Around) (outer : List PySem.Env) (s : Shared) (H : Hp) (E : XK), Room k (A.deeper (envOfC x (defScope st) s.heap.objs.size f cdv)) → SSs (cxOf (L2N.CX P w) P w K mg base N x (defScope st) f cdv A outer s H E) (dW cl E) (defBody st) body) :
    FGR P w K mg base x (k + 1) ps.length spec := by
  have hk := Fn.kp
  obtain ⟨oc, od, kV, doc, pm, an, cdv, ct, osl, rfl, lk, hcd⟩ := Fn.ex
  refine ⟨f, _, ps, fn_of lk hcd S (fun vs H Q E h => ?_) (fun A outer s H vs Q E hr h => ?_), hm, hk, hb, hS.1⟩
  · obtain ⟨F, a, bs, fs, ds, vs', rfl, _, _, r, hl, _⟩ := h
    rw [List.length_cons, dps_len r, hl]
  · obtain ⟨F, a, bs, fs, ds, vs', rfl, i, D0, r, hl, q⟩ := h
    obtain ⟨t, pt, rt⟩ := hbody cdv A outer s H E hr
    refine ⟨t, pt, rt F _ _ _ F H _ (start_srR i D0 r) ?_⟩
    cases e2 : spec fs ds with
    | bad =>
      rw [e2] at q
      exact q.elim
    | exc c =>
      rw [e2] at q
      exact q.elim
    | ok x =>
      rw [e2] at q
      obtain ⟨env, e3, e4⟩ := hS.2.2 (some (a, bs)) fs ds x.1 x.2 e2
      rw [e3]
      intro v σ F1 H1 s1 sr1 rd
      obtain ⟨O, h1, _⟩ := sr1.slots
      obtain ⟨a', kvs, bs', e1, nd, _, hb', hf, e5, hmk, r5⟩ := h1 0 _ e4
      cases hmk _ rfl
      exact q v F1 H1 sr1.stp ⟨nd, hf, kvs, e5, r5.reB fun _ _ => rfl⟩ rd
end
end Mg
namespace Mg
open PySem PySem.Spec PyProof.Rows L2
theorem upd_none {H : Hp} {p c : Addr} {o : HO} (h : upd H p o c = none) : c ≠ p ∧ H c = none := by
  by_cases e : c = p
  · subst e
    rw [upd_same] at h
    cases h
  · rw [upd_ne e] at h
    exact ⟨e, h⟩
/-- {k0: (), k1: [], k2: []} -/
def newFs (k0 k1 k2 : Str) : Flds := [(.inr k0, .d (.tuple [])), (.inr k1, .l []), (.inr k2, .l [])]
def sNewS (i : Nat) (k0 k1 k2 : Str) : SX := fun env => .nx (env.set i (.dic none (newFs k0 k1 k2)))
theorem merge3 {k0 k1 k2 : Str} {a b c : V} (h1 : k0 ≠ k1) (h2 : k0 ≠ k2) (h3 : k1 ≠ k2) : mergeK [] [((.inr k0 : L2.Key), a), (.inr k1, b), (.inr k2, c)] = [(.inr k0, a), (.inr k1, b), (.inr k2, c)] := by
  have e1 : putK ([] : List (L2.Key × V)) (.inr k0) a = [(.inr k0, a)] := putK_new a rfl
  have e2 : putK [((.inr k0 : L2.Key), a)] (.inr k1) b = [(.inr k0, a), (.inr k1, b)] := putK_new b (by
    rw [valV_neg (fun z => h1 (Sum.inr.inj z))]
    rfl)
  have e3 : putK [((.inr k0 : L2.Key), a), (.inr k1, b)] (.inr k2) c = [(.inr k0, a), (.inr k1, b), (.inr k2, c)] := putK_new c (by
    rw [valV_neg (fun z => h2 (Sum.inr.inj z)), valV_neg (fun z => h3 (Sum.inr.inj z))]
    rfl)
  show putK (putK (putK [] (Sum.inr k0 : L2.Key) a) (Sum.inr k1) b) (Sum.inr k2) c = _
  rw [e1, e2, e3]
section
variable {X : Cx} {W : Wx}
theorem ss_newS (i : Nat) {x k0 k1 k2 : Str} {j0 j1 j2 : Nat} {kt} {p0 p1 p2 pt pl1 pl2 pd px spos : Pos} (nd : X.N.Nodup) (h01 : k0 ≠ k1) (h02 : k0 ≠ k2) (h12 : k1 ≠ k2) (hi : X.N[i]? = some x := by rfl) (hx : Loc X.env.scope x := by first | exact Or.inl rfl | exact Or.inr rfl)
    (hs : swapsWith (.Dict [some (.Constant (.str k0) j0 p0), some (.Constant (.str k1) j1 p1), some (.Constant (.str k2) j2 p2)] [.Tuple [] kt pt, .List [] pl1, .List [] pl2] pd) (some (.Name x px)) spos.line X.env = pure false := by rfl) (hf : X.fn x = true ∨ X.env.scope.names.lookup x = some .local := by first | exact .inl rfl | exact .inr rfl) :
    SS X W (.Assign [.Name x px] (.Dict [some (.Constant (.str k0) j0 p0), some (.Constant (.str k1) j1 p1), some (.Constant (.str k2) j2 p2)] [.Tuple [] kt pt, .List [] pl1, .List [] pl2] pd) spos) (sNewS i k0 k1 k2) := by
  refine ⟨_, ps_set nd hi hx (pe_disp (pps_cons pe_str (pe_tup pa_nil) (pps_cons pe_str (pe_lst pa_nil) (pps_cons pe_str (pe_lst pa_nil) pps_nil))) rfl rfl (fun z => nomatch z) (by show 3 ≤ 15; decide)) hs hf, fun BF B env σ F H E sr h => ?_⟩
  intro p hp
  refine ⟨Nat.zero_le _, fun t ht => ⟨Nat.zero_le _, fun b1 hb1 => ⟨Nat.zero_le _, fun b2 hb2 => ?_⟩⟩⟩
  obtain ⟨tp, tH⟩ := upd_none ht
  obtain ⟨b1t, hb1'⟩ := upd_none hb1
  obtain ⟨b1p, b1H⟩ := upd_none hb1'
  obtain ⟨b21, hb2'⟩ := upd_none hb2
  obtain ⟨b2t, hb2''⟩ := upd_none hb2'
  obtain ⟨b2p, b2H⟩ := upd_none hb2''
  have fp := none_of_same sr.inn hp
  have st1 : Step F H F (upd H p (.dK [])) := Step.priv sr.inn hp
  have st2 : Step F H (upd F t (.tup [])) (upd (upd H p (.dK [])) t (.tup [])) := st1.trans (Step.new st1.inn ht)
  have st3 : Step F H (upd F t (.tup [])) (upd (upd (upd H p (.dK [])) t (.tup [])) b1 (.lst [])) := st2.trans (Step.priv st2.inn hb1)
  have st4 : Step F H (upd F t (.tup [])) (upd (upd (upd (upd H p (.dK [])) t (.tup [])) b1 (.lst [])) b2 (.lst [])) := st3.trans (Step.priv st3.inn hb2)
  have fp4 : upd F t (.tup []) p = none := by
    rw [upd_ne (Ne.symm tp)]
    exact fp
  refine ⟨?_, [(Sum.inr k0, V.ref t), (Sum.inr k1, V.ref b1), (Sum.inr k2, V.ref b2)], rfl, by show 3 ≤ 15; decide, ?_⟩
  · rw [upd_ne (Ne.symm b2p), upd_ne (Ne.symm b1p), upd_ne (Ne.symm tp), upd_same]
  · rw [merge3 h01 h02 h12]
    have st5 := st4.wr (o := .dK [(Sum.inr k0, V.ref t), (Sum.inr k1, V.ref b1), (Sum.inr k2, V.ref b2)]) hp fp4
    refine h _ _ _ st5.fr (sr.setDic (bs := [b1, b2]) st5 ?_ ?_ ?_ fp4 upd_same ?_)
    · simp [Ne.symm b1p, Ne.symm b2p, Ne.symm b21]
    · intro c hc
      simp only [List.mem_cons, List.not_mem_nil, or_false] at hc
      rcases hc with rfl | rfl | rfl
      · exact hp
      · exact b1H
      · exact b2H
    · intro c hc
      simp only [List.mem_cons, List.not_mem_nil, or_false] at hc
      rcases hc with rfl | rfl | rfl
      · exact ⟨_, upd_same⟩
      · exact ⟨_, by rw [upd_ne b1p, upd_ne (Ne.symm b21), upd_same]⟩
      · exact ⟨_, by rw [upd_ne b2p, upd_same]⟩
    · refine .d (.tup (.inl (.inl upd_same)) .nil) (.l (sr.bs.free b1H) ?_ ?_ .nil (.l (sr.bs.free b2H) ?_ ?_ .nil .nil))
      · rw [upd_ne b1t]
        exact none_of_same sr.inn b1H
      · rw [upd_ne b1p, upd_ne (Ne.symm b21), upd_same]
      · rw [upd_ne b2t]
        exact none_of_same sr.inn b2H
      · rw [upd_ne b2p, upd_same]
end
end Mg
namespace Mg
open PySem PySem.Spec PyProof.Rows L2
/-! ### what a def of a dict makes of it, told by its body -/
def Rb (N : Nat) (body : SX) (fs : Flds) (ds : List D) (x : D × Flds) : Prop := ∀ m, ∃ env, body (.dic m fs :: (ds.map Slot.val ++ List.replicate (N - (ds.length + 1)) Slot.un)) = .rtE (.val x.1) env ∧ env[0]? = some (.dic m x.2)
open Classical in
noncomputable def specR (N np : Nat) (body : SX) : Flds → List D → An (D × Flds) := fun fs ds =>
  if ds.length + 1 = np then (if h : ∃ x, Rb N body fs ds x then .ok h.choose else .bad) else .bad
theorem rb_uniq {N : Nat} {body : SX} {fs : Flds} {ds : List D} {x y : D × Flds} (h1 : Rb N body fs ds x) (h2 : Rb N body fs ds y) : x = y := by
  obtain ⟨e1, a1, b1⟩ := h1 none
  obtain ⟨e2, a2, b2⟩ := h2 none
  rw [a1] at a2
  have q := a2
  simp only [Out.rtE.injEq, EndK.val.injEq] at q
  obtain ⟨q1, q2⟩ := q
  rw [q2, b2] at b1
  have q3 := Option.some.inj b1
  simp only [Slot.dic.injEq, true_and] at q3
  exact Prod.ext q1 q3.symm
theorem specR_ok {N np : Nat} {body : SX} {fs : Flds} {ds : List D} {x : D × Flds} (hl : ds.length + 1 = np) (h : Rb N body fs ds x) : specR N np body fs ds = .ok x := by
  unfold specR
  rw [if_pos hl]
  have hx : ∃ x, Rb N body fs ds x := ⟨x, h⟩
  rw [dif_pos hx, rb_uniq hx.choose_spec h]
theorem specR_spec (N np : Nat) (body : SX) : RSpec N np body (specR N np body) := by
  refine ⟨fun fs ds h => if_neg h, fun fs ds c e => ?_, fun m fs ds d fs' e => ?_⟩
  · unfold specR at e
    split at e
    · split at e <;> cases e
    · cases e
  · unfold specR at e
    split at e
    · split at e
      · rename_i h
        have q := h.choose_spec m
        have e' := An.ok.inj e
        rw [e'] at q
        exact q
      · cases e
    · cases e
end Mg
namespace Mg
open PySem PySem.Spec PyProof.Rows L2
def b_p_gone : SX := (sRet (xOp oMod (xOp oSub (xVar 2) (xVar 1)) (xVar 0)))
def f_p_gone : List D → An D := runDef 3 3 b_p_gone
def b_p_shown_then : SX := (sRet (xOp oMod (xOp oAdd (xVar 1) (xVar 2)) (xVar 0)))
def f_p_shown_then : List D → An D := runDef 3 3 b_p_shown_then
def b_l_cell_at : SX := (sSeq (sIf (tOf (xOp oLt (xVar 1) (xApp oLen (aCons (xVar 0) aNil)))) (sRet (xOp oIdx (xVar 0) (xVar 1))) sSkip) (sRet (xC (.int 0))))
def f_l_cell_at : List D → An D := runDef 2 2 b_l_cell_at
def b_l_mixed : SX := (sSeq (sSet 2 (xC (.int 0))) (sSeq (sIf (tOf (xOp oGt (xApp oLen (aCons (xVar 0) aNil)) (xC (.int 0)))) (sSet 2 (xOp oIdx (xVar 0) (xOp oMod (xVar 1) (xApp oLen (aCons (xVar 0) aNil))))) sSkip) (sSeq (sSet 3 (xOp oMod (xOp oMul (xOp oAdd (xVar 2) (xOp oMul (xC (.int 7919)) (xVar 1))) (xC (.int 48271))) (xC (.int 2147483647)))) (sRet (xOp oMod (xOp oMul (xVar 3) (xVar 3)) (xC (.int 2147483647)))))))
def f_l_mixed : List D → An D := runDef 4 2 b_l_mixed
def b_l_whole : SX := (sRet (xAnd (xUn (oIsA "int") (xVar 0)) (xNot (xUn (oIsA "bool") (xVar 0)))))
def f_l_whole : List D → An D := runDef 1 1 b_l_whole
def b_l_size_by : SX := (sSeq (sIf (tOf (xOp oEq (xOp oMod (xVar 0) (xC (.int 4))) (xC (.int 3)))) (sRet (xOp oAdd (xC (.int 2)) (xOp oMod (xOp oMul (xVar 0) (xVar 0)) (xOp oSub (xOp oPow (xC (.int 10)) (xC (.int 12))) (xC (.int 1)))))) sSkip) (sRet (xOp oIdx (xL (aCons (xC (.int 2)) (aCons (xC (.int 10)) (aCons (xC (.int 100)) (aCons (xC (.int 1000)) (aCons (xOp oPow (xC (.int 10)) (xC (.int 5))) (aCons (xOp oPow (xC (.int 10)) (xC (.int 12))) (aCons (xC (.int 7)) (aCons (xC (.int 60)) aNil))))))))) (xOp oMod (xOp oFdiv (xVar 0) (xC (.int 4))) (xC (.int 8))))))
def f_l_size_by : List D → An D := runDef 1 1 b_l_size_by
def b_law_01 : SX := (sSeq (sSet 1 (xApp f_l_size_by (aCons (xApp f_l_mixed (aCons (xVar 0) (aCons (xC (.int 2)) aNil))) aNil))) (sSeq (sSet 2 (xOp oMod (xApp f_l_cell_at (aCons (xVar 0) (aCons (xC (.int 0)) aNil))) (xVar 1))) (sSeq (sSet 3 (xOp oMod (xOp oMul (xApp f_l_cell_at (aCons (xVar 0) (aCons (xC (.int 1)) aNil))) (xC (.int 48271))) (xVar 1))) (sSeq (sIf (tOf (xOp oEq (xOp oMod (xApp f_l_cell_at (aCons (xVar 0) (aCons (xC (.int 2)) aNil))) (xC (.int 6))) (xC (.int 1)))) (sSet 3 (xOp oIdx (xL (aCons (xVar 2) (aCons (xC (.int 0)) (aCons (xOp oSub (xVar 1) (xC (.int 1))) aNil)))) (xOp oMod (xOp oFdiv (xApp f_l_cell_at (aCons (xVar 0) (aCons (xC (.int 2)) aNil))) (xC (.int 6))) (xC (.int 3))))) sSkip) (sSeq (sSet 4 (xApp f_p_gone (aCons (xVar 1) (aCons (xVar 2) (aCons (xVar 3) aNil))))) (sSeq (sIf (tOrX (tNotX (tOf (xApp f_l_whole (aCons (xVar 4) aNil)))) (tOrX (tOf (xOp oLt (xVar 4) (xC (.int 0)))) (tOrX (tOf (xOp oGe (xVar 4) (xVar 1))) (tOf (xOp oNe (xOp oMod (xOp oAdd (xVar 2) (xVar 4)) (xVar 1)) (xVar 3)))))) (sRet (xC (.bool false))) sSkip) (sSeq (sSet 5 (xOp oMod (xApp f_l_cell_at (aCons (xVar 0) (aCons (xC (.int 3)) aNil))) (xOp oAdd (xOp oPow (xC (.int 10)) (xC (.int 15))) (xC (.int 1))))) (sSeq (sIf (tOf (xOp oEq (xOp oMod (xApp f_l_cell_at (aCons (xVar 0) (aCons (xC (.int 4)) aNil))) (xC (.int 2))) (xC (.int 1)))) (sSet 5 (xOp oMod (xVar 5) (xOp oMul (xC (.int 3)) (xVar 1)))) sSkip) (sSeq (sSet 6 (xL (aCons (xApp f_p_shown_then (aCons (xVar 1) (aCons (xVar 2) (aCons (xVar 4) aNil)))) (aCons (xApp f_p_shown_then (aCons (xVar 1) (aCons (xVar 2) (aCons (xVar 5) aNil)))) aNil)))) (sRet (xAnd (xApp f_l_whole (aCons (xOp oIdx (xVar 6) (xC (.int 0))) aNil)) (xAnd (xApp f_l_whole (aCons (xOp oIdx (xVar 6) (xC (.int 1))) aNil)) (xOp oEq (xVar 6) (xL (aCons (xVar 3) (aCons (xOp oMod (xOp oAdd (xVar 2) (xVar 5)) (xVar 1)) aNil))))))))))))))))
def f_law_01 : List D → An D := runDef 7 1 b_law_01
end Mg
open PySem PySem.Spec PyProof.Rows L2 Mg
local macro_rules | `(tactic| walk_at "ev") => `(tactic| simp (disch := omega) only [ev_var_un, ev_var0, ev_varS, ev_c, ev_op, ev_un, ev_app, ev_appL, ev_tup, ev_l, ev_anil, ev_acons, ev_bool, ev_tof, ev_tand, ev_tor, ev_tnot, ev_and, ev_or, ev_not, ev_addI, ev_addT, ev_sub, ev_lt, ev_le, ev_gt, ev_ge,
  ev_mulL, ev_mulR, ev_mod, ev_fdiv, ev_p5, ev_p9, ev_p12, ev_p15, ev_neg, ev_eqI, ev_neI, ev_eqSt, ev_neSt, ev_isNn, ev_isNt, ev_isnNn, ev_isnNt, ev_lenL, ev_lenT, ev_listL, ev_listT, ev_tupleL, ev_tupleT, ev_min, ev_max, ev_intI, ev_intB, ev_ix0, ev_slice, ev_pno, ev_pat, ev_oint, ev_slL, ev_slT,
  ev_opL, ev_lenO, ev_ixO, List.getElem?_cons_zero, List.getElem?_cons_succ, ev_skip, ev_seq, ev_if, ev_set, ev_own, ev_par, ev_ret, ev_ct, ev_drop, ev_raise, bnd_ok, bnd_exc, bnd_bad, thn_ok, thn_exc, thn_bad, seq_nx, seq_ret, seq_ct, seq_exc, outAn_ret, outAn_nx, outAn_exc, isA_int_int, isA_int_bool,
  List.set_cons_zero, List.set_cons_succ, Bool.not_true, Bool.not_false, if_true, if_false, decide_eq_true_eq, Bool.false_eq_true, decide_true, decide_false, Bool.not_eq_true, Bool.not_eq_false, Int.reduceAdd, Int.reduceSub, Int.reduceMul, Int.reduceNeg, Int.reduceEq, Int.reduceLT, Int.reduceLE, *])
local macro_rules | `(tactic| walk_at "plain") => `(tactic| (simp only [noErr, List.all_cons, List.all_nil, List.set_cons_zero, List.set_cons_succ, pl_val, pl_un, pl_own, Bool.and_true, Bool.true_and, *]))
namespace Mg
open PySem PySem.Spec PyProof.Rows L2
/-! cell_at, mixed, size_by, whole: what they are worth -/
abbrev intsD (ns : List Int) : D := .list (ns.map .int)
theorem ints_len (ns : List Int) : (ns.map PyData.int).length = ns.length := by simp
theorem cell_spec (ns : List Int) (k : Int) (hk : 0 ≤ k) : ∃ c : Int, f_l_cell_at [intsD ns, .int k] = .ok (.int c) := by
  rw [f_l_cell_at, run_eq (by rfl)]
  show ∃ c, outAn (b_l_cell_at [.val (intsD ns), .val (.int k)]) = _
  unfold b_l_cell_at
  by_cases h : k < (ns.length : Int)
  · obtain ⟨j, rfl⟩ : ∃ j : Nat, k = (j : Int) := ⟨k.toNat, by omega⟩
    have e : oIdx (.list (ns.map .int)) (.int j) = .ok (.int (ns[j]'(by omega))) := idx_at hk (by simp [show j < ns.length by omega])
    refine ⟨ns[j]'(by omega), ?_⟩
    have hl := ints_len ns
    walk_at "ev"
  · refine ⟨0, ?_⟩
    have hl := ints_len ns
    walk_at "ev"
theorem mixed_spec (ns : List Int) (k : Int) (hk : 0 ≤ k) : ∃ m : Int, f_l_mixed [intsD ns, .int k] = .ok (.int m) ∧ 0 ≤ m ∧ m < 2147483647 := by
  have key : ∃ c : Int, f_l_mixed [intsD ns, .int k] = .ok (.int ((c + 7919 * k) * 48271 % 2147483647 * ((c + 7919 * k) * 48271 % 2147483647) % 2147483647)) := by
    rw [f_l_mixed, run_eq (by rfl)]
    show ∃ c, outAn (b_l_mixed [.val (intsD ns), .val (.int k), .un, .un]) = _
    unfold b_l_mixed
    have hl := ints_len ns
    by_cases h : 0 < (ns.length : Int)
    · obtain ⟨d, e, hd⟩ := idx_mem (ds := ns.map .int) (k := k % (ns.length : Int)) (Int.emod_nonneg _ (by omega)) (by rw [hl]; exact Int.emod_lt_of_pos _ h)
      obtain ⟨c, _, rfl⟩ := List.mem_map.mp hd
      refine ⟨c, ?_⟩
      have b1 : 0 ≤ (c + 7919 * k) * 48271 % 2147483647 := by omega
      have b2 : (c + 7919 * k) * 48271 % 2147483647 < 2147483647 := by omega
      walk_at "ev"
    · refine ⟨0, ?_⟩
      have b1 : 0 ≤ (0 + 7919 * k) * 48271 % 2147483647 := by omega
      have b2 : (0 + 7919 * k) * 48271 % 2147483647 < 2147483647 := by omega
      walk_at "ev"
  obtain ⟨c, e⟩ := key
  exact ⟨_, e, Int.emod_nonneg _ (by decide), Int.emod_lt_of_pos _ (by decide)⟩
end Mg
namespace Mg
open PySem PySem.Spec PyProof.Rows L2
theorem whole_int (n : Int) : f_l_whole [.int n] = .ok (.bool true) := by
  rw [f_l_whole, run_eq (by rfl)]
  show outAn (b_l_whole [.val (.int n)]) = _
  unfold b_l_whole
  walk_at "ev"
theorem emod_mul_lt' (n : Int) {k : Int} (hk : 0 < k) : 0 ≤ n % k ∧ n % k < k := ⟨Int.emod_nonneg _ (by omega), Int.emod_lt_of_pos _ hk⟩
theorem size_spec (n : Int) (h0 : 0 ≤ n) (h1 : n < 2147483647) : ∃ s : Int, f_l_size_by [.int n] = .ok (.int s) ∧ 2 ≤ s ∧ s ≤ 1000000000000 := by
  rw [f_l_size_by, run_eq (by rfl)]
  show ∃ s, outAn (b_l_size_by [.val (.int n)]) = _ ∧ _
  unfold b_l_size_by
  by_cases h : n % 4 = 3
  · refine ⟨2 + n * n % 999999999999, ?_, ?_, ?_⟩
    · have e : oMod (.int (n * n)) (.int (1000000000000 - 1)) = .ok (.int (n * n % 999999999999)) := ev_mod (by decide)
      walk_at "ev"
    · have := Int.emod_nonneg (n * n) (show (999999999999 : Int) ≠ 0 by decide)
      omega
    · have := Int.emod_lt_of_pos (n * n) (show (0 : Int) < 999999999999 by decide)
      omega
  · obtain ⟨d, e, hd⟩ := idx_mem (ds := [.int 2, .int 10, .int 100, .int 1000, .int 100000, .int 1000000000000, .int 7, .int 60]) (k := n / 4 % 8) (by omega) (by show n / 4 % 8 < 8; omega)
    have hs : ∃ s : Int, d = .int s ∧ 2 ≤ s ∧ s ≤ 1000000000000 := by
      simp only [List.mem_cons, List.not_mem_nil, or_false] at hd
      rcases hd with rfl | rfl | rfl | rfl | rfl | rfl | rfl | rfl <;> exact ⟨_, rfl, by decide, by decide⟩
    obtain ⟨s, rfl, h2, h3⟩ := hs
    refine ⟨s, ?_, h2, h3⟩
    walk_at "ev"
end Mg
namespace Mg
open PySem PySem.Spec PyProof.Rows L2
def b_p_share : SX := (sRet (xOp oSub (xOp oFdiv (xOp oMul (xOp oAdd (xVar 2) (xC (.int 1))) (xVar 0)) (xVar 1)) (xOp oFdiv (xOp oMul (xVar 2) (xVar 0)) (xVar 1))))
def f_p_share : List D → An D := runDef 3 3 b_p_share
def b_law_02 : SX := (sSeq (sSet 1 (xOp oAdd (xC (.int 1)) (xOp oMod (xApp f_l_cell_at (aCons (xVar 0) (aCons (xC (.int 0)) aNil))) (xC (.int 60))))) (sSeq (sIf (tOf (xOp oEq (xOp oMod (xApp f_l_cell_at (aCons (xVar 0) (aCons (xC (.int 2)) aNil))) (xC (.int 8))) (xC (.int 5)))) (sSet 1 (xOp oAdd (xC (.int 1)) (xOp oMod (xApp f_l_cell_at (aCons (xVar 0) (aCons (xC (.int 0)) aNil))) (xC (.int 2000))))) sSkip) (sSeq (sSet 2 (xOp oMod (xApp f_l_cell_at (aCons (xVar 0) (aCons (xC (.int 1)) aNil))) (xOp oAdd (xOp oPow (xC (.int 10)) (xC (.int 15))) (xC (.int 1))))) (sSeq (sIf (tOf (xOp oEq (xOp oMod (xApp f_l_cell_at (aCons (xVar 0) (aCons (xC (.int 2)) aNil))) (xC (.int 3))) (xC (.int 1)))) (sSet 2 (xOp oMod (xVar 2) (xOp oAdd (xOp oMul (xC (.int 2)) (xVar 1)) (xC (.int 1))))) sSkip) (sSeq (sSet 3 (xC (.int 0))) (sSeq (sFor (iR1 (xVar 1)) (bName 4) (sSeq (sIf (tOf (xOp oNe (xVar 3) (xOp oFdiv (xOp oMul (xVar 4) (xVar 2)) (xVar 1)))) (sRet (xC (.bool false))) sSkip) (sSeq (sSet 5 (xApp f_p_share (aCons (xVar 2) (aCons (xVar 1) (aCons (xVar 4) aNil))))) (sSeq (sIf (tOrX (tNotX (tOf (xApp f_l_whole (aCons (xVar 5) aNil)))) (tOf (xOp oLt (xVar 5) (xC (.int 0))))) (sRet (xC (.bool false))) sSkip) (sSet 3 (xOp oAdd (xVar 3) (xVar 5))))))) (sRet (xOp oEq (xVar 3) (xVar 2)))))))))
def f_law_02 : List D → An D := runDef 6 1 b_law_02
end Mg
namespace Mg
open PySem PySem.Spec PyProof.Rows L2
theorem share_spec (u n a : Int) (h : 0 < n) (h1 : n ≤ 100000) (h2 : -100000 ≤ a) (h3 : a ≤ 100000) : f_p_share [.int u, .int n, .int a] = .ok (.int ((a + 1) * u / n - a * u / n)) := by
  rw [f_p_share, run_eq (by rfl)]
  show outAn (b_p_share [.val (.int u), .val (.int n), .val (.int a)]) = _
  unfold b_p_share
  walk_at "ev"
/-- what the days ahead of day i have -/
def ahead (u n : Int) (i : Int) : Int := i * u / n
theorem share_nonneg {u n : Int} (a : Int) (hu : 0 ≤ u) (hn : 0 < n) : 0 ≤ (a + 1) * u / n - a * u / n := by
  have h : a * u ≤ (a + 1) * u := by
    rw [Int.add_mul, Int.one_mul]
    omega
  have := Int.ediv_le_ediv hn h
  omega
end Mg
namespace Mg
open PySem PySem.Spec PyProof.Rows L2
def b_p_with_tariff : SX := (sSeq (sIf (tOf (xOp oIn (xOp oIdx (xVar 1) (xC (.int 0))) (xL (nErr (xLc (iT (xVar 0)) [4] (bName 4) tYesX (xOp oIdx (xVar 4) (xC (.int 0)))))))) (sRaise .stands) sSkip) (sSeq (sSet 2 (xApp oTuple (aCons (xL (nErr (xLc (iT (xVar 0)) [4] (bName 4) (tOf (xOp oLt (xOp oIdx (xVar 4) (xC (.int 0))) (xOp oIdx (xVar 1) (xC (.int 0))))) (xVar 4)))) aNil))) (sSeq (sSet 3 (xApp oTuple (aCons (xL (nErr (xLc (iT (xVar 0)) [4] (bName 4) (tOf (xOp oGt (xOp oIdx (xVar 4) (xC (.int 0))) (xOp oIdx (xVar 1) (xC (.int 0))))) (xVar 4)))) aNil))) (sRet (xOp oAdd (xOp oAdd (xVar 2) (xTup (aCons (xVar 1) aNil))) (xVar 3))))))
def f_p_with_tariff : List D → An D := runDef 5 2 b_p_with_tariff
def b_p_tariff_on : SX := (sSeq (sSet 2 (xC .none)) (sSeq (sFor (iT (xVar 0)) (bName 3) (sIf (tOf (xOp oLe (xOp oIdx (xVar 3) (xC (.int 0))) (xVar 1))) (sSet 2 (xVar 3)) sSkip)) (sRet (xVar 2))))
def f_p_tariff_on : List D → An D := runDef 4 2 b_p_tariff_on
def b_p_cost : SX := (sSeq (sIf (tOf (xOp oIsN (xVar 0) (xC .none))) (sRet (xC (.int 0))) sSkip) (sSeq (sAsg (bTup [2, 3, 4, 5, 6]) (xVar 0)) (sRet (xOp oAdd (xOp oAdd (xVar 3) (xOp oMul (xVar 4) (xApp oMin (aCons (xVar 1) (aCons (xVar 5) aNil))))) (xOp oMul (xVar 6) (xApp oMax (aCons (xC (.int 0)) (aCons (xOp oSub (xVar 1) (xVar 5)) aNil))))))))
def f_p_cost : List D → An D := runDef 7 2 b_p_cost
def b_l_tariff_by : SX := (sSeq (sSet 2 (xOp oIdx (xL (aCons (xOp oMod (xVar 0) (xC (.int 12))) (aCons (xOp oMod (xVar 0) (xC (.int 2001))) aNil))) (xOp oMod (xOp oFdiv (xVar 0) (xC (.int 5))) (xC (.int 2))))) (sSeq (sSet 3 (xOp oIdx (xL (aCons (xC (.int 0)) (aCons (xC (.int 1)) (aCons (xOp oMod (xVar 1) (xOp oAdd (xOp oPow (xC (.int 10)) (xC (.int 9))) (xC (.int 1)))) aNil)))) (xOp oMod (xOp oFdiv (xVar 0) (xC (.int 7))) (xC (.int 3))))) (sSeq (sSet 4 (xOp oIdx (xL (aCons (xC (.int 0)) (aCons (xC (.int 3)) (aCons (xOp oMod (xOp oFdiv (xVar 1) (xC (.int 7))) (xOp oAdd (xOp oPow (xC (.int 10)) (xC (.int 9))) (xC (.int 1)))) aNil)))) (xOp oMod (xOp oFdiv (xVar 0) (xC (.int 21))) (xC (.int 3))))) (sSeq (sSet 5 (xOp oIdx (xL (aCons (xC (.int 0)) (aCons (xC (.int 1)) (aCons (xC (.int 30)) (aCons (xOp oMod (xOp oMul (xVar 1) (xC (.int 48271))) (xOp oAdd (xOp oPow (xC (.int 10)) (xC (.int 12))) (xC (.int 1)))) aNil))))) (xOp oMod (xOp oFdiv (xVar 0) (xC (.int 63))) (xC (.int 4))))) (sRet (xTup (aCons (xVar 2) (aCons (xOp oMod (xOp oFdiv (xVar 1) (xC (.int 3))) (xOp oIdx (xL (aCons (xC (.int 1)) (aCons (xC (.int 100)) (aCons (xOp oAdd (xOp oPow (xC (.int 10)) (xC (.int 9))) (xC (.int 1))) aNil)))) (xOp oMod (xOp oFdiv (xVar 0) (xC (.int 252))) (xC (.int 3))))) (aCons (xVar 3) (aCons (xVar 5) (aCons (xVar 4) aNil)))))))))))
def f_l_tariff_by : List D → An D := runDef 6 2 b_l_tariff_by
def b_l_refused : SX := (sSeq (sTry 2 (sDrop (xApp f_p_with_tariff (aCons (xVar 0) (aCons (xVar 1) aNil)))) (fun e => (sSeq (sIf (tOrX (tOf (xErr 2 (decide (xr_i e = .noMeter)))) (tOrX (tOf (xErr 2 (decide (xr_i e = .noReading)))) (tOrX (tOf (xErr 2 (decide (xr_i e = .notLater)))) (tOf (xErr 2 (decide (xr_i e = .noValue))))))) (sRet (xC (.bool false))) sSkip) (sRet (xAnd (xErr 2 true) (xErr 2 (decide (xr_i e = .stands)))))))) (sRet (xC (.bool false))))
def f_l_refused : List D → An D := runDef 3 2 b_l_refused
def b_l_cost_right : SX := (sSeq (sSet 2 (xOp oAdd (xOp oIdx (xVar 0) (xC (.int 1))) (xOp oMul (xOp oIdx (xVar 0) (xC (.int 2))) (xVar 1)))) (sSeq (sIf (tOf (xOp oGt (xVar 1) (xOp oIdx (xVar 0) (xC (.int 3))))) (sSet 2 (xOp oAdd (xOp oAdd (xOp oIdx (xVar 0) (xC (.int 1))) (xOp oMul (xOp oIdx (xVar 0) (xC (.int 2))) (xOp oIdx (xVar 0) (xC (.int 3))))) (xOp oMul (xOp oIdx (xVar 0) (xC (.int 4))) (xOp oSub (xVar 1) (xOp oIdx (xVar 0) (xC (.int 3))))))) sSkip) (sSeq (sSet 3 (xApp f_p_cost (aCons (xVar 0) (aCons (xVar 1) aNil)))) (sRet (xAnd (xApp f_l_whole (aCons (xVar 3) aNil)) (xOp oEq (xVar 3) (xVar 2)))))))
def f_l_cost_right : List D → An D := runDef 4 2 b_l_cost_right
def b_law_03 : SX := (sSeq (sSet 1 (xTup aNil)) (sSeq (sSet 2 (xL aNil)) (sSeq (sSet 3 (xOp oMod (xApp f_l_cell_at (aCons (xVar 0) (aCons (xC (.int 0)) aNil))) (xC (.int 10)))) (sSeq (sIf (tOf (xOp oEq (xOp oMod (xApp f_l_cell_at (aCons (xVar 0) (aCons (xC (.int 0)) aNil))) (xC (.int 8))) (xC (.int 5)))) (sSet 3 (xOp oAdd (xC (.int 10)) (xOp oMod (xOp oFdiv (xApp f_l_cell_at (aCons (xVar 0) (aCons (xC (.int 0)) aNil))) (xC (.int 8))) (xC (.int 40))))) sSkip) (sSeq (sFor (iR1 (xVar 3)) (bName 4) (sSeq (sSet 8 (xApp f_l_tariff_by (aCons (xApp f_l_mixed (aCons (xVar 0) (aCons (xOp oAdd (xC (.int 3)) (xOp oMul (xC (.int 2)) (xVar 4))) aNil))) (aCons (xApp f_l_mixed (aCons (xVar 0) (aCons (xOp oAdd (xC (.int 4)) (xOp oMul (xC (.int 2)) (xVar 4))) aNil))) aNil)))) (sSeq (sIf (tOf (xOp oIn (xOp oIdx (xVar 8) (xC (.int 0))) (xL (nErr (xLc (iL (xVar 2)) [7] (bName 7) tYesX (xOp oIdx (xVar 7) (xC (.int 0)))))))) (sSeq (sIf (tNotX (tOf (xApp f_l_refused (aCons (xVar 1) (aCons (xVar 8) aNil))))) (sRet (xC (.bool false))) sSkip) sCt) sSkip) (sSeq (sSet 9 (xL (xAppL oList (aCons (xVar 1) aNil)))) (sSeq (sSet 10 (xApp f_p_with_tariff (aCons (xVar 1) (aCons (xVar 8) aNil)))) (sSeq (sSet 2 (xL (xAppL oSorted (aCons (xL (xOpL oCat (xVar 2) (xL (aCons (xVar 8) aNil)))) aNil)))) (sSeq (sIf (tOrX (tNotX (tOf (xUn (oIsA "tuple") (xVar 10)))) (tOrX (tOf (xOp oNe (xL (xAppL oList (aCons (xVar 10) aNil))) (xVar 2))) (tOf (xOp oNe (xL (xAppL oList (aCons (xVar 1) aNil))) (xVar 9))))) (sRet (xC (.bool false))) sSkip) (sSet 1 (xVar 10))))))))) (sSeq (sFor (iL (xL (aCons (xOp oMod (xApp f_l_cell_at (aCons (xVar 0) (aCons (xC (.int 1)) aNil))) (xC (.int 13))) (aCons (xOp oMod (xApp f_l_cell_at (aCons (xVar 0) (aCons (xC (.int 2)) aNil))) (xC (.int 2001))) aNil)))) (bName 5) (sSeq (sSet 11 (xC .none)) (sSeq (sFor (iL (xVar 2)) (bName 7) (sIf (tOf (xOp oLe (xOp oIdx (xVar 7) (xC (.int 0))) (xVar 5))) (sSet 11 (xVar 7)) sSkip)) (sIf (tOf (xOp oNe (xApp f_p_tariff_on (aCons (xVar 1) (aCons (xVar 5) aNil))) (xVar 11))) (sRet (xC (.bool false))) sSkip)))) (sSeq (sSet 6 (xOp oIdx (xL (aCons (xOp oMod (xApp f_l_cell_at (aCons (xVar 0) (aCons (xC (.int 2)) aNil))) (xC (.int 40))) (aCons (xOp oMod (xApp f_l_cell_at (aCons (xVar 0) (aCons (xC (.int 2)) aNil))) (xOp oAdd (xOp oPow (xC (.int 10)) (xC (.int 15))) (xC (.int 1)))) aNil))) (xOp oMod (xApp f_l_cell_at (aCons (xVar 0) (aCons (xC (.int 1)) aNil))) (xC (.int 2))))) (sSeq (sFor (iL (xVar 2)) (bName 7) (sIf (tOrX (tNotX (tOf (xApp f_l_cost_right (aCons (xVar 7) (aCons (xVar 6) aNil))))) (tOrX (tNotX (tOf (xApp f_l_cost_right (aCons (xVar 7) (aCons (xOp oIdx (xVar 7) (xC (.int 3))) aNil))))) (tNotX (tOf (xApp f_l_cost_right (aCons (xVar 7) (aCons (xOp oAdd (xOp oIdx (xVar 7) (xC (.int 3))) (xC (.int 1))) aNil))))))) (sRet (xC (.bool false))) sSkip)) (sRet (xOp oEq (xApp f_p_cost (aCons (xC .none) (aCons (xVar 6) aNil))) (xC (.int 0))))))))))))
def f_law_03 : List D → An D := runDef 12 1 b_law_03
end Mg
namespace Mg
open PySem PySem.Spec PyProof.Rows L2
def b_p_size_at : SX := (sSeq (sSet 2 (xC (.int 0))) (sSeq (sFor (iT (xSl (xVar 0) pNo (pAt (xOp oAdd (xVar 1) (xC (.int 1)))))) (bName 3) (sIf (tOf (xOp oEq (xOp oIdx (xVar 3) (xC (.int 0))) (xC (.str (PySem.Str.ofString "start"))))) (sSet 2 (xOp oIdx (xVar 3) (xC (.int 2)))) (sIf (tOf (xOp oEq (xOp oIdx (xVar 3) (xC (.int 0))) (xC (.str (PySem.Str.ofString "change"))))) (sSet 2 (xOp oIdx (xVar 3) (xC (.int 3)))) sSkip))) (sRet (xVar 2))))
def f_p_size_at : List D → An D := runDef 4 2 b_p_size_at
def b_p_begun : SX := (sSeq (sIf (tOf (xOp oGt (xApp oLen (aCons (xVar 0) aNil)) (xC (.int 0)))) (sRaise .stands) sSkip) (sSeq (sIf (tOf (xOp oGe (xVar 3) (xVar 2))) (sRaise .noValue) sSkip) (sRet (xTup (aCons (xTup (aCons (xC (.str (PySem.Str.ofString "start"))) (aCons (xVar 1) (aCons (xVar 2) (aCons (xVar 3) aNil))))) aNil)))))
def f_p_begun : List D → An D := runDef 4 4 b_p_begun
def b_p_need_later : SX := (sSeq (sIf (tOf (xOp oEq (xApp oLen (aCons (xVar 0) aNil)) (xC (.int 0)))) (sRaise .noMeter) sSkip) (sIf (tOf (xOp oLe (xVar 1) (xOp oIdx (xOp oIdx (xVar 0) (xUn oNeg (xC (.int 1)))) (xC (.int 1))))) (sRaise .notLater) sSkip))
def f_p_need_later : List D → An D := runDef 2 2 b_p_need_later
def b_p_read_on : SX := (sSeq (sDrop (xApp f_p_need_later (aCons (xVar 0) (aCons (xVar 1) aNil)))) (sSeq (sIf (tOf (xOp oGe (xVar 2) (xApp f_p_size_at (aCons (xVar 0) (aCons (xOp oSub (xApp oLen (aCons (xVar 0) aNil)) (xC (.int 1))) aNil))))) (sRaise .noValue) sSkip) (sRet (xOp oAdd (xVar 0) (xTup (aCons (xTup (aCons (xC (.str (PySem.Str.ofString "read"))) (aCons (xVar 1) (aCons (xVar 2) (aCons (xC (.bool false)) aNil))))) aNil))))))
def f_p_read_on : List D → An D := runDef 3 3 b_p_read_on
def b_p_changed_on : SX := (sSeq (sDrop (xApp f_p_need_later (aCons (xVar 0) (aCons (xVar 1) aNil)))) (sSeq (sIf (tOrX (tOf (xOp oGe (xVar 2) (xApp f_p_size_at (aCons (xVar 0) (aCons (xOp oSub (xApp oLen (aCons (xVar 0) aNil)) (xC (.int 1))) aNil))))) (tOf (xOp oGe (xVar 4) (xVar 3)))) (sRaise .noValue) sSkip) (sRet (xOp oAdd (xVar 0) (xTup (aCons (xTup (aCons (xC (.str (PySem.Str.ofString "change"))) (aCons (xVar 1) (aCons (xVar 2) (aCons (xVar 3) (aCons (xVar 4) aNil)))))) aNil))))))
def f_p_changed_on : List D → An D := runDef 5 5 b_p_changed_on
def b_l_classes (e : Xc) : SX := (sSeq (sSet 1 (xL (aCons (xErr 0 (decide (xr_i e = .noMeter))) (aCons (xErr 0 (decide (xr_i e = .stands))) (aCons (xErr 0 (decide (xr_i e = .notLater))) (aCons (xErr 0 (decide (xr_i e = .noValue))) aNil)))))) (sSeq (sIf (tOrX (tNotX (tOf (xErr 0 true))) (tOrX (tOf (xErr 0 (decide (xr_i e = .noReading)))) (tOf (xOp oNe (xMt oCount (xVar 1) (xC (.bool true))) (xC (.int 1)))))) (sRet (xUn oNeg (xC (.int 1)))) sSkip) (sRet (xMt oIndex (xVar 1) (xC (.bool true))))))
def h_l_classes (e : Xc) : D := match b_l_classes e (.err :: List.replicate 1 Slot.un) with | .ret d => d | _ => .none
def b_l_value_of : SX := (sRet (xOp oIdx (xL (aCons (xOp oMod (xOp oFdiv (xVar 0) (xC (.int 3))) (xVar 1)) (aCons (xOp oMod (xOp oFdiv (xVar 0) (xC (.int 3))) (xVar 1)) (aCons (xOp oSub (xVar 1) (xC (.int 1))) (aCons (xVar 1) aNil))))) (xOp oMod (xVar 0) (xC (.int 4)))))
def f_l_value_of : List D → An D := runDef 2 2 b_l_value_of
def b_l_sizes : SX := (sSeq (sOwn 1 aNil) (sSeq (sFor (iT (xVar 0)) (bName 2) (sIf (tOf (xOp oEq (xOp oIdx (xVar 2) (xC (.int 0))) (xC (.str (PySem.Str.ofString "start"))))) (sApp 1 (xOp oIdx (xVar 2) (xC (.int 2)))) (sIf (tOf (xOp oEq (xOp oIdx (xVar 2) (xC (.int 0))) (xC (.str (PySem.Str.ofString "change"))))) (sApp 1 (xOp oIdx (xVar 2) (xC (.int 3)))) (sApp 1 (xIxO 1 (xUn oNeg (xC (.int 1)))))))) (sFrz 1 (sRet (xVar 1)))))
def f_l_sizes : List D → An D := runDef 3 1 b_l_sizes
def b_l_day_by : SX := (sSeq (sSet 2 (xC (.int 0))) (sSeq (sIf (tOf (xOp oGt (xApp oLen (aCons (xVar 0) aNil)) (xC (.int 0)))) (sSet 2 (xOp oIdx (xOp oIdx (xVar 0) (xUn oNeg (xC (.int 1)))) (xC (.int 1)))) sSkip) (sRet (xApp oMin (aCons (xC (.int 2000)) (aCons (xApp oMax (aCons (xC (.int 0)) (aCons (xOp oIdx (xL (aCons (xOp oAdd (xOp oAdd (xVar 2) (xC (.int 1))) (xOp oMod (xVar 1) (xC (.int 9)))) (aCons (xOp oAdd (xVar 2) (xC (.int 1))) (aCons (xVar 2) (aCons (xOp oSub (xVar 2) (xC (.int 1))) (aCons (xOp oMod (xVar 1) (xC (.int 300))) aNil)))))) (xOp oMod (xOp oFdiv (xVar 1) (xC (.int 9))) (xC (.int 5)))) aNil))) aNil))))))
def f_l_day_by : List D → An D := runDef 3 2 b_l_day_by
def b_l_done : SX := (sSeq (sIf (tOf (xOp oEq (xVar 1) (xC (.int 0)))) (sRet (xApp f_p_begun (aCons (xVar 0) (aCons (xVar 2) (aCons (xVar 4) (aCons (xOp oIdx (xVar 3) (xC (.int 1))) aNil)))))) sSkip) (sSeq (sIf (tOf (xOp oEq (xVar 1) (xC (.int 1)))) (sRet (xApp f_p_changed_on (aCons (xVar 0) (aCons (xVar 2) (aCons (xOp oIdx (xVar 3) (xC (.int 0))) (aCons (xVar 4) (aCons (xOp oIdx (xVar 3) (xC (.int 1))) aNil))))))) sSkip) (sRet (xApp f_p_read_on (aCons (xVar 0) (aCons (xVar 2) (aCons (xOp oIdx (xVar 3) (xC (.int 0))) aNil)))))))
def f_l_done : List D → An D := runDef 5 5 b_l_done
def b_l_due : SX := (sSeq (sIf (tOf (xOp oEq (xVar 1) (xC (.int 0)))) (sSeq (sIf (tOf (xOp oGt (xApp oLen (aCons (xVar 0) aNil)) (xC (.int 0)))) (sRet (xC (.int 1))) sSkip) (sRet (xOp oIdx (xL (aCons (xC (.int 4)) (aCons (xC (.int 3)) aNil))) (xApp oIntOf (aCons (xOp oGe (xOp oIdx (xVar 3) (xC (.int 1))) (xVar 5)) aNil))))) sSkip) (sSeq (sIf (tOf (xOp oEq (xApp oLen (aCons (xVar 0) aNil)) (xC (.int 0)))) (sRet (xC (.int 0))) sSkip) (sSeq (sIf (tOf (xOp oLe (xVar 2) (xOp oIdx (xOp oIdx (xVar 0) (xUn oNeg (xC (.int 1)))) (xC (.int 1))))) (sRet (xC (.int 2))) sSkip) (sSeq (sIf (tOrX (tOf (xOp oGe (xOp oIdx (xVar 3) (xC (.int 0))) (xVar 4))) (tAndX (tOf (xOp oEq (xVar 1) (xC (.int 1)))) (tOf (xOp oGe (xOp oIdx (xVar 3) (xC (.int 1))) (xVar 5))))) (sRet (xC (.int 3))) sSkip) (sRet (xC (.int 4)))))))
def f_l_due : List D → An D := runDef 6 6 b_l_due
def b_l_entry : SX := (sSeq (sIf (tOf (xOp oEq (xVar 0) (xC (.int 0)))) (sRet (xTup (aCons (xC (.str (PySem.Str.ofString "start"))) (aCons (xVar 1) (aCons (xVar 3) (aCons (xOp oIdx (xVar 2) (xC (.int 1))) aNil)))))) sSkip) (sSeq (sIf (tOf (xOp oEq (xVar 0) (xC (.int 1)))) (sRet (xTup (aCons (xC (.str (PySem.Str.ofString "change"))) (aCons (xVar 1) (aCons (xOp oIdx (xVar 2) (xC (.int 0))) (aCons (xVar 3) (aCons (xOp oIdx (xVar 2) (xC (.int 1))) aNil))))))) sSkip) (sRet (xTup (aCons (xC (.str (PySem.Str.ofString "read"))) (aCons (xVar 1) (aCons (xOp oIdx (xVar 2) (xC (.int 0))) (aCons (xC (.bool false)) aNil))))))))
def f_l_entry : List D → An D := runDef 4 4 b_l_entry
def b_law_04 : SX := (sSeq (sSet 1 (xTup aNil)) (sSeq (sFor (iR1 (xApp oLen (aCons (xSl (xVar 0) (pAt (xC (.int 2))) (pAt (xC (.int 32)))) aNil))) (bName 2) (sSeq (sSet 3 (xApp f_l_mixed (aCons (xVar 0) (aCons (xOp oAdd (xC (.int 40)) (xVar 2)) aNil)))) (sSeq (sSet 4 (xApp f_l_mixed (aCons (xVar 0) (aCons (xOp oAdd (xC (.int 80)) (xVar 2)) aNil)))) (sSeq (sSet 5 (xOp oMod (xVar 3) (xC (.int 5)))) (sSeq (sIf (tAndX (tOf (xOp oEq (xApp oLen (aCons (xVar 1) aNil)) (xC (.int 0)))) (tOf (xOp oGt (xOp oMod (xApp f_l_cell_at (aCons (xVar 0) (aCons (xC (.int 0)) aNil))) (xC (.int 3))) (xC (.int 0))))) (sSet 5 (xC (.int 0))) sSkip) (sSeq (sSet 6 (xC (.int 10))) (sSeq (sIf (tOf (xOp oGt (xApp oLen (aCons (xVar 1) aNil)) (xC (.int 0)))) (sSet 6 (xOp oIdx (xApp f_l_sizes (aCons (xVar 1) aNil)) (xUn oNeg (xC (.int 1))))) sSkip) (sSeq (sSet 7 (xApp f_l_size_by (aCons (xVar 4) aNil))) (sSeq (sSet 8 (xApp f_l_day_by (aCons (xVar 1) (aCons (xOp oFdiv (xVar 3) (xC (.int 5))) aNil)))) (sSeq (sSet 9 (xL (aCons (xApp f_l_value_of (aCons (xOp oFdiv (xVar 4) (xC (.int 7))) (aCons (xVar 6) aNil))) (aCons (xApp f_l_value_of (aCons (xOp oFdiv (xVar 3) (xC (.int 11))) (aCons (xVar 7) aNil))) aNil)))) (sSeq (sSet 10 (xApp f_l_due (aCons (xVar 1) (aCons (xVar 5) (aCons (xVar 8) (aCons (xVar 9) (aCons (xVar 6) (aCons (xVar 7) aNil)))))))) (sSeq (sSet 11 (xL (xAppL oList (aCons (xVar 1) aNil)))) (sSeq (sTry 12 (sSet 13 (xApp f_l_done (aCons (xVar 1) (aCons (xVar 5) (aCons (xVar 8) (aCons (xVar 9) (aCons (xVar 7) aNil))))))) (fun e => (sSeq (sIf (tOf (xOp oNe (xHot 12 (h_l_classes e)) (xVar 10))) (sRet (xC (.bool false))) sSkip) sCt))) (sSeq (sIf (tOrX (tOf (xOp oNe (xVar 10) (xC (.int 4)))) (tOrX (tOf (xOp oNe (xL (xAppL oList (aCons (xVar 1) aNil))) (xVar 11))) (tNotX (tOf (xUn (oIsA "tuple") (xVar 13)))))) (sRet (xC (.bool false))) sSkip) (sSeq (sIf (tOf (xOp oNe (xVar 13) (xOp oAdd (xVar 1) (xTup (aCons (xApp f_l_entry (aCons (xVar 5) (aCons (xVar 8) (aCons (xVar 9) (aCons (xVar 7) aNil))))) aNil))))) (sRet (xC (.bool false))) sSkip) (sSeq (sIf (tAndX (tOf (xOp oGt (xVar 5) (xC (.int 1)))) (tNotX (tOf (xUn (oIsA "bool") (xOp oIdx (xOp oIdx (xVar 13) (xUn oNeg (xC (.int 1)))) (xC (.int 3))))))) (sRet (xC (.bool false))) sSkip) (sSet 1 (xVar 13)))))))))))))))))) (sRet (xOp oEq (xL (nErr (xLc (iR1 (xApp oLen (aCons (xVar 1) aNil))) [2] (bName 2) tYesX (xApp f_p_size_at (aCons (xVar 1) (aCons (xVar 2) aNil)))))) (xApp f_l_sizes (aCons (xVar 1) aNil))))))
def f_law_04 : List D → An D := runDef 14 1 b_law_04
end Mg
namespace Mg
open PySem PySem.Spec PyProof.Rows L2
def b_p_struck : SX := (sSeq (sOwn 2 (xAppL oList (aCons (xVar 0) aNil))) (sSeq (sFor (iR1 (xApp oLen (aCons (xVar 0) aNil))) (bName 3) (sIf (tAndX (tOf (xOp oEq (xOp oIdx (xOp oIdx (xVar 0) (xVar 3)) (xC (.int 0))) (xC (.str (PySem.Str.ofString "read"))))) (tAndX (tOf (xOp oEq (xOp oIdx (xOp oIdx (xVar 0) (xVar 3)) (xC (.int 1))) (xVar 1))) (tNotX (tOf (xOp oIdx (xOp oIdx (xVar 0) (xVar 3)) (xC (.int 3))))))) (sSeq (sSetI 2 (xVar 3) (xTup (aCons (xC (.str (PySem.Str.ofString "read"))) (aCons (xVar 1) (aCons (xOp oIdx (xOp oIdx (xVar 0) (xVar 3)) (xC (.int 2))) (aCons (xC (.bool true)) aNil)))))) (sFrz 2 (sRet (xApp oTuple (aCons (xVar 2) aNil))))) sSkip)) (sRaise .noReading)))
def f_p_struck : List D → An D := runDef 4 2 b_p_struck
def b_l_most_by : SX := (sSeq (sIf (tOf (xOp oEq (xOp oMod (xVar 0) (xC (.int 8))) (xC (.int 7)))) (sRet (xOp oMod (xOp oFdiv (xVar 0) (xC (.int 8))) (xOp oAdd (xOp oPow (xC (.int 10)) (xC (.int 12))) (xC (.int 1))))) sSkip) (sRet (xOp oIdx (xL (aCons (xC (.int 0)) (aCons (xC (.int 1)) (aCons (xC (.int 3)) (aCons (xC (.int 10)) (aCons (xC (.int 40)) (aCons (xOp oPow (xC (.int 10)) (xC (.int 12))) (aCons (xC (.int 100)) aNil)))))))) (xOp oMod (xVar 0) (xC (.int 8))))))
def f_l_most_by : List D → An D := runDef 1 1 b_l_most_by
def b_l_value_by : SX := (sSeq (sIf (tOf (xOp oEq (xOp oMod (xVar 0) (xC (.int 4))) (xC (.int 0)))) (sRet (xOp oMod (xOp oMul (xVar 1) (xC (.int 69621))) (xVar 2))) sSkip) (sSeq (sIf (tOf (xOp oEq (xOp oMod (xVar 0) (xC (.int 4))) (xC (.int 1)))) (sRet (xVar 3)) sSkip) (sRet (xOp oMod (xOp oAdd (xVar 3) (xOp oMod (xVar 1) (xOp oAdd (xVar 4) (xC (.int 2))))) (xVar 2)))))
def f_l_value_by : List D → An D := runDef 5 5 b_l_value_by
def b_l_entry_by : SX := (sSeq (sSet 6 (xOp oAdd (xC (.int 1)) (xOp oMod (xVar 0) (xC (.int 9))))) (sSeq (sIf (tAndX (tOf (xOp oEq (xOp oMod (xOp oFdiv (xVar 0) (xC (.int 9))) (xC (.int 16))) (xC (.int 1)))) (tOf (xOp oLt (xVar 2) (xC (.int 150))))) (sSet 6 (xOp oAdd (xC (.int 1)) (xOp oMod (xOp oFdiv (xVar 0) (xC (.int 144))) (xC (.int 60))))) sSkip) (sSeq (sSet 7 (xApp f_l_value_by (aCons (xOp oFdiv (xVar 0) (xC (.int 7))) (aCons (xVar 1) (aCons (xVar 4) (aCons (xVar 3) (aCons (xOp oMul (xVar 5) (xVar 6)) aNil))))))) (sSeq (sIf (tOf (xOp oEq (xOp oMod (xOp oFdiv (xVar 0) (xC (.int 11))) (xC (.int 8))) (xC (.int 0)))) (sSeq (sSet 8 (xApp f_l_size_by (aCons (xOp oFdiv (xVar 1) (xC (.int 5))) aNil))) (sRet (xTup (aCons (xC (.str (PySem.Str.ofString "change"))) (aCons (xOp oAdd (xVar 2) (xVar 6)) (aCons (xVar 7) (aCons (xVar 8) (aCons (xOp oMod (xOp oFdiv (xVar 1) (xC (.int 3))) (xVar 8)) aNil)))))))) sSkip) (sRet (xTup (aCons (xC (.str (PySem.Str.ofString "read"))) (aCons (xOp oAdd (xVar 2) (xVar 6)) (aCons (xVar 7) (aCons (xOp oEq (xOp oMod (xOp oFdiv (xVar 0) (xC (.int 13))) (xC (.int 5))) (xC (.int 1))) aNil))))))))))
def f_l_entry_by : List D → An D := runDef 9 6 b_l_entry_by
def b_l_history_by : SX := (sSeq (sSet 3 (xApp f_l_mixed (aCons (xVar 0) (aCons (xC (.int 1)) aNil)))) (sSeq (sSet 4 (xApp f_l_size_by (aCons (xApp f_l_mixed (aCons (xVar 0) (aCons (xC (.int 2)) aNil))) aNil))) (sSeq (sOwn 5 (aCons (xTup (aCons (xC (.str (PySem.Str.ofString "start"))) (aCons (xOp oMod (xVar 3) (xC (.int 12))) (aCons (xVar 4) (aCons (xOp oMod (xApp f_l_mixed (aCons (xVar 0) (aCons (xC (.int 3)) aNil))) (xVar 4)) aNil))))) aNil)) (sSeq (sSet 6 (xOp oIdx (xIxO 5 (xC (.int 0))) (xC (.int 3)))) (sSeq (sFor (iR1 (xVar 1)) (bName 7) (sSeq (sSet 3 (xApp f_l_mixed (aCons (xVar 0) (aCons (xOp oAdd (xC (.int 10)) (xOp oMul (xC (.int 2)) (xVar 7))) aNil)))) (sSeq (sSet 8 (xApp f_l_entry_by (aCons (xVar 3) (aCons (xApp f_l_mixed (aCons (xVar 0) (aCons (xOp oAdd (xC (.int 11)) (xOp oMul (xC (.int 2)) (xVar 7))) aNil))) (aCons (xOp oIdx (xIxO 5 (xUn oNeg (xC (.int 1)))) (xC (.int 1))) (aCons (xVar 6) (aCons (xVar 4) (aCons (xVar 2) aNil)))))))) (sSeq (sApp 5 (xVar 8)) (sSeq (sSet 6 (xOp oIdx (xVar 8) (xC (.int 2)))) (sIf (tOf (xOp oEq (xOp oIdx (xVar 8) (xC (.int 0))) (xC (.str (PySem.Str.ofString "change"))))) (sSeq (sSet 4 (xOp oIdx (xVar 8) (xC (.int 3)))) (sSet 6 (xOp oIdx (xVar 8) (xC (.int 4))))) sSkip)))))) (sFrz 5 (sRet (xApp oTuple (aCons (xVar 5) aNil)))))))))
def f_l_history_by : List D → An D := runDef 9 3 b_l_history_by
def b_l_many_by : SX := (sSeq (sIf (tOf (xOp oEq (xOp oMod (xVar 0) (xC (.int 8))) (xC (.int 5)))) (sRet (xOp oAdd (xC (.int 12)) (xOp oMod (xOp oFdiv (xVar 0) (xC (.int 8))) (xC (.int 17))))) sSkip) (sRet (xOp oMod (xOp oFdiv (xVar 0) (xC (.int 8))) (xC (.int 9)))))
def f_l_many_by : List D → An D := runDef 1 1 b_l_many_by
def b_l_refused_05 : SX := (sSeq (sTry 2 (sDrop (xApp f_p_struck (aCons (xVar 0) (aCons (xVar 1) aNil)))) (fun e => (sSeq (sSet 3 (xL (aCons (xErr 2 (decide (xr_i e = .noMeter))) (aCons (xErr 2 (decide (xr_i e = .stands))) (aCons (xErr 2 (decide (xr_i e = .notLater))) aNil))))) (sSeq (sIf (tOrX (tOf (xErr 2 (decide (xr_i e = .noValue)))) (tOf (xOp oIn (xC (.bool true)) (xVar 3)))) (sRet (xC (.bool false))) sSkip) (sRet (xAnd (xErr 2 true) (xErr 2 (decide (xr_i e = .noReading))))))))) (sRet (xC (.bool false))))
def f_l_refused_05 : List D → An D := runDef 4 2 b_l_refused_05
def b_law_05 : SX := (sSeq (sSet 1 (xApp f_l_most_by (aCons (xApp f_l_cell_at (aCons (xVar 0) (aCons (xC (.int 0)) aNil))) aNil))) (sSeq (sSet 2 (xApp f_l_history_by (aCons (xVar 0) (aCons (xApp f_l_many_by (aCons (xApp f_l_cell_at (aCons (xVar 0) (aCons (xC (.int 4)) aNil))) aNil)) (aCons (xVar 1) aNil))))) (sSeq (sIf (tOf (xOp oEq (xOp oMod (xApp f_l_cell_at (aCons (xVar 0) (aCons (xC (.int 5)) aNil))) (xC (.int 16))) (xC (.int 3)))) (sSet 2 (xTup aNil)) sSkip) (sSeq (sSet 3 (xOp oMod (xOp oFdiv (xApp f_l_cell_at (aCons (xVar 0) (aCons (xC (.int 5)) aNil))) (xC (.int 16))) (xC (.int 2001)))) (sSeq (sIf (tAndX (tOf (xOp oGt (xApp oLen (aCons (xVar 2) aNil)) (xC (.int 0)))) (tOf (xOp oGt (xOp oMod (xApp f_l_cell_at (aCons (xVar 0) (aCons (xC (.int 5)) aNil))) (xC (.int 4))) (xC (.int 0))))) (sSet 3 (xOp oIdx (xOp oIdx (xVar 2) (xOp oMod (xApp f_l_cell_at (aCons (xVar 0) (aCons (xC (.int 6)) aNil))) (xApp oLen (aCons (xVar 2) aNil)))) (xC (.int 1)))) sSkip) (sSeq (sOwn 4 (nErr (xLc (iT (xVar 2)) [8] (bName 8) (tAndX (tOf (xOp oEq (xOp oIdx (xVar 8) (xC (.int 0))) (xC (.str (PySem.Str.ofString "read"))))) (tAndX (tOf (xOp oEq (xOp oIdx (xVar 8) (xC (.int 1))) (xVar 3))) (tNotX (tOf (xOp oIdx (xVar 8) (xC (.int 3))))))) (xVar 8)))) (sFrz 4 (sSeq (sIf (tOf (xOp oEq (xVar 4) (xL aNil))) (sRet (xApp f_l_refused_05 (aCons (xVar 2) (aCons (xVar 3) aNil)))) sSkip) (sSeq (sSet 5 (xL (xAppL oList (aCons (xVar 2) aNil)))) (sSeq (sSet 6 (xApp f_p_struck (aCons (xVar 2) (aCons (xVar 3) aNil)))) (sSeq (sIf (tOrX (tNotX (tOf (xUn (oIsA "tuple") (xVar 6)))) (tOrX (tOf (xOp oNe (xApp oLen (aCons (xVar 6) aNil)) (xApp oLen (aCons (xVar 2) aNil)))) (tOf (xOp oNe (xL (xAppL oList (aCons (xVar 2) aNil))) (xVar 5))))) (sRet (xC (.bool false))) sSkip) (sSeq (sFor (iR1 (xApp oLen (aCons (xVar 2) aNil))) (bName 7) (sSeq (sSet 8 (xOp oIdx (xVar 2) (xVar 7))) (sSeq (sIf (tOf (xOp oEq (xVar 8) (xOp oIdx (xVar 4) (xC (.int 0))))) (sSet 8 (xTup (aCons (xC (.str (PySem.Str.ofString "read"))) (aCons (xVar 3) (aCons (xOp oIdx (xVar 8) (xC (.int 2))) (aCons (xC (.bool true)) aNil)))))) sSkip) (sIf (tOrX (tOf (xOp oNe (xOp oIdx (xVar 6) (xVar 7)) (xVar 8))) (tAndX (tOf (xOp oEq (xOp oIdx (xVar 8) (xC (.int 0))) (xC (.str (PySem.Str.ofString "read"))))) (tNotX (tOf (xUn (oIsA "bool") (xOp oIdx (xOp oIdx (xVar 6) (xVar 7)) (xC (.int 3)))))))) (sRet (xC (.bool false))) sSkip)))) (sRet (xApp f_l_refused_05 (aCons (xVar 6) (aCons (xVar 3) aNil))))))))))))))))
def f_law_05 : List D → An D := runDef 9 1 b_law_05
end Mg
namespace Mg
open PySem PySem.Spec PyProof.Rows L2
/-! ### typed words over denotations -/
/-- data of a depth, that == takes -/
def Sh (n : Nat) (d : D) : Prop := d.canLay0 = true ∧ d.depth ≤ n
theorem sh_none : Sh 0 .none := ⟨rfl, Nat.le_refl _⟩
theorem sh_int {i : Int} : Sh 0 (.int i) := ⟨rfl, Nat.le_refl _⟩
theorem sh_bool {b : Bool} : Sh 0 (.bool b) := ⟨rfl, Nat.le_refl _⟩
theorem sh_str {x : Str} (h : (PyData.str x).canLay0 = true) : Sh 0 (.str x) := ⟨h, Nat.le_refl _⟩
theorem Sh.le {m n : Nat} {d : D} (h : Sh m d) (l : m ≤ n) : Sh n d := ⟨h.1, Nat.le_trans h.2 l⟩
theorem sh_all {n : Nat} : ∀ {ds : List D}, (∀ d ∈ ds, Sh n d) → PyData.canLayAll0 ds = true ∧ PyData.depthAll ds ≤ n
  | [], _ => ⟨rfl, Nat.zero_le _⟩
  | d :: ds, h => by
    obtain ⟨h1, h2⟩ := h d List.mem_cons_self
    obtain ⟨h3, h4⟩ := sh_all (ds := ds) fun x hx => h x (List.mem_cons_of_mem _ hx)
    refine ⟨?_, ?_⟩
    · show (d.canLay0 && PyData.canLayAll0 ds) = true
      rw [h1, h3] <;> rfl
    · show max d.depth (PyData.depthAll ds) ≤ n
      omega
theorem sh_list {n : Nat} {ds : List D} (h : ∀ d ∈ ds, Sh n d) : Sh (n + 1) (.list ds) := ⟨(sh_all h).1, Nat.succ_le_succ (sh_all h).2⟩
theorem sh_tup {n : Nat} {ds : List D} (h : ∀ d ∈ ds, Sh n d) : Sh (n + 1) (.tuple ds) := ⟨(sh_all h).1, Nat.succ_le_succ (sh_all h).2⟩
theorem sh_cons {n : Nat} {d : D} {ds : List D} (h : Sh n d) (t : ∀ x ∈ ds, Sh n x) : ∀ x ∈ d :: ds, Sh n x := fun x hx => by
  rcases List.mem_cons.mp hx with rfl | hx
  · exact h
  · exact t x hx
theorem sh_nil {n : Nat} : ∀ x ∈ ([] : List D), Sh n x := fun x hx => nomatch hx
theorem sh_map {α : Type} {n : Nat} {enc : α → D} {xs : List α} (h : ∀ a ∈ xs, Sh n (enc a)) : ∀ d ∈ xs.map enc, Sh n d := fun d hd => by
  obtain ⟨a, ha, rfl⟩ := List.mem_map.mp hd
  exact h a ha
theorem Sh.ok {n : Nat} {d : D} (h : Sh n d) (hn : n ≤ 64) : SeqAt.shaped d = true := by
  show (d.canLay0 && decide (d.depth ≤ 64)) = true
  rw [h.1, decide_eq_true (show d.depth ≤ 64 from Nat.le_trans h.2 hn)] <;> rfl
theorem eq_sh {n : Nat} {d : D} (h : Sh n d) (hn : n ≤ 64) (hs : sEq d d = none) : oEq d d = .ok (.bool true) := eq_self (h.ok hn) hs
theorem ne_sh {n : Nat} {d : D} (h : Sh n d) (hn : n ≤ 64) (hs : sEq d d = none) : oNe d d = .ok (.bool false) := by
  unfold oNe
  rw [hs]
  show (if (SeqAt.shaped d && SeqAt.shaped d) = true then An.ok (PyData.bool (!PyData.eqv d d)) else .bad) = _
  rw [h.ok hn, if_pos (by rfl : (true && true) = true), SeqAt.eqv_refl d (SeqAt.canLay_of_shaped (h.ok hn))]
  rfl
theorem eqL_sh {n : Nat} {ds : List D} (h : ∀ d ∈ ds, Sh n d) (hn : n ≤ 63) : oEq (.list ds) (.list ds) = .ok (.bool true) := eq_sh (sh_list h) (by omega) rfl
theorem neL_sh {n : Nat} {ds : List D} (h : ∀ d ∈ ds, Sh n d) (hn : n ≤ 63) : oNe (.list ds) (.list ds) = .ok (.bool false) := ne_sh (sh_list h) (by omega) rfl
theorem eqT_sh {n : Nat} {ds : List D} (h : ∀ d ∈ ds, Sh n d) (hn : n ≤ 63) : oEq (.tuple ds) (.tuple ds) = .ok (.bool true) := eq_sh (sh_tup h) (by omega) rfl
theorem neT_sh {n : Nat} {ds : List D} (h : ∀ d ∈ ds, Sh n d) (hn : n ≤ 63) : oNe (.tuple ds) (.tuple ds) = .ok (.bool false) := ne_sh (sh_tup h) (by omega) rfl
/-- one of some whole numbers -/
theorem pick {xs : List Int} {k : Int} (P : Int → Prop) (h : ∀ x ∈ xs, P x) (h0 : 0 ≤ k) (h1 : k < xs.length) : ∃ x, oIdx (.list (xs.map .int)) (.int k) = .ok (.int x) ∧ P x := by
  obtain ⟨d, e, hd⟩ := idx_mem (ds := xs.map .int) h0 (by simpa using h1)
  obtain ⟨x, hx, rfl⟩ := List.mem_map.mp hd
  exact ⟨x, e, h x hx⟩
/-- a loop, as a fold -/
theorem loop_fold {α S : Type} {enc : α → D} {b : BX} {body : SX} (step : S → α → S) (P : S → Env → Prop) : ∀ (xs : List α) (s : S) (env : Env),
    (∀ s a env, a ∈ xs → P s env → ∃ env1 env2, b (enc a) env = some env1 ∧ (body env1 = .nx env2 ∨ body env1 = .ct env2) ∧ P (step s a) env2) → P s env → ∃ env', sLoop b body (xs.map enc) env = .nx env' ∧ P (xs.foldl step s) env'
  | [], s, env, _, h0 => ⟨env, rfl, h0⟩
  | a :: xs, s, env, h, h0 => by
    obtain ⟨env1, env2, e1, e2, h2⟩ := h s a env List.mem_cons_self h0
    obtain ⟨env', e3, h3⟩ := loop_fold step P xs (step s a) env2 (fun s a env ha => h s a env (List.mem_cons_of_mem _ ha)) h2
    refine ⟨env', ?_, h3⟩
    show sLoop b body (enc a :: xs.map enc) env = _
    rw [loop_cons e1 e2]
    exact e3
/-- a comprehension over typed things: which, and what -/
theorem lc_go {α : Type} {enc : α → D} {b : BX} {c : TX} {f : EX} {env0 : Env} (p : α → Bool) (g : α → D) : ∀ (xs : List α),
    (∀ a ∈ xs, ∃ env1, b (enc a) env0 = some env1 ∧ c env1 = .ok (p a) ∧ (p a = true → f env1 = .ok (g a))) → lcGo b c f env0 (xs.map enc) = .ok ((xs.filter p).map g)
  | [], _ => rfl
  | a :: xs, h => by
    obtain ⟨env1, e1, e2, e3⟩ := h a List.mem_cons_self
    have ih := lc_go p g xs fun a ha => h a (List.mem_cons_of_mem _ ha)
    show lcGo b c f env0 (enc a :: xs.map enc) = _
    unfold lcGo
    rw [e1]
    show (match c env1 with | .ok true => (match f env1 with | .ok x => (lcGo b c f env0 (xs.map enc)).bnd fun ys => .ok (x :: ys) | _ => .bad) | .ok false => lcGo b c f env0 (xs.map enc) | _ => .bad) = _
    rw [e2]
    cases hp : p a with
    | true =>
      rw [e3 hp] at *
      show (lcGo b c f env0 (xs.map enc)).bnd (fun ys => An.ok (g a :: ys)) = _
      rw [ih, List.filter_cons_of_pos hp]
      rfl
    | false =>
      show lcGo b c f env0 (xs.map enc) = _
      rw [ih, List.filter_cons_of_neg (by rw [hp]; exact Bool.false_ne_true)]
theorem lc_ok {α : Type} {enc : α → D} {src : AX} {vs : List Nat} {b : BX} {c : TX} {f : EX} {env : Env} (p : α → Bool) (g : α → D) (xs : List α) (hn : noErr env = true) (hs : src env = .ok (xs.map enc)) (hl : xs.length ≤ 100000)
    (h : ∀ a ∈ xs, ∃ env1, b (enc a) (wipeE env vs) = some env1 ∧ c env1 = .ok (p a) ∧ (p a = true → f env1 = .ok (g a))) : nErr (xLc src vs b c f) env = .ok ((xs.filter p).map g) := by
  unfold nErr
  rw [if_pos hn]
  show (src env).bnd (oLc vs b c f env) = _
  rw [hs]
  show (if (xs.map enc).length ≤ 100000 then lcGo b c f (wipeE env vs) (xs.map enc) else .bad) = _
  rw [if_pos (by simpa using hl)]
  exact lc_go p g xs h
/-- the same, without a test -/
theorem lc_all {α : Type} {enc : α → D} {src : AX} {vs : List Nat} {b : BX} {f : EX} {env : Env} (g : α → D) (xs : List α) (hn : noErr env = true) (hs : src env = .ok (xs.map enc)) (hl : xs.length ≤ 100000)
    (h : ∀ a ∈ xs, ∃ env1, b (enc a) (wipeE env vs) = some env1 ∧ f env1 = .ok (g a)) : nErr (xLc src vs b tYesX f) env = .ok (xs.map g) := by
  have q := lc_ok (c := tYesX) (fun _ => true) g xs hn hs hl fun a ha => by
    obtain ⟨env1, h1, h2⟩ := h a ha
    exact ⟨env1, h1, rfl, fun _ => h2⟩
  rwa [List.filter_eq_self.mpr (fun _ _ => rfl)] at q
/-- sorted, of things with keys, each its own -/
theorem sorted_key {α : Type} {enc : α → D} {key : α → Int} {xs ys : List α} (hk : ∀ a ∈ xs, ∀ b ∈ xs, PySem.W.dataLe false (fun d => d) (enc a) (enc b) = decide (key a ≤ key b)) (hp : ys.Perm xs) (hy : ys.Pairwise fun a b => key a < key b) (hl : xs.length ≤ 100000)
    (hi : ((xs.map enc).all isI || (xs.map enc).all isIT) = true) : oSorted [.list (xs.map enc)] = .ok (ys.map enc) := by
  show (if ((xs.map enc).all isI || (xs.map enc).all isIT) = true ∧ (xs.map enc).length ≤ 100000 then An.ok ((xs.map enc).mergeSort (PySem.W.dataLe false fun d => d)) else .bad) = _
  rw [if_pos ⟨hi, by simpa using hl⟩]
  have e1 := List.map_mergeSort (r := fun a b => decide (key a ≤ key b)) (s := PySem.W.dataLe false fun d => d) (f := enc) (l := xs) (fun a ha b hb => (hk a ha b hb).symm)
  rw [← e1]
  have e2 : xs.mergeSort (fun a b => decide (key a ≤ key b)) = ys := by
    have p1 := List.mergeSort_perm xs (fun a b => decide (key a ≤ key b))
    have s1 : (xs.mergeSort (fun a b => decide (key a ≤ key b))).Pairwise fun a b => decide (key a ≤ key b) = true :=
      List.pairwise_mergeSort (le := fun a b => decide (key a ≤ key b)) (fun a b c h1 h2 => decide_eq_true (Int.le_trans (of_decide_eq_true h1) (of_decide_eq_true h2))) (fun a b => by
        by_cases h : key a ≤ key b
        · simp [h]
        · simp [show key b ≤ key a by omega]) xs
    have s2 : ys.Pairwise fun a b => decide (key a ≤ key b) = true := hy.imp fun h => decide_eq_true (Int.le_of_lt h)
    have inj : ∀ a ∈ ys, ∀ b ∈ ys, key a = key b → a = b := by
      intro a ha b hb hab
      obtain ⟨i, hi, rfl⟩ := List.mem_iff_getElem.mp ha
      obtain ⟨j, hj, rfl⟩ := List.mem_iff_getElem.mp hb
      have q := List.pairwise_iff_getElem.mp hy
      rcases Nat.lt_trichotomy i j with l | l | l
      · have := q i j hi hj l
        omega
      · subst l
        rfl
      · have := q j i hj hi l
        omega
    exact List.Perm.eq_of_pairwise (le := fun a b => decide (key a ≤ key b) = true) (fun a b ha hb h1 h2 => inj a ((p1.trans hp.symm).mem_iff.mp ha) b hb (Int.le_antisymm (of_decide_eq_true h1) (of_decide_eq_true h2))) s1 s2 (p1.trans hp.symm)
  rw [e2]
/-- the order of rows that begin with whole numbers: another first number tells -/
theorem row_le {m n : Int} {xs ys : List D} (h : m ≠ n) : PySem.W.dataLe false (fun d => d) (.tuple (.int m :: xs)) (.tuple (.int n :: ys)) = decide (m ≤ n) := by
  rw [PySem.W.dataLe_eq]
  show (!PySem.W.dataLt (.tuple (.int n :: ys)) (.tuple (.int m :: xs))) = _
  rw [PySem.W.dataLt_tuple, PySem.W.dataLt_cons (by simp [PySem.W.alike])]
  rw [if_neg (by simp [PyData.eqv]; omega), PySem.W.dataLt_int]
  by_cases q : n < m
  · simp [q]
    
  · simp [q]
    omega
theorem row_le_self {xs : List D} (h : xs.all isI = true) : PySem.W.dataLe false (fun d => d) (.tuple xs) (.tuple xs) = true := by
  rw [PySem.W.dataLe_eq]
  show (!PySem.W.dataLt (.tuple xs) (.tuple xs)) = true
  rw [PySem.W.dataLt_tuple, lex_irrefl]
  rfl
end Mg
namespace Mg
open PySem PySem.Spec PyProof.Rows L2
/-! ### going through a denotation, statement by statement -/
def Wp (s : SX) (env : Env) (Q : Out → Prop) : Prop := Q (s env)
/-- the answer is r -/
abbrev isOut (r : An D) : Out → Prop := fun o => outAn o = r
/-- it goes on, with P -/
abbrev onNx (P : Env → Prop) : Out → Prop := fun o => ∃ env', o = .nx env' ∧ P env'
/-- a turn of a loop ends, with P -/
abbrev onTurn (P : Env → Prop) : Out → Prop := fun o => ∃ env', (o = .nx env' ∨ o = .ct env') ∧ P env'
section
variable {s t u : SX} {env env' : Env} {Q : Out → Prop} {f g : EX} {fs : AX} {c : TX} {i j : Nat} {d e : D} {ds es : List D} {P : Env → Prop} {b : BX} {src : AX} {r : An D}
theorem wp_run {nN np : Nat} {body : SX} {ds : List D} (h : ds.length = np) (q : Wp body (ds.map Slot.val ++ List.replicate (nN - np) Slot.un) (isOut r)) : runDef nN np body ds = r := (run_eq h).trans q
theorem wp_out (h : Wp s env (isOut r)) : outAn (s env) = r := h
theorem wp_nx (h : Wp s env (onNx P)) : ∃ env', s env = .nx env' ∧ P env' := h
theorem wp_eq (h : s env = t env') (q : Wp t env' Q) : Wp s env Q := by
  unfold Wp
  rw [h]
  exact q
theorem wp_seq (h : s env = .nx env') (q : Wp t env' Q) : Wp (sSeq s t) env Q := by
  show Q ((s env).thn t)
  rw [h]
  exact q
theorem wp_P (P : Env → Prop) (h : Wp s env (onNx P)) (q : ∀ env', P env' → Wp t env' Q) : Wp (sSeq s t) env Q := by
  obtain ⟨env', e, p⟩ := h
  exact wp_seq e (q env' p)
theorem wp_assoc (q : Wp (sSeq s (sSeq t u)) env Q) : Wp (sSeq (sSeq s t) u) env Q := by
  show Q (((s env).thn t).thn u)
  have q : Q ((s env).thn (sSeq t u)) := q
  cases h : s env <;> rw [h] at q <;> exact q
theorem wp_end (h : s env = .nx env') (q : Q (.nx env')) : Wp s env Q := by
  unfold Wp
  rw [h]
  exact q
theorem wp_skip (q : Wp t env Q) : Wp (sSeq sSkip t) env Q := q
theorem wp_skip0 (q : Q (.nx env)) : Wp sSkip env Q := q
theorem wp_ct (q : Q (.ct env)) : Wp (sSeq sCt t) env Q := q
theorem wp_ct0 (q : Q (.ct env)) : Wp sCt env Q := q
theorem set_eq (h : f env = .ok d) : sSet i f env = .nx (env.set i (.val d)) := by
  show (f env).thn env _ = _
  rw [h]
  rfl
theorem own_eq (h : fs env = .ok ds) : sOwn i fs env = .nx (env.set i (.own ds)) := by
  show (fs env).thn env _ = _
  rw [h]
  rfl
theorem wp_set (d : D) (h : f env = .ok d) (q : Wp t (env.set i (.val d)) Q) : Wp (sSeq (sSet i f) t) env Q := wp_seq (set_eq h) q
theorem wp_set0 (d : D) (h : f env = .ok d) (q : Q (.nx (env.set i (.val d)))) : Wp (sSet i f) env Q := wp_end (set_eq h) q
theorem wp_own (ds : List D) (h : fs env = .ok ds) (q : Wp t (env.set i (.own ds)) Q) : Wp (sSeq (sOwn i fs) t) env Q := wp_seq (own_eq h) q
theorem app_eq (hi : env[i]? = some (.own ds)) (hl : ds.length ≤ 100000) (h : f env = .ok d) : sApp i f env = .nx (env.set i (.own (ds ++ [d]))) := by
  unfold sApp
  rw [hi]
  show (f env).thn env _ = _
  rw [h]
  show (if ds.length ≤ 100000 then Out.nx (env.set i (.own (ds ++ [d]))) else .bad) = _
  rw [if_pos hl]
theorem wp_app (ds : List D) (d : D) (hi : env[i]? = some (.own ds)) (hl : ds.length ≤ 100000) (h : f env = .ok d) (q : Wp t (env.set i (.own (ds ++ [d]))) Q) : Wp (sSeq (sApp i f) t) env Q := wp_seq (app_eq hi hl h) q
theorem wp_app0 (ds : List D) (d : D) (hi : env[i]? = some (.own ds)) (hl : ds.length ≤ 100000) (h : f env = .ok d) (q : Q (.nx (env.set i (.own (ds ++ [d]))))) : Wp (sApp i f) env Q := wp_end (app_eq hi hl h) q
theorem wp_frz (ds : List D) (hi : env[i]? = some (.own ds)) (q : Wp s (env.set i (.val (.list ds))) Q) : Wp (sFrz i s) env Q := by
  show Q (sFrz i s env)
  unfold sFrz
  rw [hi]
  exact q
theorem if_y (h : c env = .ok true) : sIf c s t env = s env := by
  show (c env).thn env _ = _
  rw [h]
  rfl
theorem if_n (h : c env = .ok false) : sIf c s t env = t env := by
  show (c env).thn env _ = _
  rw [h]
  rfl
theorem wp_yes (h : c env = .ok true) (q : Wp (sSeq s u) env Q) : Wp (sSeq (sIf c s t) u) env Q := by
  show Q ((sIf c s t env).thn u)
  rw [if_y h]
  exact q
theorem wp_no (h : c env = .ok false) (q : Wp (sSeq t u) env Q) : Wp (sSeq (sIf c s t) u) env Q := by
  show Q ((sIf c s t env).thn u)
  rw [if_n h]
  exact q
theorem wp_yes0 (h : c env = .ok true) (q : Wp s env Q) : Wp (sIf c s t) env Q := by
  show Q (sIf c s t env)
  rw [if_y h]
  exact q
theorem wp_no0 (h : c env = .ok false) (q : Wp t env Q) : Wp (sIf c s t) env Q := by
  show Q (sIf c s t env)
  rw [if_n h]
  exact q
theorem wp_ret (d : D) (h : f env = .ok d) (q : Q (.ret d)) : Wp (sRet f) env Q := by
  show Q ((f env).thn env _)
  rw [h]
  exact q
theorem wp_retS (d : D) (h : f env = .ok d) (q : Q (.ret d)) : Wp (sSeq (sRet f) t) env Q := by
  show Q (((f env).thn env _).thn t)
  rw [h]
  exact q
/-- return, in a def -/
theorem wp_ret1 (h : f env = r) (hr : ∃ d, r = .ok d) : Wp (sRet f) env (isOut r) := by
  obtain ⟨d, rfl⟩ := hr
  exact wp_ret d h rfl
theorem wp_val (h : f env = .ok d) : Wp (sRet f) env (isOut (.ok d)) := wp_ret d h rfl
theorem wp_valS (h : f env = .ok d) : Wp (sSeq (sRet f) t) env (isOut (.ok d)) := wp_retS d h rfl
theorem wp_raise {x : Xc} (q : Q (.exc x env)) : Wp (sRaise x) env Q := q
theorem wp_raiseS {x : Xc} (q : Q (.exc x env)) : Wp (sSeq (sRaise x) t) env Q := q
theorem wp_asg (d : D) (env' : Env) (h : f env = .ok d) (hb : b d env = some env') (q : Wp t env' Q) : Wp (sSeq (sAsg b f) t) env Q := by
  refine wp_seq ?_ q
  show (f env).thn env _ = _
  rw [h]
  show (match b d env with | some env2 => Out.nx env2 | none => .bad) = _
  rw [hb]
theorem wp_par (d e : D) (h : f env = .ok d) (h2 : g env = .ok e) (q : Wp t ((env.set i (.val d)).set j (.val e)) Q) : Wp (sSeq (sPar i j f g) t) env Q := by
  refine wp_seq ?_ q
  show (f env).thn env _ = _
  rw [h]
  show (g env).thn env _ = _
  rw [h2]
  rfl
/-- a def's call that raises, in a try -/
theorem wp_try {h : Xc → SX} {x : Xc} {env1 : Env} (hn : noErr env = true) (e : s env = .exc x env1) (hn1 : noErr env1 = true) (d : D) (hh : h x (env1.set i .err) = .ret d) (q : Q (.ret d)) : Wp (sSeq (sTry i s h) t) env Q := by
  show Q ((sTry i s h env).thn t)
  unfold sTry
  rw [if_pos hn, e]
  show Q (Out.thn (if noErr env1 = true then (h x (env1.set i .err)).fin i else .bad) t)
  rw [if_pos hn1, hh]
  exact q
theorem wp_tryct {h : Xc → SX} {x : Xc} {env1 env2 : Env} (hn : noErr env = true) (e : s env = .exc x env1) (hn1 : noErr env1 = true) (hh : h x (env1.set i .err) = .ct env2) (hn2 : noErr (env2.set i .un) = true) (q : Q (.ct (env2.set i .un))) : Wp (sSeq (sTry i s h) t) env Q := by
  show Q ((sTry i s h env).thn t)
  unfold sTry
  rw [if_pos hn, e]
  show Q (Out.thn (if noErr env1 = true then (h x (env1.set i .err)).fin i else .bad) t)
  rw [if_pos hn1, hh]
  show Q (Out.thn (if noErr (env2.set i .un) = true then .ct (env2.set i .un) else .bad) t)
  rw [if_pos hn2]
  exact q
theorem wp_trynx {h : Xc → SX} {env1 : Env} (hn : noErr env = true) (e : s env = .nx env1) (hn1 : noErr env1 = true) (q : Wp t env1 Q) : Wp (sSeq (sTry i s h) t) env Q := by
  show Q ((sTry i s h env).thn t)
  unfold sTry
  rw [if_pos hn, e]
  show Q (Out.thn (if noErr env1 = true then .nx env1 else .bad) t)
  rw [if_pos hn1]
  exact q
theorem wp_tryex {h : Xc → SX} {x : Xc} {env1 env2 : Env} (hn : noErr env = true) (e : s env = .exc x env1) (hn1 : noErr env1 = true) (hh : h x (env1.set i .err) = .nx env2) (hn2 : noErr (env2.set i .un) = true) (q : Wp t (env2.set i .un) Q) : Wp (sSeq (sTry i s h) t) env Q := by
  show Q ((sTry i s h env).thn t)
  unfold sTry
  rw [if_pos hn, e]
  show Q (Out.thn (if noErr env1 = true then (h x (env1.set i .err)).fin i else .bad) t)
  rw [if_pos hn1, hh]
  show Q (Out.thn (if noErr (env2.set i .un) = true then .nx (env2.set i .un) else .bad) t)
  rw [if_pos hn2]
  exact q
/-- a for over typed things -/
theorem for_fold {α S : Type} {enc : α → D} (step : S → α → S) (P : S → Env → Prop) (xs : List α) (s0 : S) (hs : src env = .ok (xs.map enc)) (h0 : P s0 env)
    (h : ∀ s a env, a ∈ xs → P s env → ∃ env1, b (enc a) env = some env1 ∧ Wp t env1 (onTurn (P (step s a)))) : Wp (sFor src b t) env (onNx (P (xs.foldl step s0))) := by
  obtain ⟨env', e, p⟩ := loop_fold (enc := enc) (b := b) (body := t) step P xs s0 env (fun s a env ha hp => by
    obtain ⟨env1, h1, env2, h2, h3⟩ := h s a env ha hp
    exact ⟨env1, env2, h1, h2, h3⟩) h0
  exact ⟨env', for_go hs e, p⟩
theorem wp_fold {α S : Type} {enc : α → D} (step : S → α → S) (P : S → Env → Prop) (xs : List α) (s0 : S) (hs : src env = .ok (xs.map enc)) (h0 : P s0 env)
    (h : ∀ s a env, a ∈ xs → P s env → ∃ env1, b (enc a) env = some env1 ∧ Wp t env1 (onTurn (P (step s a)))) (q : ∀ env', P (xs.foldl step s0) env' → Wp u env' Q) : Wp (sSeq (sFor src b t) u) env Q := wp_P _ (for_fold step P xs s0 hs h0 h) q
/-- a for over range(lo, lo + n) -/
theorem for_rng (lo : Int) (n : Nat) (P : Nat → Env → Prop) (hs : src env = .ok (rngD lo n)) (h0 : P 0 env) (h : ∀ i env, i < n → P i env → ∃ env1, b (.int (lo + (i : Int))) env = some env1 ∧ Wp t env1 (onTurn (P (i + 1)))) : Wp (sFor src b t) env (onNx (P n)) := by
  obtain ⟨env', e, p⟩ := loop_list (b := b) (body := t) P (rngD lo n) 0 env (fun i d env hd hp => by
    obtain ⟨hi, rfl⟩ := rng_get hd
    rw [Nat.zero_add] at hp ⊢
    obtain ⟨env1, h1, env2, h2, h3⟩ := h i env hi hp
    exact ⟨env1, env2, h1, h2, h3⟩) h0
  rw [Nat.zero_add, rng_len] at p
  exact ⟨env', for_go hs e, p⟩
theorem wp_rng (lo : Int) (n : Nat) (P : Nat → Env → Prop) (hs : src env = .ok (rngD lo n)) (h0 : P 0 env) (h : ∀ i env, i < n → P i env → ∃ env1, b (.int (lo + (i : Int))) env = some env1 ∧ Wp t env1 (onTurn (P (i + 1)))) (q : ∀ env', P n env' → Wp u env' Q) : Wp (sSeq (sFor src b t) u) env Q := wp_P _ (for_rng lo n P hs h0 h) q
/-- a for over a list, by the place -/
theorem wp_list (xs : List D) (P : Nat → Env → Prop) (hs : src env = .ok xs) (h0 : P 0 env) (h : ∀ i d env, xs[i]? = some d → P i env → ∃ env1, b d env = some env1 ∧ Wp t env1 (onTurn (P (i + 1)))) (q : ∀ env', P xs.length env' → Wp u env' Q) : Wp (sSeq (sFor src b t) u) env Q := by
  refine wp_P (P xs.length) ?_ q
  obtain ⟨env', e, p⟩ := loop_list (b := b) (body := t) P xs 0 env (fun i d env hd hp => by
    rw [Nat.zero_add] at hp ⊢
    obtain ⟨env1, h1, env2, h2, h3⟩ := h i d env hd hp
    exact ⟨env1, env2, h1, h2, h3⟩) h0
  rw [Nat.zero_add] at p
  exact ⟨env', for_go hs e, p⟩
end
theorem turn_nx {env : Env} {P : Env → Prop} (h : P env) : onTurn P (.nx env) := ⟨env, .inl rfl, h⟩
theorem turn_ct {env : Env} {P : Env → Prop} (h : P env) : onTurn P (.ct env) := ⟨env, .inr rfl, h⟩
theorem nx_nx {env : Env} {P : Env → Prop} (h : P env) : onNx P (.nx env) := ⟨env, rfl, h⟩
theorem loop_cons_inv {b : BX} {body : SX} {x : D} {xs : List D} {env env' : Env} (h : sLoop b body (x :: xs) env = .nx env') : ∃ env1 env2, b x env = some env1 ∧ (body env1 = .nx env2 ∨ body env1 = .ct env2) ∧ sLoop b body xs env2 = .nx env' := by
  unfold sLoop at h
  cases e1 : b x env with
  | none =>
    rw [e1] at h
    cases h
  | some env1 =>
    simp only [e1] at h
    cases e2 : body env1 with
    | nx env2 =>
      simp only [e2] at h
      exact ⟨env1, env2, rfl, .inl e2, h⟩
    | ct env2 =>
      simp only [e2] at h
      exact ⟨env1, env2, rfl, .inr e2, h⟩
    | ret d => simp [e2] at h
    | exc c env2 => simp [e2] at h
    | bad => simp [e2] at h
    | rtE r env2 => simp [e2] at h
theorem loop_app {b : BX} {body : SX} : ∀ (xs ys : List D) (env env' : Env), sLoop b body xs env = .nx env' → sLoop b body (xs ++ ys) env = sLoop b body ys env'
  | [], ys, env, env', h => by
    cases h
    rfl
  | x :: xs, ys, env, env', h => by
    obtain ⟨env1, env2, e1, e2, e3⟩ := loop_cons_inv h
    show sLoop b body (x :: (xs ++ ys)) env = _
    rw [loop_cons e1 e2]
    exact loop_app xs ys env2 env' e3
theorem rng_split {lo : Int} {n j : Nat} (h : j < n) : ∃ r, rngD lo n = rngD lo j ++ (.int (lo + (j : Int)) :: r) := by
  obtain ⟨m, rfl⟩ : ∃ m, n = j + 1 + m := ⟨n - (j + 1), by omega⟩
  refine ⟨(List.range' (j + 1) m).map fun i : Nat => .int (lo + (i : Int)), ?_⟩
  unfold rngD
  rw [List.range_eq_range', ← List.range'_append_1, List.range'_concat, List.map_append, List.map_append, List.append_assoc, ← List.range_eq_range']
  simp
/-- a for over range(lo, lo + n) that returns in turn j -/
theorem wp_rng_ret {src : AX} {b : BX} {t u : SX} {env : Env} {Q : Out → Prop} (lo : Int) (n j : Nat) (hj : j < n) (P : Nat → Env → Prop) (d : D) (hs : src env = .ok (rngD lo n)) (h0 : P 0 env) (h : ∀ i env, i < j → P i env → ∃ env1, b (.int (lo + (i : Int))) env = some env1 ∧ Wp t env1 (onTurn (P (i + 1))))
    (hr : ∀ env, P j env → ∃ env1, b (.int (lo + (j : Int))) env = some env1 ∧ Wp t env1 (fun o => o = .ret d)) (q : Q (.ret d)) : Wp (sSeq (sFor src b t) u) env Q := by
  obtain ⟨r, er⟩ := rng_split (lo := lo) hj
  obtain ⟨env', e, p⟩ := loop_list (b := b) (body := t) P (rngD lo j) 0 env (fun i d env hd hp => by
    obtain ⟨hi, rfl⟩ := rng_get hd
    rw [Nat.zero_add] at hp ⊢
    obtain ⟨env1, h1, env2, h2, h3⟩ := h i env hi hp
    exact ⟨env1, env2, h1, h2, h3⟩) h0
  rw [Nat.zero_add, rng_len] at p
  obtain ⟨env1, e1, e2⟩ := hr env' p
  have e2 : t env1 = .ret d := e2
  have ef : sFor src b t env = .ret d := by
    show (src env).thn env (fun ds => sLoop b t ds env) = _
    rw [hs]
    show sLoop b t (rngD lo n) env = _
    rw [er, loop_app _ _ _ _ e]
    unfold sLoop
    simp only [e1, e2]
  show Q ((sFor src b t env).thn u)
  rw [ef]
  exact q
theorem setI_eq {i : Nat} {fk f : EX} {env : Env} {ds : List D} {k : Nat} {d : D} (hi : env[i]? = some (.own ds)) (hk : fk env = .ok (.int k)) (hl : k < ds.length) (h : f env = .ok d) : sSetI i fk f env = .nx (env.set i (.own (ds.set k d))) := by
  unfold sSetI
  rw [hi]
  show (f env).thn env _ = _
  rw [h]
  show (fk env).thn env (oSetI i ds d env) = _
  rw [hk]
  show (match ixN ds.length (k : Int) with | some j => Out.nx (env.set i (.own (ds.set j d))) | none => .bad) = _
  have e : ixN ds.length (k : Int) = some k := by
    unfold ixN
    rw [if_pos (by omega), if_pos (by omega)]
    rfl
  rw [e]
end Mg
namespace Mg
open PySem PySem.Spec PyProof.Rows L2
/-! ### histories -/
inductive Ent where
  | st (d s v : Int)
  | rd (d v : Int) (k : Bool)
  | ch (d l s f : Int)
def encE : Ent → D
  | .st d s v => .tuple [.str "start", .int d, .int s, .int v]
  | .rd d v k => .tuple [.str "read", .int d, .int v, .bool k]
  | .ch d l s f => .tuple [.str "change", .int d, .int l, .int s, .int f]
def Ent.day : Ent → Int
  | .st d _ _ => d
  | .rd d _ _ => d
  | .ch d _ _ _ => d
def Ent.kind : Ent → Str
  | .st _ _ _ => "start"
  | .rd _ _ _ => "read"
  | .ch _ _ _ _ => "change"
def encH (h : List Ent) : D := .tuple (h.map encE)
def encHL (h : List Ent) : D := .list (h.map encE)
theorem encE_0 (e : Ent) : oIdx (encE e) (.int 0) = .ok (.str e.kind) := by
  cases e <;> exact idxT_at (by decide) rfl
theorem encE_1 (e : Ent) : oIdx (encE e) (.int 1) = .ok (.int e.day) := by
  cases e <;> exact idxT_at (by decide) rfl
theorem sh_start : Sh 0 (.str "start") := sh_str (by decide +kernel)
theorem sh_read : Sh 0 (.str "read") := sh_str (by decide +kernel)
theorem sh_change : Sh 0 (.str "change") := sh_str (by decide +kernel)
theorem encE_sh (e : Ent) : Sh 1 (encE e) := by
  cases e with
  | st d s v => exact sh_tup (sh_cons sh_start (sh_cons sh_int (sh_cons sh_int (sh_cons sh_int sh_nil))))
  | rd d v k => exact sh_tup (sh_cons sh_read (sh_cons sh_int (sh_cons sh_int (sh_cons sh_bool sh_nil))))
  | ch d l s f => exact sh_tup (sh_cons sh_change (sh_cons sh_int (sh_cons sh_int (sh_cons sh_int (sh_cons sh_int sh_nil)))))
theorem hist_sh (h : List Ent) : ∀ d ∈ h.map encE, Sh 1 d := sh_map fun e _ => encE_sh e
theorem k_sr : (("start" : Str) = "read") = False := by simp; decide +kernel
theorem k_sc : (("start" : Str) = "change") = False := by simp; decide +kernel
theorem k_rs : (("read" : Str) = "start") = False := by simp; decide +kernel
theorem k_rc : (("read" : Str) = "change") = False := by simp; decide +kernel
theorem k_cs : (("change" : Str) = "start") = False := by simp; decide +kernel
theorem k_cr : (("change" : Str) = "read") = False := by simp; decide +kernel
/-- what a history may be; its last day, the size of the meter there, what it shows -/
inductive Hist : List Ent → Int → Int → Int → Prop
  | start {d s v : Int} : 0 ≤ d → d ≤ 11 → 2 ≤ s → s ≤ 1000000000000 → 0 ≤ v → v < s → Hist [.st d s v] d s v
  | read {h : List Ent} {l s w d v : Int} {k : Bool} : Hist h l s w → l < d → d ≤ l + 60 → 0 ≤ v → v < s → Hist (h ++ [.rd d v k]) d s v
  | change {h : List Ent} {l s w d v s' f : Int} : Hist h l s w → l < d → d ≤ l + 60 → 0 ≤ v → v < s → 2 ≤ s' → s' ≤ 1000000000000 → 0 ≤ f → f < s' → Hist (h ++ [.ch d v s' f]) d s' f
theorem Hist.bounds {h : List Ent} {l s w : Int} (H : Hist h l s w) : 0 ≤ l ∧ l ≤ 60 * h.length ∧ 2 ≤ s ∧ s ≤ 1000000000000 ∧ 0 ≤ w ∧ w < s ∧ h ≠ [] := by
  induction H with
  | start h1 h2 h3 h4 h5 h6 => exact ⟨h1, by simp; omega, h3, h4, h5, h6, by simp⟩
  | read _ h1 h2 h3 h4 ih => exact ⟨by omega, by simp; omega, ih.2.2.1, ih.2.2.2.1, h3, h4, by simp⟩
  | change _ h1 h2 h3 h4 h5 h6 h7 h8 ih => exact ⟨by omega, by simp; omega, h5, h6, h7, h8, by simp⟩
theorem most_spec (c : Int) : ∃ w : Int, f_l_most_by [.int c] = .ok (.int w) ∧ 0 ≤ w ∧ w ≤ 1000000000000 := by
  by_cases h : c % 8 = 7
  · refine ⟨c / 8 % 1000000000001, wp_run rfl ?_, by omega, by omega⟩
    show Wp b_l_most_by [.val (.int c)] _
    unfold b_l_most_by
    refine wp_yes (by walk_at "ev") ?_
    exact wp_valS (by walk_at "ev")
  · obtain ⟨w, e, w0, w1⟩ := pick (xs := [0, 1, 3, 10, 40, 1000000000000, 100]) (k := c % 8) (fun x => 0 ≤ x ∧ x ≤ 1000000000000) (by simp) (by omega) (by show c % 8 < 7; omega)
    simp only [List.map_cons, List.map_nil] at e
    refine ⟨w, wp_run rfl ?_, w0, w1⟩
    show Wp b_l_most_by [.val (.int c)] _
    unfold b_l_most_by
    refine wp_no (by walk_at "ev") (wp_skip ?_)
    exact wp_val (by walk_at "ev")
theorem value_spec (n m s w far : Int) (hs : 2 ≤ s) (w0 : 0 ≤ w) (w1 : w < s) (f0 : 0 ≤ far) (m0 : 0 ≤ m) (m1 : m < 2147483647) : ∃ v : Int, f_l_value_by [.int n, .int m, .int s, .int w, .int far] = .ok (.int v) ∧ 0 ≤ v ∧ v < s := by
  by_cases h : n % 4 = 0
  · have p := emod_mul_lt' (m * 69621) (show 0 < s by omega)
    refine ⟨m * 69621 % s, wp_run rfl ?_, p.1, p.2⟩
    show Wp b_l_value_by [.val (.int n), .val (.int m), .val (.int s), .val (.int w), .val (.int far)] _
    unfold b_l_value_by
    refine wp_yes (by walk_at "ev") ?_
    exact wp_valS (by walk_at "ev")
  · by_cases h2 : n % 4 = 1
    · refine ⟨w, wp_run rfl ?_, w0, w1⟩
      show Wp b_l_value_by [.val (.int n), .val (.int m), .val (.int s), .val (.int w), .val (.int far)] _
      unfold b_l_value_by
      refine wp_no (by walk_at "ev") (wp_skip ?_)
      refine wp_yes (by walk_at "ev") ?_
      exact wp_valS (by walk_at "ev")
    · have p := emod_mul_lt' (w + m % (far + 2)) (show 0 < s by omega)
      refine ⟨(w + m % (far + 2)) % s, wp_run rfl ?_, p.1, p.2⟩
      show Wp b_l_value_by [.val (.int n), .val (.int m), .val (.int s), .val (.int w), .val (.int far)] _
      unfold b_l_value_by
      refine wp_no (by walk_at "ev") (wp_skip ?_)
      refine wp_no (by walk_at "ev") (wp_skip ?_)
      exact wp_val (by walk_at "ev")
/-- what may come behind a history's last day l, on a meter of size s -/
def EntOk (l s : Int) : Ent → Prop
  | .st _ _ _ => False
  | .rd d v _ => l < d ∧ d ≤ l + 60 ∧ 0 ≤ v ∧ v < s
  | .ch d v s' f => l < d ∧ d ≤ l + 60 ∧ 0 ≤ v ∧ v < s ∧ 2 ≤ s' ∧ s' ≤ 1000000000000 ∧ 0 ≤ f ∧ f < s'
theorem entry_spec (n m l w s mo : Int) (n0 : 0 ≤ n) (n1 : n < 2147483647) (m0 : 0 ≤ m) (m1 : m < 2147483647) (hs : 2 ≤ s) (w0 : 0 ≤ w) (w1 : w < s) (mo0 : 0 ≤ mo) (mo1 : mo ≤ 1000000000000) :
    ∃ e : Ent, f_l_entry_by [.int n, .int m, .int l, .int w, .int s, .int mo] = .ok (encE e) ∧ EntOk l s e := by
  have key : ∃ e : Ent, EntOk l s e ∧ Wp b_l_entry_by [.val (.int n), .val (.int m), .val (.int l), .val (.int w), .val (.int s), .val (.int mo), .un, .un, .un] (isOut (.ok (encE e))) := by
    unfold b_l_entry_by
    have hg : ∃ g : Int, 1 ≤ g ∧ g ≤ 60 ∧ ∀ (t : SX) (Q : Out → Prop), Wp t [.val (.int n), .val (.int m), .val (.int l), .val (.int w), .val (.int s), .val (.int mo), .val (.int g), .un, .un] Q →
        Wp (sSeq (sSet 6 (xOp oAdd (xC (.int 1)) (xOp oMod (xVar 0) (xC (.int 9))))) (sSeq (sIf (tAndX (tOf (xOp oEq (xOp oMod (xOp oFdiv (xVar 0) (xC (.int 9))) (xC (.int 16))) (xC (.int 1)))) (tOf (xOp oLt (xVar 2) (xC (.int 150))))) (sSet 6 (xOp oAdd (xC (.int 1)) (xOp oMod (xOp oFdiv (xVar 0) (xC (.int 144))) (xC (.int 60))))) sSkip) t)) [.val (.int n), .val (.int m), .val (.int l), .val (.int w), .val (.int s), .val (.int mo), .un, .un, .un] Q := by
      by_cases h : n / 9 % 16 = 1
      · by_cases h2 : l < 150
        · refine ⟨1 + n / 144 % 60, by omega, by omega, fun t Q q => ?_⟩
          refine wp_set (.int (1 + n % 9)) (by walk_at "ev") ?_
          refine wp_yes (by walk_at "ev") ?_
          exact wp_set (.int (1 + n / 144 % 60)) (by walk_at "ev") q
        · refine ⟨1 + n % 9, by omega, by omega, fun t Q q => ?_⟩
          refine wp_set (.int (1 + n % 9)) (by walk_at "ev") ?_
          exact wp_no (by walk_at "ev") (wp_skip q)
      · refine ⟨1 + n % 9, by omega, by omega, fun t Q q => ?_⟩
        refine wp_set (.int (1 + n % 9)) (by walk_at "ev") ?_
        exact wp_no (by walk_at "ev") (wp_skip q)
    obtain ⟨g, g0, g1, hg⟩ := hg
    obtain ⟨v, hv, v0, v1⟩ := value_spec (n / 7) m s w (mo * g) hs w0 w1 (Int.mul_nonneg mo0 (by omega)) m0 m1
    obtain ⟨s', hs', s0, s1⟩ := size_spec (m / 5) (by omega) (by omega)
    have p := emod_mul_lt' (m / 3) (show 0 < s' by omega)
    by_cases h : n / 11 % 8 = 0
    · refine ⟨.ch (l + g) v s' (m / 3 % s'), ⟨by omega, by omega, v0, v1, s0, s1, p.1, p.2⟩, hg _ _ ?_⟩
      refine wp_set (.int v) (by walk_at "ev") ?_
      clear hv
      refine wp_yes (by walk_at "ev") (wp_assoc ?_)
      refine wp_set (.int s') (by walk_at "ev") ?_
      clear hs'
      exact wp_valS (by unfold encE; walk_at "ev")
    · refine ⟨.rd (l + g) v (decide (n / 13 % 5 = 1)), ⟨by omega, by omega, v0, v1⟩, hg _ _ ?_⟩
      refine wp_set (.int v) (by walk_at "ev") ?_
      clear hv
      refine wp_no (by walk_at "ev") (wp_skip ?_)
      exact wp_val (by unfold encE; walk_at "ev")
  obtain ⟨e, h1, h2⟩ := key
  exact ⟨e, wp_run rfl h2, h1⟩
theorem hist_snoc {h : List Ent} {l s w : Int} (H : Hist h l s w) {e : Ent} (he : EntOk l s e) : ∃ l' s' w', Hist (h ++ [e]) l' s' w' ∧ l' = e.day ∧ (∀ d v k, e = .rd d v k → s' = s ∧ w' = v) ∧ (∀ d v z f, e = .ch d v z f → s' = z ∧ w' = f) := by
  cases e with
  | st d s v => exact he.elim
  | rd d v k => exact ⟨_, _, _, .read H he.1 he.2.1 he.2.2.1 he.2.2.2, rfl, fun _ _ _ e => by cases e; exact ⟨rfl, rfl⟩, fun _ _ _ _ e => nomatch e⟩
  | ch d v z f =>
    obtain ⟨h1, h2, h3, h4, h5, h6, h7, h8⟩ := he
    exact ⟨_, _, _, .change H h1 h2 h3 h4 h5 h6 h7 h8, rfl, fun _ _ _ e => (nomatch e), fun _ _ _ _ e => by cases e; exact ⟨rfl, rfl⟩⟩
theorem last_snoc {α : Type} (xs : List α) (e : α) : (xs ++ [e])[(xs ++ [e]).length - 1]? = some e := by simp
theorem Hist.last {h : List Ent} {l s w : Int} (H : Hist h l s w) : ∃ e, h[h.length - 1]? = some e ∧ e.day = l := by
  cases H with
  | start => exact ⟨_, rfl, rfl⟩
  | read => exact ⟨_, last_snoc _ _, rfl⟩
  | change => exact ⟨_, last_snoc _ _, rfl⟩
theorem atI_last {xs : List D} {d : D} (h : xs[xs.length - 1]? = some d) : atI xs (-1) = some d := by
  have hl : 0 < xs.length := by
    cases xs with
    | nil => simp at h
    | cons => simp
  unfold atI ixN
  rw [if_neg (by decide), if_pos (by omega)]
  show xs[(-1 + (xs.length : Int)).toNat]? = some d
  rw [show (-1 + (xs.length : Int)).toNat = xs.length - 1 by omega]
  exact h
def H5 (ns : List Int) (many mo : Int) (x3 : Slot) (s : Int) (h : List Ent) (w : Int) (x7 x8 : Slot) : Env := [.val (intsD ns), .val (.int many), .val (.int mo), x3, .val (.int s), .own (h.map encE), .val (.int w), x7, x8]
theorem history_spec (ns : List Int) (many mo : Int) (h0 : 0 ≤ many) (h1 : many ≤ 199) (mo0 : 0 ≤ mo) (mo1 : mo ≤ 1000000000000) :
    ∃ h l s w, f_l_history_by [intsD ns, .int many, .int mo] = .ok (encH h) ∧ Hist h l s w ∧ (h.length : Int) = many + 1 := by
  have key : ∃ h l s w, Hist h l s w ∧ (h.length : Int) = many + 1 ∧ Wp b_l_history_by [.val (intsD ns), .val (.int many), .val (.int mo), .un, .un, .un, .un, .un, .un] (isOut (.ok (encH h))) := by
    obtain ⟨m1, e1, a0, a1⟩ := mixed_spec ns 1 (by decide)
    obtain ⟨m2, e2, b0, b1⟩ := mixed_spec ns 2 (by decide)
    obtain ⟨m3, e3, c0, c1⟩ := mixed_spec ns 3 (by decide)
    obtain ⟨s, hs, s0, s1⟩ := size_spec m2 b0 b1
    have p := emod_mul_lt' m3 (show 0 < s by omega)
    have hist0 : Hist [.st (m1 % 12) s (m3 % s)] (m1 % 12) s (m3 % s) := .start (by omega) (by omega) s0 s1 p.1 p.2
    have loop : Wp (sFor (iR1 (xVar 1)) (bName 7) (sSeq (sSet 3 (xApp f_l_mixed (aCons (xVar 0) (aCons (xOp oAdd (xC (.int 10)) (xOp oMul (xC (.int 2)) (xVar 7))) aNil)))) (sSeq (sSet 8 (xApp f_l_entry_by (aCons (xVar 3) (aCons (xApp f_l_mixed (aCons (xVar 0) (aCons (xOp oAdd (xC (.int 11)) (xOp oMul (xC (.int 2)) (xVar 7))) aNil))) (aCons (xOp oIdx (xIxO 5 (xUn oNeg (xC (.int 1)))) (xC (.int 1))) (aCons (xVar 6) (aCons (xVar 4) (aCons (xVar 2) aNil)))))))) (sSeq (sApp 5 (xVar 8)) (sSeq (sSet 6 (xOp oIdx (xVar 8) (xC (.int 2)))) (sIf (tOf (xOp oEq (xOp oIdx (xVar 8) (xC (.int 0))) (xC (.str (PySem.Str.ofString "change"))))) (sSeq (sSet 4 (xOp oIdx (xVar 8) (xC (.int 3)))) (sSet 6 (xOp oIdx (xVar 8) (xC (.int 4))))) sSkip))))))
        (H5 ns many mo (.val (.int m1)) s [.st (m1 % 12) s (m3 % s)] (m3 % s) .un .un) (onNx fun env => ∃ h l s w x3 x7 x8, env = H5 ns many mo x3 s h w x7 x8 ∧ Hist h l s w ∧ h.length = many.toNat + 1) := by
      refine for_rng 0 many.toNat (fun i env => ∃ h l s w x3 x7 x8, env = H5 ns many mo x3 s h w x7 x8 ∧ Hist h l s w ∧ h.length = i + 1) (ev_r1 rfl (by omega) (by omega)) ⟨_, _, _, _, _, _, _, rfl, hist0, rfl⟩ ?_
      rintro i _ hi ⟨h, l, s, w, x3, x7, x8, rfl, H, hlen⟩
      refine ⟨_, rfl, ?_⟩
      rw [Int.zero_add]
      show Wp _ [.val (intsD ns), .val (.int many), .val (.int mo), x3, .val (.int s), .own (h.map encE), .val (.int w), .val (.int i), x8] _
      obtain ⟨n1, f1, g0, g1⟩ := mixed_spec ns (10 + 2 * (i : Int)) (by omega)
      obtain ⟨n2, f2, g2, g3⟩ := mixed_spec ns (11 + 2 * (i : Int)) (by omega)
      obtain ⟨B0, B1, B2, B3, B4, B5, B6⟩ := H.bounds
      obtain ⟨e, he, eok⟩ := entry_spec n1 n2 l w s mo g0 g1 g2 g3 B2 B4 B5 mo0 mo1
      obtain ⟨le, hle, hld⟩ := H.last
      have hlast : oIdxL (h.map encE) (.int (-1)) = .ok (encE le) := by
        show (match atI (h.map encE) (-1) with | some d => An.ok d | none => .bad) = _
        rw [atI_last (d := encE le) (by rw [List.length_map, List.getElem?_map, hle] <;> rfl)]
      have hl1 : oIdx (encE le) (.int 1) = .ok (.int l) := by rw [encE_1, hld]
      refine wp_set (.int n1) (by walk_at "ev") ?_
      refine wp_set (encE e) (by walk_at "ev") ?_
      clear f1 f2 he hlast hl1
      refine wp_app (h.map encE) (encE e) rfl (by simp; omega) rfl ?_
      obtain ⟨l', s', w', H', hl', hr, hc⟩ := hist_snoc H eok
      have hm : h.map encE ++ [encE e] = (h ++ [e]).map encE := by simp
      rw [hm]
      cases e with
      | st d a b => exact eok.elim
      | rd d v k =>
        obtain ⟨rfl, rfl⟩ := hr _ _ _ rfl
        refine wp_set (.int w') rfl ?_
        refine wp_no0 (by rfl) (wp_skip0 (turn_nx ?_))
        exact ⟨h ++ [.rd d w' k], _, s', w', _, _, _, rfl, H', by simp; omega⟩
      | ch d v z f =>
        obtain ⟨rfl, rfl⟩ := hc _ _ _ _ rfl
        refine wp_set (.int v) rfl ?_
        refine wp_yes0 (by rfl) ?_
        refine wp_set (.int s') rfl ?_
        refine wp_set0 (.int w') rfl (turn_nx ?_)
        exact ⟨h ++ [.ch d v s' w'], _, s', w', _, _, _, rfl, H', by simp; omega⟩
    obtain ⟨_, e4, h, l, s', w, x3, x7, x8, rfl, H, hlen⟩ := loop
    refine ⟨h, l, s', w, H, by omega, ?_⟩
    unfold b_l_history_by
    refine wp_set (.int m1) (by walk_at "ev") ?_
    refine wp_set (.int s) (by walk_at "ev") ?_
    refine wp_own [encE (.st (m1 % 12) s (m3 % s))] (by unfold encE; walk_at "ev") ?_
    refine wp_set (.int (m3 % s)) rfl ?_
    refine wp_seq (env' := H5 ns many mo x3 s' h w x7 x8) e4 ?_
    refine wp_frz (h.map encE) rfl ?_
    exact wp_val rfl
  obtain ⟨h, l, s, w, H, hl, q⟩ := key
  exact ⟨h, l, s, w, wp_run rfl q, H, hl⟩
end Mg
namespace Mg
open PySem PySem.Spec PyProof.Rows L2
/-! ### tariffs -/
structure Tar where
  d : Int
  st : Int
  lo : Int
  li : Int
  hi : Int
def encT (t : Tar) : D := .tuple [.int t.d, .int t.st, .int t.lo, .int t.li, .int t.hi]
theorem encT_sh (t : Tar) : Sh 1 (encT t) := sh_tup (sh_cons sh_int (sh_cons sh_int (sh_cons sh_int (sh_cons sh_int (sh_cons sh_int sh_nil)))))
theorem encT_0 (t : Tar) : oIdx (encT t) (.int 0) = .ok (.int t.d) := idxT_at (by decide) rfl
theorem encT_1 (t : Tar) : oIdx (encT t) (.int 1) = .ok (.int t.st) := idxT_at (by decide) rfl
theorem encT_2 (t : Tar) : oIdx (encT t) (.int 2) = .ok (.int t.lo) := idxT_at (by decide) rfl
theorem encT_3 (t : Tar) : oIdx (encT t) (.int 3) = .ok (.int t.li) := idxT_at (by decide) rfl
theorem encT_4 (t : Tar) : oIdx (encT t) (.int 4) = .ok (.int t.hi) := idxT_at (by decide) rfl
theorem flat_ints (ns : List Int) : (ns.map PyData.int).all flatD = true := by
  rw [List.all_eq_true]
  intro x hx
  obtain ⟨n, _, rfl⟩ := List.mem_map.mp hx
  rfl
theorem eqF_int (a b : Int) : eqF (.int a) (.int b) = decide (a = b) := by
  show eqV (.int a) (.int b) = _
  by_cases h : a = b
  · subst h
    simp [eqV]
  · simp [eqV, h]
theorem in_ints (a : Int) (ns : List Int) : oIn (.int a) (.list (ns.map .int)) = .ok (.bool (decide (a ∈ ns))) := by
  show (if (flatD (.int a) && (ns.map PyData.int).all flatD) = true then An.ok (PyData.bool (inD (.int a) (ns.map .int))) else .bad) = _
  rw [flat_ints, if_pos (by rfl)]
  congr 2
  unfold inD
  rw [Bool.eq_iff_iff, List.any_eq_true, decide_eq_true_iff]
  constructor
  · rintro ⟨x, hx, e⟩
    obtain ⟨n, hn, rfl⟩ := List.mem_map.mp hx
    rw [eqF_int] at e
    rw [← of_decide_eq_true e]
    exact hn
  · intro h
    exact ⟨_, List.mem_map.mpr ⟨a, h, rfl⟩, by rw [eqF_int]; exact decide_eq_true rfl⟩
def tarsT (ts : List Tar) : D := .tuple (ts.map encT)
def tarsL (ts : List Tar) : D := .list (ts.map encT)
theorem ev_itT {i : Nat} {env : Env} {ds : List D} (h : env[i]? = some (.val (.tuple ds))) : iT (xVar i) env = .ok ds := by
  show (xVar i env).bnd oItemsT = _
  unfold xVar
  rw [h]
  rfl
theorem ev_itL {i : Nat} {env : Env} {ds : List D} (h : env[i]? = some (.val (.list ds))) : iL (xVar i) env = .ok ds := by
  show (xVar i env).bnd oItemsL = _
  unfold xVar
  rw [h]
  rfl
theorem with_no {ts : List Tar} {t : Tar} (hl : ts.length ≤ 1000) (h : t.d ∈ ts.map (·.d)) : f_p_with_tariff [tarsT ts, encT t] = .exc .stands := by
  rw [f_p_with_tariff, run_eq (by rfl)]
  show outAn (b_p_with_tariff [.val (tarsT ts), .val (encT t), .un, .un, .un]) = _
  unfold b_p_with_tariff
  have h1 : nErr (xLc (iT (xVar 0)) [4] (bName 4) tYesX (xOp oIdx (xVar 4) (xC (.int 0)))) [.val (tarsT ts), .val (encT t), .un, .un, .un] = .ok ((ts.map (·.d)).map .int) := by
    rw [List.map_map]
    exact lc_all (enc := encT) (fun a => .int a.d) ts rfl (ev_itT rfl) (by omega) fun a _ => ⟨_, rfl, encT_0 a⟩
  have h2 := in_ints t.d (ts.map (·.d))
  have h3 := encT_0 t
  have h4 : decide (t.d ∈ ts.map (·.d)) = true := decide_eq_true h
  walk_at "ev"
theorem with_yes {ts : List Tar} {t : Tar} (hl : ts.length ≤ 1000) (h : ¬ t.d ∈ ts.map (·.d)) :
    f_p_with_tariff [tarsT ts, encT t] = .ok (tarsT (ts.filter (fun a => decide (a.d < t.d)) ++ [t] ++ ts.filter (fun a => decide (t.d < a.d)))) := by
  rw [f_p_with_tariff, run_eq (by rfl)]
  show outAn (b_p_with_tariff [.val (tarsT ts), .val (encT t), .un, .un, .un]) = _
  unfold b_p_with_tariff
  have h1 : nErr (xLc (iT (xVar 0)) [4] (bName 4) tYesX (xOp oIdx (xVar 4) (xC (.int 0)))) [.val (tarsT ts), .val (encT t), .un, .un, .un] = .ok ((ts.map (·.d)).map .int) := by
    rw [List.map_map]
    exact lc_all (enc := encT) (fun a => .int a.d) ts rfl (ev_itT rfl) (by omega) fun a _ => ⟨_, rfl, encT_0 a⟩
  have h2 := in_ints t.d (ts.map (·.d))
  have h3 := encT_0 t
  have h4 : decide (t.d ∈ ts.map (·.d)) = false := decide_eq_false h
  refine seq_go (env' := [.val (tarsT ts), .val (encT t), .un, .un, .un]) (by walk_at "ev") ?_
  clear h1 h2 h4
  have h1 : nErr (xLc (iT (xVar 0)) [4] (bName 4) (tOf (xOp oLt (xOp oIdx (xVar 4) (xC (.int 0))) (xOp oIdx (xVar 1) (xC (.int 0))))) (xVar 4)) [.val (tarsT ts), .val (encT t), .un, .un, .un] = .ok ((ts.filter (fun a => decide (a.d < t.d))).map encT) :=
    lc_ok (enc := encT) _ _ ts rfl (ev_itT rfl) (by omega) fun a _ => ⟨_, rfl, by
      have := encT_0 a
      show tOf _ [.val (tarsT ts), .val (encT t), .un, .un, .val (encT a)] = _
      walk_at "ev", fun _ => rfl⟩
  have h2 : nErr (xLc (iT (xVar 0)) [4] (bName 4) (tOf (xOp oGt (xOp oIdx (xVar 4) (xC (.int 0))) (xOp oIdx (xVar 1) (xC (.int 0))))) (xVar 4)) [.val (tarsT ts), .val (encT t), .val (tarsT (ts.filter (fun a => decide (a.d < t.d)))), .un, .un] = .ok ((ts.filter (fun a => decide (t.d < a.d))).map encT) :=
    lc_ok (enc := encT) _ _ ts rfl (ev_itT rfl) (by omega) fun a _ => ⟨_, rfl, by
      have := encT_0 a
      show tOf _ [.val (tarsT ts), .val (encT t), .val _, .un, .val (encT a)] = _
      walk_at "ev", fun _ => rfl⟩
  have l1 := List.length_filter_le (fun a => decide (a.d < t.d)) ts
  have l2 := List.length_filter_le (fun a => decide (t.d < a.d)) ts
  refine seq_go (env' := [.val (tarsT ts), .val (encT t), .val (tarsT (ts.filter (fun a => decide (a.d < t.d)))), .un, .un]) (by unfold tarsT at *; walk_at "ev") ?_
  refine seq_go (env' := [.val (tarsT ts), .val (encT t), .val (tarsT (ts.filter (fun a => decide (a.d < t.d)))), .val (tarsT (ts.filter (fun a => decide (t.d < a.d)))), .un]) (by unfold tarsT at *; walk_at "ev") ?_
  have e1 : oAdd (tarsT (ts.filter (fun a => decide (a.d < t.d)))) (.tuple [encT t]) = .ok (tarsT (ts.filter (fun a => decide (a.d < t.d)) ++ [t])) := by
    rw [tarsT, ev_addT (by simp; omega), tarsT, List.map_append]
    rfl
  have e2 : oAdd (tarsT (ts.filter (fun a => decide (a.d < t.d)) ++ [t])) (tarsT (ts.filter (fun a => decide (t.d < a.d)))) = .ok (tarsT (ts.filter (fun a => decide (a.d < t.d)) ++ [t] ++ ts.filter (fun a => decide (t.d < a.d)))) := by
    rw [tarsT, tarsT, ev_addT (by simp; omega), tarsT, List.map_append, List.map_append, List.map_append]
  generalize ts.filter (fun a => decide (a.d < t.d)) = xs at e1 e2
  generalize ts.filter (fun a => decide (t.d < a.d)) = ys at e2
  walk_at "ev"
/-- the last tariff that begins not behind a day -/
def lastT (day : Int) (ts : List Tar) : Option Tar := ts.foldl (fun o t => if t.d ≤ day then some t else o) none
def encO : Option Tar → D
  | some t => encT t
  | none => .none
theorem on_spec {ts : List Tar} {day : Int} : f_p_tariff_on [tarsT ts, .int day] = .ok (encO (lastT day ts)) := by
  rw [f_p_tariff_on, run_eq (by rfl)]
  show outAn (b_p_tariff_on [.val (tarsT ts), .val (.int day), .un, .un]) = _
  unfold b_p_tariff_on
  refine seq_go (env' := [.val (tarsT ts), .val (.int day), .val .none, .un]) (by walk_at "ev") ?_
  refine seq_P (fun env => ∃ x, env = [.val (tarsT ts), .val (.int day), .val (encO (lastT day ts)), x]) ?_ ?_
  · obtain ⟨env', e, hp⟩ := loop_fold (enc := encT) (b := bName 3) (body := sIf (tOf (xOp oLe (xOp oIdx (xVar 3) (xC (.int 0))) (xVar 1))) (sSet 2 (xVar 3)) sSkip) (fun o t => if t.d ≤ day then some t else o) (fun o env => ∃ x, env = [.val (tarsT ts), .val (.int day), .val (encO o), x]) ts none [.val (tarsT ts), .val (.int day), .val .none, .un] (fun o t env _ hp => by
      obtain ⟨x, rfl⟩ := hp
      have h0 := encT_0 t
      refine ⟨_, [.val (tarsT ts), .val (.int day), .val (encO (if t.d ≤ day then some t else o)), .val (encT t)], rfl, .inl ?_, _, rfl⟩
      show sIf _ _ _ [.val (tarsT ts), .val (.int day), .val (encO o), .val (encT t)] = _
      by_cases h : t.d ≤ day
      · rw [if_pos h]
        show _ = Out.nx [.val (tarsT ts), .val (.int day), .val (encT t), .val (encT t)]
        walk_at "ev"
      · rw [if_neg h]
        walk_at "ev") ⟨_, rfl⟩
    exact ⟨env', for_go (ev_itT rfl) e, hp⟩
  · rintro _ ⟨x, rfl⟩
    walk_at "ev"
/-- the cost of a day -/
def costT (t : Tar) (u : Int) : Int := t.st + t.lo * min u t.li + t.hi * max 0 (u - t.li)
theorem cost_none {u : Int} : f_p_cost [.none, .int u] = .ok (.int 0) := by
  rw [f_p_cost, run_eq (by rfl)]
  show outAn (b_p_cost [.val .none, .val (.int u), .un, .un, .un, .un, .un]) = _
  unfold b_p_cost
  walk_at "ev"
theorem cost_some {t : Tar} {u : Int} (h1 : 0 ≤ t.lo) (h2 : t.lo ≤ 1000000000) (h3 : 0 ≤ t.hi) (h4 : t.hi ≤ 1000000000) : f_p_cost [encT t, .int u] = .ok (.int (costT t u)) := by
  rw [f_p_cost, run_eq (by rfl)]
  show outAn (b_p_cost [.val (encT t), .val (.int u), .un, .un, .un, .un, .un]) = _
  unfold b_p_cost
  have e1 : oIsN (encT t) .none = .ok (.bool false) := rfl
  refine seq_go (env' := [.val (encT t), .val (.int u), .un, .un, .un, .un, .un]) (by walk_at "ev") ?_
  refine seq_go (env' := [.val (encT t), .val (.int u), .val (.int t.d), .val (.int t.st), .val (.int t.lo), .val (.int t.li), .val (.int t.hi)]) rfl ?_
  have e2 : (if t.li < u then t.li else u) = min u t.li := by omega
  have e3 : (if u - t.li > 0 then u - t.li else 0) = max 0 (u - t.li) := by omega
  unfold costT
  generalize min u t.li = m at *
  generalize max 0 (u - t.li) = n at *
  walk_at "ev"
end Mg
namespace Mg
open PySem PySem.Spec PyProof.Rows L2
def Days (h : List Ent) : Prop := h.Pairwise fun a b => a.day < b.day
theorem Hist.le {h : List Ent} {l s w : Int} (H : Hist h l s w) : ∀ e ∈ h, e.day ≤ l := by
  induction H with
  | start => simp [Ent.day]
  | read _ h1 h2 h3 h4 ih =>
    intro e he
    rcases List.mem_append.mp he with he | he
    · have := ih e he
      omega
    · rw [List.mem_singleton] at he
      subst he
      exact Int.le_refl _
  | change _ h1 h2 h3 h4 h5 h6 h7 h8 ih =>
    intro e he
    rcases List.mem_append.mp he with he | he
    · have := ih e he
      omega
    · rw [List.mem_singleton] at he
      subst he
      exact Int.le_refl _
theorem Hist.days {h : List Ent} {l s w : Int} (H : Hist h l s w) : Days h := by
  induction H with
  | start => exact List.pairwise_singleton _ _
  | read H h1 h2 h3 h4 ih =>
    refine List.pairwise_append.mpr ⟨ih, List.pairwise_singleton _ _, fun a ha b hb => ?_⟩
    rw [List.mem_singleton] at hb
    subst hb
    have := H.le a ha
    show a.day < _
    exact Int.lt_of_le_of_lt this h1
  | change H h1 h2 h3 h4 h5 h6 h7 h8 ih =>
    refine List.pairwise_append.mpr ⟨ih, List.pairwise_singleton _ _, fun a ha b hb => ?_⟩
    rw [List.mem_singleton] at hb
    subst hb
    have := H.le a ha
    exact Int.lt_of_le_of_lt this h1
theorem days_inj {h : List Ent} (H : Days h) {i j : Nat} {a b : Ent} (hi : h[i]? = some a) (hj : h[j]? = some b) (e : a.day = b.day) : i = j := by
  obtain ⟨hi', rfl⟩ := List.getElem?_eq_some_iff.mp hi
  obtain ⟨hj', rfl⟩ := List.getElem?_eq_some_iff.mp hj
  have q := List.pairwise_iff_getElem.mp H
  rcases Nat.lt_trichotomy i j with l | l | l
  · have := q i j hi' hj' l
    omega
  · exact l
  · have := q j i hj' hi' l
    omega
/-- a reading of that day, not struck -/
def isOpen (day : Int) : Ent → Bool
  | .rd d _ k => decide (d = day) && !k
  | _ => false
theorem first_of {α : Type} (p : α → Bool) : ∀ h : List α, (h.filter p = [] ∧ ∀ (j : Nat) e, h[j]? = some e → p e = false) ∨ ∃ (i : Nat) (e : α) (r : List α), h[i]? = some e ∧ p e = true ∧ (∀ (j : Nat), j < i → ∀ e', h[j]? = some e' → p e' = false) ∧ h.filter p = e :: r
  | [] => .inl ⟨rfl, fun j e q => by simp at q⟩
  | a :: h => by
    cases ha : p a with
    | true => exact .inr ⟨0, a, _, rfl, ha, fun j hj => absurd hj (Nat.not_lt_zero _), List.filter_cons_of_pos ha⟩
    | false =>
      have ef : (a :: h).filter p = h.filter p := List.filter_cons_of_neg (by rw [ha]; exact Bool.false_ne_true)
      rcases first_of p h with ⟨e1, e2⟩ | ⟨i, e, r, h1, h2, h3, h4⟩
      · refine .inl ⟨ef.trans e1, fun j e q => ?_⟩
        cases j with
        | zero =>
          cases q
          exact ha
        | succ j => exact e2 j e q
      · refine .inr ⟨i + 1, e, r, h1, h2, fun j hj e' q => ?_, ef.trans h4⟩
        cases j with
        | zero =>
          cases q
          exact ha
        | succ j => exact h3 j (by omega) e' q
theorem encH_at {h : List Ent} {i : Nat} {e : Ent} (hi : h[i]? = some e) : oIdx (encH h) (.int i) = .ok (encE e) := idxT_at (by omega) (by
  rw [List.getElem?_map, Int.toNat_natCast, hi]
  rfl)
theorem encHL_at {h : List Ent} {i : Nat} {e : Ent} (hi : h[i]? = some e) : oIdx (encHL h) (.int i) = .ok (encE e) := idx_at (by omega) (by
  rw [List.getElem?_map, Int.toNat_natCast, hi]
  rfl)
theorem encH_len (h : List Ent) : oLen [encH h] = .ok (.int h.length) := by
  show An.ok (PyData.int ((h.map encE).length : Int)) = _
  rw [List.length_map]
theorem encH_list (h : List Ent) : oList [encH h] = .ok (h.map encE) := rfl
/-- the test of a reading not struck, in slot i's entry -/
theorem open_test {f g : EX} {env : Env} {e : Ent} {day : Int} (hf : f env = .ok (encE e)) (hg : g env = .ok (.int day)) : tAndX (tOf (xOp oEq (xOp oIdx f (xC (.int 0))) (xC (.str (PySem.Str.ofString "read"))))) (tAndX (tOf (xOp oEq (xOp oIdx f (xC (.int 1))) g)) (tNotX (tOf (xOp oIdx f (xC (.int 3)))))) env = .ok (isOpen day e) := by
  have a1 := k_sr
  have a2 := k_cr
  cases e with
  | st d s v =>
    have h0 : oIdx (encE (.st d s v)) (.int 0) = .ok (.str "start") := encE_0 _
    show _ = An.ok false
    walk_at "ev"
  | ch d l s f =>
    have h0 : oIdx (encE (.ch d l s f)) (.int 0) = .ok (.str "change") := encE_0 _
    show _ = An.ok false
    walk_at "ev"
  | rd d v k =>
    have h0 : oIdx (encE (.rd d v k)) (.int 0) = .ok (.str "read") := encE_0 _
    have h1 : oIdx (encE (.rd d v k)) (.int 1) = .ok (.int d) := encE_1 _
    have h3 : oIdx (encE (.rd d v k)) (.int 3) = .ok (.bool k) := idxT_at (by decide) rfl
    show _ = An.ok (decide (d = day) && !k)
    by_cases h : d = day
    · subst h
      walk_at "ev"
      simp
    · walk_at "ev"
      simp
theorem struck_no {h : List Ent} {day : Int} (hl : h.length ≤ 1000) (hn : ∀ (j : Nat) e, h[j]? = some e → isOpen day e = false) : f_p_struck [encH h, .int day] = .exc .noReading := by
  refine wp_run rfl ?_
  show Wp b_p_struck [.val (encH h), .val (.int day), .un, .un] _
  unfold b_p_struck
  have hL := encH_list h
  have hlen := encH_len h
  refine wp_own (h.map encE) (by walk_at "ev") ?_
  refine wp_rng 0 h.length (fun _ env => ∃ x, env = [.val (encH h), .val (.int day), .own (h.map encE), x]) (ev_r1 (n := (h.length : Int)) (by walk_at "ev") (by omega) (by omega)) ⟨_, rfl⟩ ?_ ?_
  · rintro i _ hi ⟨x, rfl⟩
    refine ⟨_, rfl, ?_⟩
    rw [Int.zero_add]
    show Wp _ [.val (encH h), .val (.int day), .own (h.map encE), .val (.int i)] _
    have hg : h[i]? = some h[i] := List.getElem?_eq_getElem hi
    have he := encH_at hg
    have ht := open_test (f := xOp oIdx (xVar 0) (xVar 3)) (g := xVar 1) (env := [.val (encH h), .val (.int day), .own (h.map encE), .val (.int i)]) (e := h[i]) (day := day) (by walk_at "ev") rfl
    rw [hn i _ hg] at ht
    exact wp_no0 ht (wp_skip0 (turn_nx ⟨_, rfl⟩))
  · rintro _ ⟨x, rfl⟩
    exact wp_raise rfl
theorem struck_yes {h : List Ent} {day v : Int} {j : Nat} (hl : h.length ≤ 1000) (hj : h[j]? = some (.rd day v false)) (hn : ∀ (i : Nat), i < j → ∀ e, h[i]? = some e → isOpen day e = false) : f_p_struck [encH h, .int day] = .ok (encH (h.set j (.rd day v true))) := by
  refine wp_run rfl ?_
  show Wp b_p_struck [.val (encH h), .val (.int day), .un, .un] _
  unfold b_p_struck
  have hL := encH_list h
  have hlen := encH_len h
  have hj2 : j < h.length := (List.getElem?_eq_some_iff.mp hj).1
  refine wp_own (h.map encE) (by walk_at "ev") ?_
  refine wp_rng_ret 0 h.length j hj2 (fun _ env => ∃ x, env = [.val (encH h), .val (.int day), .own (h.map encE), x]) (encH (h.set j (.rd day v true))) (ev_r1 (n := (h.length : Int)) (by walk_at "ev") (by omega) (by omega)) ⟨_, rfl⟩ ?_ ?_ rfl
  · rintro i _ hi ⟨x, rfl⟩
    refine ⟨_, rfl, ?_⟩
    rw [Int.zero_add]
    show Wp _ [.val (encH h), .val (.int day), .own (h.map encE), .val (.int i)] _
    have hg : h[i]? = some h[i] := List.getElem?_eq_getElem (by omega)
    have he := encH_at hg
    have ht := open_test (f := xOp oIdx (xVar 0) (xVar 3)) (g := xVar 1) (env := [.val (encH h), .val (.int day), .own (h.map encE), .val (.int i)]) (e := h[i]) (day := day) (by walk_at "ev") rfl
    rw [hn i hi _ hg] at ht
    exact wp_no0 ht (wp_skip0 (turn_nx ⟨_, rfl⟩))
  · rintro _ ⟨x, rfl⟩
    refine ⟨_, rfl, ?_⟩
    rw [Int.zero_add]
    show Wp _ [.val (encH h), .val (.int day), .own (h.map encE), .val (.int j)] _
    have he := encH_at hj
    have ht := open_test (f := xOp oIdx (xVar 0) (xVar 3)) (g := xVar 1) (env := [.val (encH h), .val (.int day), .own (h.map encE), .val (.int j)]) (e := .rd day v false) (day := day) (by walk_at "ev") rfl
    rw [show isOpen day (.rd day v false) = true from (by simp : (decide (day = day) && !false) = true)] at ht
    refine wp_yes0 ht ?_
    have h2 : oIdx (encE (.rd day v false)) (.int 2) = .ok (.int v) := idxT_at (by decide) rfl
    refine wp_seq (setI_eq (ds := h.map encE) (k := j) (d := encE (.rd day v true)) rfl rfl (by simpa using hj2) (by unfold encE at h2 ⊢; unfold encE at he; walk_at "ev")) ?_
    refine wp_frz ((h.set j (.rd day v true)).map encE) (by rw [List.map_set]; rfl) ?_
    exact wp_ret _ rfl rfl
theorem refused_05_spec {h : List Ent} {day : Int} (hl : h.length ≤ 1000) (hn : ∀ (j : Nat) e, h[j]? = some e → isOpen day e = false) : f_l_refused_05 [encH h, .int day] = .ok (.bool true) := by
  refine wp_run rfl ?_
  show Wp b_l_refused_05 [.val (encH h), .val (.int day), .un, .un] _
  unfold b_l_refused_05
  have hw := struck_no hl hn
  exact wp_try rfl (x := .noReading) (env1 := [.val (encH h), .val (.int day), .un, .un]) (by walk_at "ev") rfl (.bool true) rfl rfl
theorem ent_ne {a b : Ent} (h : a.day ≠ b.day) : oEq (encE a) (encE b) = .ok (.bool false) := by
  have e : PyData.eqv (encE a) (encE b) = false := by
    cases a <;> cases b <;> simp_all [encE, PyData.eqv, PyData.eqvAll, Ent.day]
  have s : sEq (encE a) (encE b) = none := by cases a <;> cases b <;> rfl
  unfold oEq
  rw [s]
  show (if (SeqAt.shaped (encE a) && SeqAt.shaped (encE b)) = true then An.ok (PyData.bool (PyData.eqv (encE a) (encE b))) else .bad) = _
  rw [(encE_sh a).ok (by decide), (encE_sh b).ok (by decide), if_pos (by rfl), e]
theorem ent_eq (a : Ent) : oEq (encE a) (encE a) = .ok (.bool true) := eq_sh (encE_sh a) (by decide) (by cases a <;> rfl)
theorem ent_nn (a : Ent) : oNe (encE a) (encE a) = .ok (.bool false) := ne_sh (encE_sh a) (by decide) (by cases a <;> rfl)
end Mg
namespace Mg
open PySem PySem.Spec PyProof.Rows L2
/-- a tariff by the document's bounds -/
def GoodT (t : Tar) : Prop := 0 ≤ t.lo ∧ t.lo ≤ 1000000000 ∧ 0 ≤ t.hi ∧ t.hi ≤ 1000000000 ∧ 0 ≤ t.li ∧ t.li ≤ 1000000000000
theorem tariff_by_spec (m n : Int) (m0 : 0 ≤ m) (m1 : m < 2147483647) (n0 : 0 ≤ n) (n1 : n < 2147483647) : ∃ t : Tar, GoodT t ∧ f_l_tariff_by [.int m, .int n] = .ok (encT t) := by
  obtain ⟨d, hd, _⟩ := pick (xs := [m % 12, m % 2001]) (k := m / 5 % 2) (fun _ => True) (fun _ _ => trivial) (by omega) (by show m / 5 % 2 < 2; omega)
  obtain ⟨lo, hlo, lo0, lo1⟩ := pick (xs := [0, 1, n % 1000000001]) (k := m / 7 % 3) (fun x => 0 ≤ x ∧ x ≤ 1000000000) (by simp; omega) (by omega) (by show m / 7 % 3 < 3; omega)
  obtain ⟨hi, hhi, hi0, hi1⟩ := pick (xs := [0, 3, n / 7 % 1000000001]) (k := m / 21 % 3) (fun x => 0 ≤ x ∧ x ≤ 1000000000) (by simp; omega) (by omega) (by show m / 21 % 3 < 3; omega)
  obtain ⟨li, hli, li0, li1⟩ := pick (xs := [0, 1, 30, n * 48271 % 1000000000001]) (k := m / 63 % 4) (fun x => 0 ≤ x ∧ x ≤ 1000000000000) (by simp; omega) (by omega) (by show m / 63 % 4 < 4; omega)
  obtain ⟨pr, hpr, pr0⟩ := pick (xs := [1, 100, 1000000001]) (k := m / 252 % 3) (fun x => 0 < x) (by simp) (by omega) (by show m / 252 % 3 < 3; omega)
  refine ⟨⟨d, n / 3 % pr, lo, li, hi⟩, ⟨lo0, lo1, hi0, hi1, li0, li1⟩, wp_run rfl ?_⟩
  show Wp b_l_tariff_by [.val (.int m), .val (.int n), .un, .un, .un, .un] _
  unfold b_l_tariff_by encT
  simp only [List.map_cons, List.map_nil] at hd hlo hhi hli hpr
  refine wp_set (.int d) (by walk_at "ev") ?_
  refine wp_set (.int lo) (by walk_at "ev") ?_
  refine wp_set (.int hi) (by walk_at "ev") ?_
  refine wp_set (.int li) (by walk_at "ev") ?_
  exact wp_val (by walk_at "ev")
theorem cost_right_spec {t : Tar} {u : Int} (g : GoodT t) (u0 : 0 ≤ u) (u1 : u ≤ 1000000000000000) : f_l_cost_right [encT t, .int u] = .ok (.bool true) := by
  obtain ⟨g1, g2, g3, g4, g5, g6⟩ := g
  refine wp_run rfl ?_
  show Wp b_l_cost_right [.val (encT t), .val (.int u), .un, .un] _
  unfold b_l_cost_right
  have h0 := encT_0 t
  have h1 := encT_1 t
  have h2 := encT_2 t
  have h3 := encT_3 t
  have h4 := encT_4 t
  have hc := cost_some (t := t) (u := u) g1 g2 g3 g4
  have hw := whole_int
  refine wp_set (.int (t.st + t.lo * u)) (by walk_at "ev") ?_
  by_cases h : t.li < u
  · refine wp_yes (by walk_at "ev") ?_
    refine wp_set (.int (t.st + t.lo * t.li + t.hi * (u - t.li))) (by walk_at "ev") ?_
    have e : costT t u = t.st + t.lo * t.li + t.hi * (u - t.li) := by
      unfold costT
      rw [show min u t.li = t.li by omega, show max 0 (u - t.li) = u - t.li by omega]
    rw [e] at hc
    generalize t.st + t.lo * t.li + t.hi * (u - t.li) = z at *
    refine wp_set (.int z) (by walk_at "ev") ?_
    exact wp_val (by walk_at "ev")
  · refine wp_no (by walk_at "ev") (wp_skip ?_)
    have e : costT t u = t.st + t.lo * u := by
      unfold costT
      rw [show min u t.li = u by omega, show max 0 (u - t.li) = 0 by omega, Int.mul_zero, Int.add_zero]
    rw [e] at hc
    generalize t.st + t.lo * u = z at *
    refine wp_set (.int z) (by walk_at "ev") ?_
    exact wp_val (by walk_at "ev")
theorem refused_spec {ts : List Tar} {t : Tar} (hl : ts.length ≤ 1000) (h : t.d ∈ ts.map (·.d)) : f_l_refused [tarsT ts, encT t] = .ok (.bool true) := by
  refine wp_run rfl ?_
  show Wp b_l_refused [.val (tarsT ts), .val (encT t), .un] _
  unfold b_l_refused
  have hw := with_no hl h
  exact wp_try rfl (x := .stands) (env1 := [.val (tarsT ts), .val (encT t), .un]) (by walk_at "ev") rfl (.bool true) rfl rfl
def insT (ts : List Tar) (t : Tar) : List Tar := ts.filter (fun a => decide (a.d < t.d)) ++ [t] ++ ts.filter (fun a => decide (t.d < a.d))
def Ris (ts : List Tar) : Prop := ts.Pairwise fun a b => a.d < b.d
theorem insT_ris {ts : List Tar} {t : Tar} (h : Ris ts) : Ris (insT ts t) := by
  unfold insT Ris
  rw [List.pairwise_append, List.pairwise_append]
  refine ⟨⟨h.filter _, List.pairwise_singleton _ _, ?_⟩, h.filter _, ?_⟩
  · intro a ha b hb
    rw [List.mem_singleton] at hb
    subst hb
    exact of_decide_eq_true (List.mem_filter.mp ha).2
  · intro a ha b hb
    have hb := of_decide_eq_true (List.mem_filter.mp hb).2
    rcases List.mem_append.mp ha with ha | ha
    · have ha := of_decide_eq_true (List.mem_filter.mp ha).2
      omega
    · rw [List.mem_singleton] at ha
      subst ha
      exact hb
theorem insT_mem {ts : List Tar} {t a : Tar} (h : a ∈ insT ts t) : a ∈ ts ∨ a = t := by
  unfold insT at h
  simp only [List.mem_append, List.mem_filter, List.mem_singleton] at h
  rcases h with (h | h) | h
  · exact .inl h.1
  · exact .inr h
  · exact .inl h.1
theorem insT_perm {ts : List Tar} {t : Tar} (hn : ¬ t.d ∈ ts.map (·.d)) : (insT ts t).Perm (ts ++ [t]) := by
  have e : ts.filter (fun a => decide (t.d < a.d)) = ts.filter (fun a => !decide (a.d < t.d)) := by
    refine List.filter_congr fun a ha => ?_
    have : a.d ≠ t.d := fun q => hn (List.mem_map.mpr ⟨a, ha, q⟩)
    by_cases q : a.d < t.d
    · have : ¬ t.d < a.d := by omega
      simp [q, this]
    · have : t.d < a.d := by omega
      simp [q, this]
  unfold insT
  rw [e]
  have p := List.filter_append_perm (fun a => decide (a.d < t.d)) ts
  refine List.Perm.trans ?_ (p.append_right [t])
  rw [List.append_assoc, List.append_assoc]
  exact List.Perm.append_left _ List.perm_append_comm
theorem tars_int {ts : List Tar} : (ts.map encT).all isIT = true := by
  rw [List.all_eq_true]
  intro x hx
  obtain ⟨t, _, rfl⟩ := List.mem_map.mp hx
  rfl
theorem ris_key {xs : List Tar} (h : (xs.map (·.d)).Nodup) : ∀ a ∈ xs, ∀ b ∈ xs, PySem.W.dataLe false (fun d => d) (encT a) (encT b) = decide (a.d ≤ b.d) := by
  intro a ha b hb
  by_cases e : a.d = b.d
  · have : a = b := by
      obtain ⟨i, hi, rfl⟩ := List.mem_iff_getElem.mp ha
      obtain ⟨j, hj, rfl⟩ := List.mem_iff_getElem.mp hb
      have q := (List.getElem_inj (xs := xs.map (·.d)) (i := i) (j := j) (h₀ := by simpa using hi) (h₁ := by simpa using hj) h).mp (by simpa using e)
      subst q
      rfl
    subst this
    have z := row_le_self (xs := [.int a.d, .int a.st, .int a.lo, .int a.li, .int a.hi]) rfl
    rw [show encT a = .tuple [.int a.d, .int a.st, .int a.lo, .int a.li, .int a.hi] from rfl, z]
    exact (decide_eq_true (Int.le_refl _)).symm
  · exact row_le e
theorem insT_sorted {ts : List Tar} {t : Tar} (h : Ris ts) (hn : ¬ t.d ∈ ts.map (·.d)) (hl : ts.length ≤ 1000) : oSorted [.list ((ts ++ [t]).map encT)] = .ok ((insT ts t).map encT) := by
  refine sorted_key (key := Tar.d) ?_ (insT_perm hn) (insT_ris h) (by simp; omega) (by rw [tars_int, Bool.or_true])
  refine ris_key ?_
  rw [List.map_append, List.nodup_append]
  refine ⟨?_, by simp, ?_⟩
  · unfold List.Nodup
    rw [List.pairwise_map]
    exact h.imp fun q => by omega
  · intro a ha b hb
    rw [List.map_cons, List.map_nil, List.mem_singleton] at hb
    rintro rfl
    exact hn (hb ▸ ha)
theorem insT_len (ts : List Tar) (t : Tar) (hn : ¬ t.d ∈ ts.map (·.d)) : (insT ts t).length = ts.length + 1 := by
  rw [(insT_perm hn).length_eq, List.length_append, List.length_singleton]
theorem tars_sh (ts : List Tar) : ∀ d ∈ ts.map encT, Sh 1 d := sh_map fun t _ => encT_sh t
theorem encO_sh (o : Option Tar) : Sh 1 (encO o) := by
  cases o with
  | none => exact sh_none.le (by decide)
  | some t => exact encT_sh t
theorem encO_ne (o : Option Tar) : oNe (encO o) (encO o) = .ok (.bool false) := by
  cases o with
  | none => rfl
  | some t => exact ne_sh (encT_sh t) (by decide) rfl
theorem isA_tup {ds : List D} : oIsA "tuple" (.tuple ds) = .ok (.bool true) := by
  have e : kitB "tuple" "tuple" = some true := by decide +kernel
  show (match kitB "tuple" "tuple" with | some b => An.ok (PyData.bool b) | none => .bad) = _
  rw [e]
theorem oCat_ok {a b : List D} (h : a.length + b.length ≤ 100000) : oCat (.list a) (.list b) = .ok (a ++ b) := if_pos h
def E03 (ns : List Int) (n : Int) (ts : List Tar) (x4 x8 x9 x10 : Slot) : Env := [.val (intsD ns), .val (tarsT ts), .val (tarsL ts), .val (.int n), x4, .un, .un, .un, x8, x9, x10, .un]
theorem law_true_03 : ∀ ns : List Int, ns.length ≤ 63 → f_law_03 [.list (ns.map .int)] = .ok (.bool true) := by
  intro ns hl
  refine wp_run rfl ?_
  show Wp b_law_03 [.val (intsD ns), .un, .un, .un, .un, .un, .un, .un, .un, .un, .un, .un] _
  unfold b_law_03
  obtain ⟨c0, e0⟩ := cell_spec ns 0 (by decide)
  obtain ⟨c1, e1⟩ := cell_spec ns 1 (by decide)
  obtain ⟨c2, e2⟩ := cell_spec ns 2 (by decide)
  refine wp_set (tarsT []) rfl ?_
  refine wp_set (tarsL []) rfl ?_
  refine wp_set (.int (c0 % 10)) (by walk_at "ev") ?_
  refine wp_P (fun env => ∃ n : Int, 0 ≤ n ∧ n ≤ 49 ∧ env = E03 ns n [] .un .un .un .un) ?_ ?_
  · by_cases h : c0 % 8 = 5
    · exact wp_yes0 (by walk_at "ev") (wp_set0 (.int (10 + c0 / 8 % 40)) (by walk_at "ev") (nx_nx ⟨10 + c0 / 8 % 40, by omega, by omega, rfl⟩))
    · exact wp_no0 (by walk_at "ev") (wp_skip0 (nx_nx ⟨c0 % 10, by omega, by omega, rfl⟩))
  rintro _ ⟨n, n0, n1, rfl⟩
  refine wp_rng 0 n.toNat (fun i env => ∃ ts x4 x8 x9 x10, env = E03 ns n ts x4 x8 x9 x10 ∧ x4.plain = true ∧ x8.plain = true ∧ x9.plain = true ∧ x10.plain = true ∧ ts.length ≤ i ∧ Ris ts ∧ ∀ t ∈ ts, GoodT t) (ev_r1 rfl (by omega) (by omega)) ⟨[], .un, .un, .un, .un, rfl, rfl, rfl, rfl, rfl, Nat.le_refl _, .nil, fun _ h => nomatch h⟩ ?_ ?_
  · rintro i _ hi ⟨ts, x4, x8, x9, x10, rfl, p4, p8, p9, p10, hlen, ris, good⟩
    refine ⟨_, rfl, ?_⟩
    rw [Int.zero_add]
    show Wp _ [.val (intsD ns), .val (tarsT ts), .val (tarsL ts), .val (.int n), .val (.int i), .un, .un, .un, x8, x9, x10, .un] _
    obtain ⟨m1, hm1, a0, a1⟩ := mixed_spec ns (3 + 2 * (i : Int)) (by omega)
    obtain ⟨m2, hm2, b0, b1⟩ := mixed_spec ns (4 + 2 * (i : Int)) (by omega)
    obtain ⟨t, gt, ht⟩ := tariff_by_spec m1 m2 a0 a1 b0 b1
    refine wp_set (encT t) (by walk_at "ev") ?_
    show Wp _ [.val (intsD ns), .val (tarsT ts), .val (tarsL ts), .val (.int n), .val (.int i), .un, .un, .un, .val (encT t), x9, x10, .un] _
    have h1 : nErr (xLc (iL (xVar 2)) [7] (bName 7) tYesX (xOp oIdx (xVar 7) (xC (.int 0)))) [.val (intsD ns), .val (tarsT ts), .val (tarsL ts), .val (.int n), .val (.int i), .un, .un, .un, .val (encT t), x9, x10, .un] = .ok ((ts.map (·.d)).map .int) := by
      rw [List.map_map]
      exact lc_all (enc := encT) (fun a => .int a.d) ts (by walk_at "plain") (ev_itL rfl) (by omega) fun a _ => ⟨_, rfl, encT_0 a⟩
    have h2 := in_ints t.d (ts.map (·.d))
    have h3 := encT_0 t
    have hc : tOf (xOp oIn (xOp oIdx (xVar 8) (xC (.int 0))) (xL (nErr (xLc (iL (xVar 2)) [7] (bName 7) tYesX (xOp oIdx (xVar 7) (xC (.int 0))))))) [.val (intsD ns), .val (tarsT ts), .val (tarsL ts), .val (.int n), .val (.int i), .un, .un, .un, .val (encT t), x9, x10, .un] = .ok (decide (t.d ∈ ts.map (·.d))) := by walk_at "ev"
    clear h1 h2 hm1 hm2 ht
    by_cases h : t.d ∈ ts.map (·.d)
    · rw [decide_eq_true h] at hc
      have hr := refused_spec (show ts.length ≤ 1000 by omega) h
      refine wp_yes hc (wp_assoc ?_)
      refine wp_no (by walk_at "ev") (wp_skip (wp_ct (turn_ct ?_)))
      exact ⟨ts, _, _, _, _, rfl, rfl, rfl, p9, p10, by omega, ris, good⟩
    · rw [decide_eq_false h] at hc
      refine wp_no hc (wp_skip ?_)
      clear hc
      have hy : f_p_with_tariff [tarsT ts, encT t] = .ok (tarsT (insT ts t)) := with_yes (show ts.length ≤ 1000 by omega) h
      have hs := insT_sorted ris h (show ts.length ≤ 1000 by omega)
      have hL : oList [tarsT ts] = .ok (ts.map encT) := rfl
      have hL2 : oList [tarsT (insT ts t)] = .ok ((insT ts t).map encT) := rfl
      have hcat : oCat (tarsL ts) (.list [encT t]) = .ok ((ts ++ [t]).map encT) := by
        rw [tarsL, oCat_ok (by simp; omega), List.map_append]
        rfl
      refine wp_set (tarsL ts) (by unfold tarsL; walk_at "ev") ?_
      refine wp_set (tarsT (insT ts t)) (by walk_at "ev") ?_
      refine wp_set (tarsL (insT ts t)) (by unfold tarsL at *; walk_at "ev") ?_
      have n1 : oNe (.list ((insT ts t).map encT)) (tarsL (insT ts t)) = .ok (.bool false) := neL_sh (tars_sh _) (by decide)
      have n2 : oNe (.list (ts.map encT)) (tarsL ts) = .ok (.bool false) := neL_sh (tars_sh _) (by decide)
      have ia : oIsA "tuple" (tarsT (insT ts t)) = .ok (.bool true) := isA_tup
      refine wp_no (by walk_at "ev") (wp_skip ?_)
      refine wp_set0 (tarsT (insT ts t)) (by walk_at "ev") (turn_nx ?_)
      refine ⟨insT ts t, .val (.int i), .val (encT t), .val (tarsL ts), .val (tarsT (insT ts t)), rfl, rfl, rfl, rfl, rfl, by rw [insT_len _ _ h]; omega, insT_ris ris, fun a ha => ?_⟩
      rcases insT_mem ha with ha | rfl
      · exact good a ha
      · exact gt
  rintro _ ⟨ts, x4, x8, x9, x10, rfl, p4, p8, p9, p10, hlen, ris, good⟩
  have hl2 : ts.length ≤ 49 := by omega
  unfold E03
  refine wp_fold (enc := PyData.int) (fun s _ => s) (fun (_ : Unit) env => ∃ x5 x7 x11, env = [.val (intsD ns), .val (tarsT ts), .val (tarsL ts), .val (.int n), x4, x5, .un, x7, x8, x9, x10, x11]) [c1 % 13, c2 % 2001] () (by
    show iL _ _ = .ok [.int (c1 % 13), .int (c2 % 2001)]
    show (xL _ _).bnd oItemsL = _
    have e : (xL (aCons (xOp oMod (xApp f_l_cell_at (aCons (xVar 0) (aCons (xC (.int 1)) aNil))) (xC (.int 13))) (aCons (xOp oMod (xApp f_l_cell_at (aCons (xVar 0) (aCons (xC (.int 2)) aNil))) (xC (.int 2001))) aNil))) [.val (intsD ns), .val (tarsT ts), .val (tarsL ts), .val (.int n), x4, .un, .un, .un, x8, x9, x10, .un] = .ok (.list [.int (c1 % 13), .int (c2 % 2001)]) := by walk_at "ev"
    rw [e]
    rfl) ⟨_, _, _, rfl⟩ ?_ ?_
  · rintro _ day _ _ ⟨x5, x7, x11, rfl⟩
    refine ⟨_, rfl, ?_⟩
    refine wp_set .none rfl ?_
    refine wp_fold (enc := encT) (fun o t => if t.d ≤ day then some t else o) (fun o env => ∃ x7, env = [.val (intsD ns), .val (tarsT ts), .val (tarsL ts), .val (.int n), x4, .val (.int day), .un, x7, x8, x9, x10, .val (encO o)]) ts none (ev_itL rfl) ⟨_, rfl⟩ ?_ ?_
    · rintro o t _ _ ⟨y7, rfl⟩
      refine ⟨_, rfl, ?_⟩
      show Wp _ [.val (intsD ns), .val (tarsT ts), .val (tarsL ts), .val (.int n), x4, .val (.int day), .un, .val (encT t), x8, x9, x10, .val (encO o)] _
      have h0 := encT_0 t
      by_cases h : t.d ≤ day
      · rw [if_pos h]
        exact wp_yes0 (by walk_at "ev") (wp_set0 (encT t) (by walk_at "ev") (turn_nx ⟨_, rfl⟩))
      · rw [if_neg h]
        exact wp_no0 (by walk_at "ev") (wp_skip0 (turn_nx ⟨_, rfl⟩))
    · rintro _ ⟨y7, rfl⟩
      have ho : f_p_tariff_on [tarsT ts, .int day] = .ok (encO (lastT day ts)) := on_spec
      have hn : oNe (encO (lastT day ts)) (encO (lastT day ts)) = .ok (.bool false) := encO_ne _
      unfold lastT at *
      exact wp_no0 (by walk_at "ev") (wp_skip0 (turn_nx ⟨_, _, _, rfl⟩))
  rintro _ ⟨x5, x7, x11, rfl⟩
  obtain ⟨u, hu, u0, u1⟩ := pick (xs := [c2 % 40, c2 % 1000000000000001]) (k := c1 % 2) (fun x => 0 ≤ x ∧ x ≤ 1000000000000000) (by simp; omega) (by omega) (by show c1 % 2 < 2; omega)
  simp only [List.map_cons, List.map_nil] at hu
  refine wp_set (.int u) (by walk_at "ev") ?_
  clear hu
  refine wp_fold (enc := encT) (fun s _ => s) (fun (_ : Unit) env => ∃ x7, env = [.val (intsD ns), .val (tarsT ts), .val (tarsL ts), .val (.int n), x4, x5, .val (.int u), x7, x8, x9, x10, x11]) ts () (ev_itL rfl) ⟨_, rfl⟩ ?_ ?_
  · rintro _ t _ ht ⟨y7, rfl⟩
    refine ⟨_, rfl, ?_⟩
    show Wp _ [.val (intsD ns), .val (tarsT ts), .val (tarsL ts), .val (.int n), x4, x5, .val (.int u), .val (encT t), x8, x9, x10, x11] _
    have g := good t ht
    have h3 := encT_3 t
    have a1 := cost_right_spec (u := u) g u0 u1
    have a2 := cost_right_spec (u := t.li) g g.2.2.2.2.1 (by have := g.2.2.2.2.2; omega)
    have a3 := cost_right_spec (u := t.li + 1) g (by have := g.2.2.2.2.1; omega) (by have := g.2.2.2.2.2; omega)
    exact wp_no0 (by walk_at "ev") (wp_skip0 (turn_nx ⟨_, rfl⟩))
  rintro _ ⟨y7, rfl⟩
  have hc := cost_none (u := u)
  exact wp_val (by walk_at "ev")
end Mg
namespace Mg
open PySem PySem.Spec PyProof.Rows L2
theorem gone_spec (s a b : Int) (h : 0 < s) : f_p_gone [.int s, .int a, .int b] = .ok (.int ((b - a) % s)) := by
  rw [f_p_gone, run_eq (by rfl)]
  show outAn (b_p_gone [.val (.int s), .val (.int a), .val (.int b)]) = _
  unfold b_p_gone
  walk_at "ev"
theorem shown_spec (s a b : Int) (h : 0 < s) : f_p_shown_then [.int s, .int a, .int b] = .ok (.int ((a + b) % s)) := by
  rw [f_p_shown_then, run_eq (by rfl)]
  show outAn (b_p_shown_then [.val (.int s), .val (.int a), .val (.int b)]) = _
  unfold b_p_shown_then
  walk_at "ev"
theorem law_true_01 : ∀ ns : List Int, ns.length ≤ 63 → f_law_01 [.list (ns.map .int)] = .ok (.bool true) := by
  intro ns hl
  rw [f_law_01, run_eq (by rfl)]
  show outAn (b_law_01 [.val (intsD ns), .un, .un, .un, .un, .un, .un]) = _
  obtain ⟨m, hm, m0, m1⟩ := mixed_spec ns 2 (by decide)
  obtain ⟨s, hs, s0, s1⟩ := size_spec m m0 m1
  obtain ⟨c0, e0⟩ := cell_spec ns 0 (by decide)
  obtain ⟨c1, e1⟩ := cell_spec ns 1 (by decide)
  obtain ⟨c2, e2⟩ := cell_spec ns 2 (by decide)
  obtain ⟨c3, e3⟩ := cell_spec ns 3 (by decide)
  obtain ⟨c4, e4⟩ := cell_spec ns 4 (by decide)
  unfold b_law_01
  have p1 : 0 ≤ c0 % s ∧ c0 % s < s := emod_mul_lt' _ (by omega)
  have p2 : 0 ≤ c1 * 48271 % s ∧ c1 * 48271 % s < s := emod_mul_lt' _ (by omega)
  refine seq_go (env' := [.val (intsD ns), .val (.int s), .un, .un, .un, .un, .un]) (by walk_at "ev") ?_
  refine seq_go (env' := [.val (intsD ns), .val (.int s), .val (.int (c0 % s)), .un, .un, .un, .un]) (by walk_at "ev") ?_
  refine seq_go (env' := [.val (intsD ns), .val (.int s), .val (.int (c0 % s)), .val (.int (c1 * 48271 % s)), .un, .un, .un]) (by walk_at "ev") ?_
  generalize c0 % s = one at p1
  generalize c1 * 48271 % s = oth at p2
  have key : ∃ o : Int, 0 ≤ o ∧ o < s ∧ (sIf (tOf (xOp oEq (xOp oMod (xApp f_l_cell_at (aCons (xVar 0) (aCons (xC (.int 2)) aNil))) (xC (.int 6))) (xC (.int 1)))) (sSet 3 (xOp oIdx (xL (aCons (xVar 2) (aCons (xC (.int 0)) (aCons (xOp oSub (xVar 1) (xC (.int 1))) aNil)))) (xOp oMod (xOp oFdiv (xApp f_l_cell_at (aCons (xVar 0) (aCons (xC (.int 2)) aNil))) (xC (.int 6))) (xC (.int 3))))) sSkip)
      [.val (intsD ns), .val (.int s), .val (.int one), .val (.int oth), .un, .un, .un] = .nx [.val (intsD ns), .val (.int s), .val (.int one), .val (.int o), .un, .un, .un] := by
    by_cases h : c2 % 6 = 1
    · obtain ⟨d, e, hd⟩ := idx_mem (ds := [.int one, .int 0, .int (s - 1)]) (k := c2 / 6 % 3) (by omega) (by show c2 / 6 % 3 < 3; omega)
      have hs : ∃ o : Int, d = .int o ∧ 0 ≤ o ∧ o < s := by
        simp only [List.mem_cons, List.not_mem_nil, or_false] at hd
        rcases hd with rfl | rfl | rfl <;> exact ⟨_, rfl, by omega, by omega⟩
      obtain ⟨o, rfl, h2, h3⟩ := hs
      refine ⟨o, h2, h3, ?_⟩
      walk_at "ev"
    · refine ⟨oth, p2.1, p2.2, ?_⟩
      walk_at "ev"
  obtain ⟨o, o0, o1, ho⟩ := key
  refine seq_go ho ?_
  have hg := gone_spec s one o (by omega)
  have g1 : 0 ≤ (o - one) % s ∧ (o - one) % s < s := emod_mul_lt' _ (by omega)
  have g2 : (one + (o - one) % s) % s = o := by
    rw [Int.add_emod, Int.emod_emod, ← Int.add_emod]
    have : one + (o - one) = o := by omega
    rw [this]
    exact Int.emod_eq_of_lt o0 o1
  have hw := whole_int
  refine seq_go (env' := [.val (intsD ns), .val (.int s), .val (.int one), .val (.int o), .val (.int ((o - one) % s)), .un, .un]) (by walk_at "ev") ?_
  generalize (o - one) % s = gn at g1 g2
  have n1 : ¬ gn < 0 := by omega
  have n2 : ¬ s ≤ gn := by omega
  refine seq_go (env' := [.val (intsD ns), .val (.int s), .val (.int one), .val (.int o), .val (.int gn), .un, .un]) (by walk_at "ev") ?_
  refine seq_go (env' := [.val (intsD ns), .val (.int s), .val (.int one), .val (.int o), .val (.int gn), .val (.int (c3 % 1000000000000001)), .un]) (by walk_at "ev") ?_
  generalize c3 % 1000000000000001 = u0
  have key : ∃ u : Int, (sIf (tOf (xOp oEq (xOp oMod (xApp f_l_cell_at (aCons (xVar 0) (aCons (xC (.int 4)) aNil))) (xC (.int 2))) (xC (.int 1)))) (sSet 5 (xOp oMod (xVar 5) (xOp oMul (xC (.int 3)) (xVar 1)))) sSkip)
      [.val (intsD ns), .val (.int s), .val (.int one), .val (.int o), .val (.int gn), .val (.int u0), .un] = .nx [.val (intsD ns), .val (.int s), .val (.int one), .val (.int o), .val (.int gn), .val (.int u), .un] := by
    by_cases h : c4 % 2 = 1
    · refine ⟨u0 % (3 * s), ?_⟩
      walk_at "ev"
    · refine ⟨u0, ?_⟩
      walk_at "ev"
  obtain ⟨u, hu⟩ := key
  refine seq_go hu ?_
  have hs1 := shown_spec s one gn (by omega)
  have hs2 := shown_spec s one u (by omega)
  rw [g2] at hs1
  refine seq_go (env' := [.val (intsD ns), .val (.int s), .val (.int one), .val (.int o), .val (.int gn), .val (.int u), .val (.list [.int o, .int ((one + u) % s)])]) (by walk_at "ev") ?_
  have i0 : oIdx (.list [.int o, .int ((one + u) % s)]) (.int 0) = .ok (.int o) := idx_at (by decide) rfl
  have i1 : oIdx (.list [.int o, .int ((one + u) % s)]) (.int 1) = .ok (.int ((one + u) % s)) := idx_at (by decide) rfl
  have i2 : oEq (.list [.int o, .int ((one + u) % s)]) (.list [.int o, .int ((one + u) % s)]) = .ok (.bool true) := eq_self (by rfl) rfl
  walk_at "ev"
end Mg
namespace Mg
open PySem PySem.Spec PyProof.Rows L2
def b_p_value_ahead : SX := (sSeq (sIf (tOf (xOp oEq (xOp oIdx (xVar 0) (xC (.int 0))) (xC (.str (PySem.Str.ofString "start"))))) (sRet (xOp oIdx (xVar 0) (xC (.int 3)))) sSkip) (sRet (xOp oIdx (xVar 0) (xC (.int 2)))))
def f_p_value_ahead : List D → An D := runDef 1 1 b_p_value_ahead
def b_p_value_behind : SX := (sSeq (sIf (tOf (xOp oEq (xOp oIdx (xVar 0) (xC (.int 0))) (xC (.str (PySem.Str.ofString "change"))))) (sRet (xOp oIdx (xVar 0) (xC (.int 4)))) sSkip) (sRet (xApp f_p_value_ahead (aCons (xVar 0) aNil))))
def f_p_value_behind : List D → An D := runDef 1 1 b_p_value_behind
def b_p_use_between : SX := (sRet (xApp f_p_gone (aCons (xApp f_p_size_at (aCons (xVar 0) (aCons (xVar 1) aNil))) (aCons (xApp f_p_value_behind (aCons (xOp oIdx (xVar 0) (xVar 1)) aNil)) (aCons (xApp f_p_value_ahead (aCons (xOp oIdx (xVar 0) (xVar 2)) aNil)) aNil)))))
def f_p_use_between : List D → An D := runDef 3 3 b_p_use_between
def b_p_counts : SX := (sSeq (sSet 4 (xOp oIdx (xVar 0) (xVar 3))) (sSeq (sIf (tOf (xOp oEq (xOp oIdx (xVar 4) (xC (.int 0))) (xC (.str (PySem.Str.ofString "change"))))) (sRet (xC (.bool true))) sSkip) (sSeq (sIf (tOf (xOp oIdx (xVar 4) (xC (.int 3)))) (sRet (xC (.bool false))) sSkip) (sRet (xOp oLe (xApp f_p_use_between (aCons (xVar 0) (aCons (xVar 2) (aCons (xVar 3) aNil)))) (xOp oMul (xVar 1) (xOp oSub (xOp oIdx (xVar 4) (xC (.int 1))) (xOp oIdx (xOp oIdx (xVar 0) (xVar 2)) (xC (.int 1))))))))))
def f_p_counts : List D → An D := runDef 5 4 b_p_counts
def b_p_points : SX := (sSeq (sOwn 2 aNil) (sSeq (sFor (iR1 (xApp oLen (aCons (xVar 0) aNil))) (bName 3) (sIf (tOrX (tOf (xOp oEq (xVar 3) (xC (.int 0)))) (tOf (xApp f_p_counts (aCons (xVar 0) (aCons (xVar 1) (aCons (xIxO 2 (xUn oNeg (xC (.int 1)))) (aCons (xVar 3) aNil))))))) (sApp 2 (xVar 3)) sSkip)) (sFrz 2 (sRet (xVar 2)))))
def f_p_points : List D → An D := runDef 4 2 b_p_points
def b_p_spans : SX := (sSeq (sOwn 2 aNil) (sSeq (sSet 3 (xApp f_p_points (aCons (xVar 0) (aCons (xVar 1) aNil)))) (sSeq (sFor (iR2 (xC (.int 1)) (xApp oLen (aCons (xVar 3) aNil))) (bName 4) (sSeq (sSet 5 (xOp oIdx (xVar 3) (xOp oSub (xVar 4) (xC (.int 1))))) (sSeq (sSet 6 (xOp oIdx (xVar 3) (xVar 4))) (sApp 2 (xTup (aCons (xOp oIdx (xOp oIdx (xVar 0) (xVar 5)) (xC (.int 1))) (aCons (xOp oIdx (xOp oIdx (xVar 0) (xVar 6)) (xC (.int 1))) (aCons (xApp f_p_use_between (aCons (xVar 0) (aCons (xVar 5) (aCons (xVar 6) aNil)))) aNil)))))))) (sFrz 2 (sRet (xVar 2))))))
def f_p_spans : List D → An D := runDef 7 2 b_p_spans
def b_p_known_to : SX := (sSeq (sSet 2 (xApp f_p_points (aCons (xVar 0) (aCons (xVar 1) aNil)))) (sSeq (sIf (tOf (xOp oEq (xApp oLen (aCons (xVar 2) aNil)) (xC (.int 0)))) (sRet (xC (.int 0))) sSkip) (sRet (xOp oIdx (xOp oIdx (xVar 0) (xOp oIdx (xVar 2) (xUn oNeg (xC (.int 1))))) (xC (.int 1))))))
def f_p_known_to : List D → An D := runDef 3 2 b_p_known_to
def b_l_account : SX := (sSeq (sOwn 2 aNil) (sSeq (sOwn 3 aNil) (sSeq (sSet 4 (xC (.int 0))) (sSeq (sSet 5 (xC (.int 0))) (sSeq (sSet 6 (xC (.int 0))) (sSeq (sFor (iR1 (xApp oLen (aCons (xVar 0) aNil))) (bName 7) (sSeq (sSet 8 (xOp oIdx (xVar 0) (xVar 7))) (sSeq (sIf (tOf (xOp oEq (xOp oIdx (xVar 8) (xC (.int 0))) (xC (.str (PySem.Str.ofString "start"))))) (sSeq (sSet 4 (xOp oIdx (xVar 8) (xC (.int 2)))) (sSet 5 (xOp oIdx (xVar 8) (xC (.int 3))))) (sSeq (sSet 9 (xOp oMod (xOp oSub (xOp oIdx (xVar 8) (xC (.int 2))) (xVar 5)) (xVar 4))) (sSeq (sIf (tAndX (tOf (xOp oEq (xOp oIdx (xVar 8) (xC (.int 0))) (xC (.str (PySem.Str.ofString "read"))))) (tOrX (tOf (xOp oIdx (xVar 8) (xC (.int 3)))) (tOf (xOp oGt (xVar 9) (xOp oMul (xVar 1) (xOp oSub (xOp oIdx (xVar 8) (xC (.int 1))) (xVar 6))))))) sCt sSkip) (sSeq (sApp 3 (xTup (aCons (xVar 6) (aCons (xOp oIdx (xVar 8) (xC (.int 1))) (aCons (xVar 9) aNil))))) (sSeq (sSet 5 (xOp oIdx (xVar 8) (xC (.int 2)))) (sIf (tOf (xOp oEq (xOp oIdx (xVar 8) (xC (.int 0))) (xC (.str (PySem.Str.ofString "change"))))) (sSeq (sSet 4 (xOp oIdx (xVar 8) (xC (.int 3)))) (sSet 5 (xOp oIdx (xVar 8) (xC (.int 4))))) sSkip)))))) (sSeq (sSet 6 (xOp oIdx (xVar 8) (xC (.int 1)))) (sApp 2 (xVar 7)))))) (sFrz 2 (sFrz 3 (sRet (xTup (aCons (xVar 2) (aCons (xVar 3) aNil))))))))))))
def f_l_account : List D → An D := runDef 10 2 b_l_account
def b_law_06 : SX := (sSeq (sSet 1 (xApp f_l_most_by (aCons (xApp f_l_cell_at (aCons (xVar 0) (aCons (xC (.int 0)) aNil))) aNil))) (sSeq (sSet 2 (xApp f_l_many_by (aCons (xApp f_l_cell_at (aCons (xVar 0) (aCons (xC (.int 4)) aNil))) aNil))) (sSeq (sIf (tOf (xOp oEq (xOp oMod (xApp f_l_cell_at (aCons (xVar 0) (aCons (xC (.int 4)) aNil))) (xC (.int 32))) (xC (.int 21)))) (sSet 2 (xOp oAdd (xC (.int 29)) (xOp oMod (xOp oFdiv (xApp f_l_cell_at (aCons (xVar 0) (aCons (xC (.int 4)) aNil))) (xC (.int 32))) (xC (.int 171))))) sSkip) (sSeq (sSet 3 (xApp f_l_history_by (aCons (xVar 0) (aCons (xVar 2) (aCons (xVar 1) aNil))))) (sSeq (sIf (tOf (xOp oEq (xOp oMod (xApp f_l_cell_at (aCons (xVar 0) (aCons (xC (.int 5)) aNil))) (xC (.int 16))) (xC (.int 3)))) (sSet 3 (xTup aNil)) sSkip) (sSeq (sAsg (bTup [8, 9]) (xApp f_l_account (aCons (xVar 3) (aCons (xVar 1) aNil)))) (sSeq (sSet 4 (xApp f_p_points (aCons (xVar 3) (aCons (xVar 1) aNil)))) (sSeq (sSet 5 (xApp f_p_spans (aCons (xVar 3) (aCons (xVar 1) aNil)))) (sSeq (sIf (tOrX (tNotX (tOf (xUn (oIsA "list") (xVar 4)))) (tOrX (tOf (xOp oNe (xVar 4) (xVar 8))) (tOrX (tNotX (tOf (xUn (oIsA "list") (xVar 5)))) (tOf (xOp oNe (xVar 5) (xVar 9)))))) (sRet (xC (.bool false))) sSkip) (sSeq (sFor (iL (xVar 5)) (bName 6) (sIf (tOrX (tNotX (tOf (xUn (oIsA "tuple") (xVar 6)))) (tNotX (tOf (xApp f_l_whole (aCons (xOp oIdx (xVar 6) (xC (.int 2))) aNil))))) (sRet (xC (.bool false))) sSkip)) (sSeq (sSet 7 (xC (.int 0))) (sSeq (sIf (tOf (xOp oGt (xApp oLen (aCons (xVar 3) aNil)) (xC (.int 0)))) (sSet 7 (xOp oIdx (xOp oIdx (xVar 3) (xOp oIdx (xVar 8) (xUn oNeg (xC (.int 1))))) (xC (.int 1)))) sSkip) (sRet (xOp oEq (xApp f_p_known_to (aCons (xVar 3) (aCons (xVar 1) aNil))) (xVar 7)))))))))))))))
def f_law_06 : List D → An D := runDef 10 1 b_law_06
end Mg
namespace Mg
open PySem PySem.Spec PyProof.Rows L2
/-! ### what counts -/
def Ent.ahead : Ent → Int
  | .st _ _ v => v
  | .rd _ v _ => v
  | .ch _ l _ _ => l
def Ent.behind : Ent → Int
  | .st _ _ v => v
  | .rd _ v _ => v
  | .ch _ _ _ f => f
def szStep (s : Int) : Ent → Int
  | .st _ s' _ => s'
  | .rd _ _ _ => s
  | .ch _ _ s' _ => s'
def sizeAt (h : List Ent) (p : Nat) : Int := (h.take (p + 1)).foldl szStep 0
def hat (h : List Ent) (i : Nat) : Ent := h.getD i (.st 0 0 0)
theorem hat_get {h : List Ent} {i : Nat} (hi : i < h.length) : h[i]? = some (hat h i) := by
  unfold hat
  rw [List.getD_eq_getElem?_getD, List.getElem?_eq_getElem hi]
  rfl
theorem hat_at {h : List Ent} {i : Nat} (hi : i < h.length) : oIdx (encH h) (.int i) = .ok (encE (hat h i)) := encH_at (hat_get hi)
theorem st_0 {d s v : Int} : oIdx (encE (.st d s v)) (.int 0) = .ok (.str "start") := encE_0 _
theorem st_2 {d s v : Int} : oIdx (encE (.st d s v)) (.int 2) = .ok (.int s) := idxT_at (by decide) rfl
theorem st_3 {d s v : Int} : oIdx (encE (.st d s v)) (.int 3) = .ok (.int v) := idxT_at (by decide) rfl
theorem rd_0 {d v : Int} {k : Bool} : oIdx (encE (.rd d v k)) (.int 0) = .ok (.str "read") := encE_0 _
theorem rd_2 {d v : Int} {k : Bool} : oIdx (encE (.rd d v k)) (.int 2) = .ok (.int v) := idxT_at (by decide) rfl
theorem rd_3 {d v : Int} {k : Bool} : oIdx (encE (.rd d v k)) (.int 3) = .ok (.bool k) := idxT_at (by decide) rfl
theorem ch_0 {d l s f : Int} : oIdx (encE (.ch d l s f)) (.int 0) = .ok (.str "change") := encE_0 _
theorem ch_2 {d l s f : Int} : oIdx (encE (.ch d l s f)) (.int 2) = .ok (.int l) := idxT_at (by decide) rfl
theorem ch_3 {d l s f : Int} : oIdx (encE (.ch d l s f)) (.int 3) = .ok (.int s) := idxT_at (by decide) rfl
theorem ch_4 {d l s f : Int} : oIdx (encE (.ch d l s f)) (.int 4) = .ok (.int f) := idxT_at (by decide) rfl
theorem ahead_spec (e : Ent) : f_p_value_ahead [encE e] = .ok (.int e.ahead) := by
  refine wp_run rfl ?_
  show Wp b_p_value_ahead [.val (encE e)] _
  unfold b_p_value_ahead
  have a1 := k_rs
  have a2 := k_cs
  cases e with
  | st d s v =>
    have h0 := st_0 (d := d) (s := s) (v := v)
    have h3 := st_3 (d := d) (s := s) (v := v)
    refine wp_yes (by walk_at "ev") ?_
    exact wp_valS h3
  | rd d v k =>
    have h0 := rd_0 (d := d) (v := v) (k := k)
    refine wp_no (by walk_at "ev") (wp_skip ?_)
    exact wp_val (rd_2 (d := d) (v := v) (k := k))
  | ch d l s f =>
    have h0 := ch_0 (d := d) (l := l) (s := s) (f := f)
    refine wp_no (by walk_at "ev") (wp_skip ?_)
    exact wp_val (ch_2 (d := d) (l := l) (s := s) (f := f))
theorem behind_spec (e : Ent) : f_p_value_behind [encE e] = .ok (.int e.behind) := by
  refine wp_run rfl ?_
  show Wp b_p_value_behind [.val (encE e)] _
  unfold b_p_value_behind
  have a1 := k_rc
  have a2 := k_sc
  have hv := ahead_spec e
  cases e with
  | st d s v =>
    have h0 := st_0 (d := d) (s := s) (v := v)
    refine wp_no (by walk_at "ev") (wp_skip ?_)
    exact wp_val (by walk_at "ev"; rfl)
  | rd d v k =>
    have h0 := rd_0 (d := d) (v := v) (k := k)
    refine wp_no (by walk_at "ev") (wp_skip ?_)
    exact wp_val (by walk_at "ev"; rfl)
  | ch d l s f =>
    have h0 := ch_0 (d := d) (l := l) (s := s) (f := f)
    refine wp_yes (by walk_at "ev") ?_
    exact wp_valS (ch_4 (d := d) (l := l) (s := s) (f := f))
theorem cut_to {xs : List D} (p : Nat) : cutD xs none (some (p : Int)) = xs.take p := by
  unfold cutD
  rw [HT.sIx_none, HT.sIx_nat, List.drop_zero, Nat.sub_zero]
  by_cases h : p ≤ xs.length
  · rw [Nat.min_eq_left h]
  · rw [Nat.min_eq_right (by omega), List.take_length, List.take_of_length_le (by omega)]
theorem size_at_spec {h : List Ent} (p : Nat) : f_p_size_at [encH h, .int p] = .ok (.int (sizeAt h p)) := by
  refine wp_run rfl ?_
  show Wp b_p_size_at [.val (encH h), .val (.int p), .un, .un] _
  unfold b_p_size_at
  refine wp_set (.int 0) rfl ?_
  have hs : iT (xSl (xVar 0) pNo (pAt (xOp oAdd (xVar 1) (xC (.int 1))))) [.val (encH h), .val (.int p), .val (.int 0), .un] = .ok ((h.take (p + 1)).map encE) := by
    have e : xSl (xVar 0) pNo (pAt (xOp oAdd (xVar 1) (xC (.int 1)))) [.val (encH h), .val (.int p), .val (.int 0), .un] = .ok (.tuple ((h.take (p + 1)).map encE)) := by
      unfold encH
      walk_at "ev"
      rw [show ((p : Int) + 1) = ((p + 1 : Nat) : Int) by omega, cut_to, List.map_take]
    show (xSl _ _ _ _).bnd oItemsT = _
    rw [e]
    rfl
  refine wp_fold (enc := encE) szStep (fun s env => ∃ x, env = [.val (encH h), .val (.int p), .val (.int s), x]) (h.take (p + 1)) 0 hs ⟨_, rfl⟩ ?_ ?_
  · rintro s e _ _ ⟨x, rfl⟩
    refine ⟨_, rfl, ?_⟩
    show Wp _ [.val (encH h), .val (.int p), .val (.int s), .val (encE e)] _
    have a1 := k_rs
    have a2 := k_cs
    have a3 := k_rc
    cases e with
    | st d z v =>
      have h0 := st_0 (d := d) (s := z) (v := v)
      have h2 := st_2 (d := d) (s := z) (v := v)
      exact wp_yes0 (by walk_at "ev") (wp_set0 (.int z) (by walk_at "ev") (turn_nx ⟨_, rfl⟩))
    | rd d v k =>
      have h0 := rd_0 (d := d) (v := v) (k := k)
      exact wp_no0 (by walk_at "ev") (wp_no0 (by walk_at "ev") (wp_skip0 (turn_nx ⟨_, rfl⟩)))
    | ch d l z f =>
      have h0 := ch_0 (d := d) (l := l) (s := z) (f := f)
      have h3 := ch_3 (d := d) (l := l) (s := z) (f := f)
      exact wp_no0 (by walk_at "ev") (wp_yes0 (by walk_at "ev") (wp_set0 (.int z) (by walk_at "ev") (turn_nx ⟨_, rfl⟩)))
  · rintro _ ⟨x, rfl⟩
    exact wp_val rfl
theorem sizeAt_succ {h : List Ent} {i : Nat} (hi : i + 1 < h.length) : sizeAt h (i + 1) = szStep (sizeAt h i) (hat h (i + 1)) := by
  unfold sizeAt
  rw [List.take_add_one (i := i + 1), List.foldl_append, hat_get hi]
  rfl
theorem sizeAt_zero {h : List Ent} (hi : 0 < h.length) : sizeAt h 0 = szStep 0 (hat h 0) := by
  unfold sizeAt
  rw [List.take_add_one (i := 0), List.foldl_append, hat_get hi]
  rfl
/-- a history by the document's rules, or none -/
structure HW (h : List Ent) : Prop where
  len : h.length ≤ 200
  first : 0 < h.length → ∃ d s v, hat h 0 = .st d s v ∧ 2 ≤ s ∧ s ≤ 1000000000000 ∧ 0 ≤ v ∧ v < s
  rest : ∀ i, i + 1 < h.length → (∃ d v k, hat h (i + 1) = .rd d v k ∧ 0 ≤ v ∧ v < sizeAt h i) ∨ ∃ d l s f, hat h (i + 1) = .ch d l s f ∧ 2 ≤ s ∧ s ≤ 1000000000000 ∧ 0 ≤ f ∧ f < s ∧ 0 ≤ l ∧ l < sizeAt h i
  days : ∀ i j, i < j → j < h.length → (hat h i).day < (hat h j).day
  day0 : ∀ i, i < h.length → 0 ≤ (hat h i).day ∧ (hat h i).day ≤ 12000
theorem HW.size {h : List Ent} (H : HW h) : ∀ i, i < h.length → 2 ≤ sizeAt h i ∧ sizeAt h i ≤ 1000000000000
  | 0, hi => by
    obtain ⟨d, s, v, e, h1, h2, h3, h4⟩ := H.first hi
    rw [sizeAt_zero hi, e]
    exact ⟨h1, h2⟩
  | i + 1, hi => by
    rw [sizeAt_succ hi]
    rcases H.rest i hi with ⟨d, v, k, e, _⟩ | ⟨d, l, s, f, e, h1, h2, _⟩
    · rw [e]
      exact H.size i (by omega)
    · rw [e]
      exact ⟨h1, h2⟩
theorem hat_app {h : List Ent} {e : Ent} {i : Nat} (hi : i < h.length) : hat (h ++ [e]) i = hat h i := by
  unfold hat
  rw [List.getD_eq_getElem?_getD, List.getD_eq_getElem?_getD, List.getElem?_append_left hi]
theorem hat_app_last {h : List Ent} {e : Ent} : hat (h ++ [e]) h.length = e := by
  unfold hat
  rw [List.getD_eq_getElem?_getD, List.getElem?_append_right (Nat.le_refl _), Nat.sub_self]
  rfl
theorem sizeAt_app {h : List Ent} {e : Ent} {i : Nat} (hi : i < h.length) : sizeAt (h ++ [e]) i = sizeAt h i := by
  unfold sizeAt
  rw [List.take_append_of_le_length (by omega)]
theorem Hist.size {h : List Ent} {l s w : Int} (H : Hist h l s w) : sizeAt h (h.length - 1) = s := by
  induction H with
  | start => rfl
  | @read h l s w d v k H h1 h2 h3 h4 ih =>
    have hp : 0 < h.length := List.length_pos_iff.mpr H.bounds.2.2.2.2.2.2
    obtain ⟨n, hn⟩ : ∃ n, h.length = n + 1 := ⟨h.length - 1, by omega⟩
    rw [hn, Nat.add_sub_cancel] at ih
    rw [List.length_append, List.length_singleton, Nat.add_sub_cancel, hn, sizeAt_succ (by simp; omega), sizeAt_app (by omega), ← hn, hat_app_last, ih]
    rfl
  | @change h l s w d v s' f H h1 h2 h3 h4 h5 h6 h7 h8 ih =>
    have hp : 0 < h.length := List.length_pos_iff.mpr H.bounds.2.2.2.2.2.2
    obtain ⟨n, hn⟩ : ∃ n, h.length = n + 1 := ⟨h.length - 1, by omega⟩
    rw [List.length_append, List.length_singleton, Nat.add_sub_cancel, hn, sizeAt_succ (by simp; omega), ← hn, hat_app_last]
    rfl
theorem Hist.hw {h : List Ent} {l s w : Int} (H : Hist h l s w) (hl : h.length ≤ 200) : HW h := by
  have hd := H.days
  have key : (0 < h.length → ∃ d s v, hat h 0 = .st d s v ∧ 2 ≤ s ∧ s ≤ 1000000000000 ∧ 0 ≤ v ∧ v < s) ∧ (∀ i, i + 1 < h.length → (∃ d v k, hat h (i + 1) = .rd d v k ∧ 0 ≤ v ∧ v < sizeAt h i) ∨ ∃ d l s f, hat h (i + 1) = .ch d l s f ∧ 2 ≤ s ∧ s ≤ 1000000000000 ∧ 0 ≤ f ∧ f < s ∧ 0 ≤ l ∧ l < sizeAt h i) ∧ ∀ i, i < h.length → 0 ≤ (hat h i).day ∧ (hat h i).day ≤ 60 * h.length := by
    clear hl hd
    induction H with
    | @start d s v h1 h2 h3 h4 h5 h6 =>
      refine ⟨fun _ => ⟨d, s, v, rfl, h3, h4, h5, h6⟩, fun i hi => by simp at hi, fun i hi => ?_⟩
      obtain rfl : i = 0 := by simpa using hi
      exact ⟨h1, by show d ≤ _; simp; omega⟩
    | @read h l s w d v k H h1 h2 h3 h4 ih =>
      obtain ⟨B0, B1, B2, B3, B4, B5, B6⟩ := H.bounds
      have hp : 0 < h.length := List.length_pos_iff.mpr B6
      refine ⟨fun _ => ?_, fun i hi => ?_, fun i hi => ?_⟩
      · rw [hat_app hp]
        exact ih.1 hp
      · rw [List.length_append, List.length_singleton] at hi
        by_cases q : i + 1 < h.length
        · rw [hat_app q, sizeAt_app (by omega)]
          exact ih.2.1 i q
        · obtain rfl : i = h.length - 1 := by omega
          rw [show h.length - 1 + 1 = h.length by omega, hat_app_last, sizeAt_app (by omega), H.size]
          exact .inl ⟨d, v, k, rfl, h3, h4⟩
      · rw [List.length_append, List.length_singleton] at hi
        by_cases q : i < h.length
        · rw [hat_app q]
          have := ih.2.2 i q
          simp
          omega
        · obtain rfl : i = h.length := by omega
          rw [hat_app_last]
          exact ⟨by show 0 ≤ d; omega, by show d ≤ _; simp; omega⟩
    | @change h l s w d v s' f H h1 h2 h3 h4 h5 h6 h7 h8 ih =>
      obtain ⟨B0, B1, B2, B3, B4, B5, B6⟩ := H.bounds
      have hp : 0 < h.length := List.length_pos_iff.mpr B6
      refine ⟨fun _ => ?_, fun i hi => ?_, fun i hi => ?_⟩
      · rw [hat_app hp]
        exact ih.1 hp
      · rw [List.length_append, List.length_singleton] at hi
        by_cases q : i + 1 < h.length
        · rw [hat_app q, sizeAt_app (by omega)]
          exact ih.2.1 i q
        · obtain rfl : i = h.length - 1 := by omega
          rw [show h.length - 1 + 1 = h.length by omega, hat_app_last, sizeAt_app (by omega), H.size]
          exact .inr ⟨d, v, s', f, rfl, h5, h6, h7, h8, h3, h4⟩
      · rw [List.length_append, List.length_singleton] at hi
        by_cases q : i < h.length
        · rw [hat_app q]
          have := ih.2.2 i q
          simp
          omega
        · obtain rfl : i = h.length := by omega
          rw [hat_app_last]
          exact ⟨by show 0 ≤ d; omega, by show d ≤ _; simp; omega⟩
  refine ⟨hl, key.1, key.2.1, fun i j hij hj => ?_, fun i hi => ?_⟩
  · have q := List.pairwise_iff_getElem.mp hd i j (by omega) hj hij
    have e1 := hat_get (h := h) (i := i) (by omega)
    have e2 := hat_get hj
    rw [List.getElem?_eq_getElem (by omega)] at e1 e2
    rw [← Option.some.inj e1, ← Option.some.inj e2]
    exact q
  · have := key.2.2 i hi
    omega
theorem HW.nil : HW [] := ⟨by decide, fun h => absurd h (by decide), fun i h => by simp at h, fun i j _ h => by simp at h, fun i h => by simp at h⟩
end Mg
namespace Mg
open PySem PySem.Spec PyProof.Rows L2
def useB (h : List Ent) (i j : Nat) : Int := ((hat h j).ahead - (hat h i).behind) % sizeAt h i
def cntB (h : List Ent) (mo : Int) (i j : Nat) : Bool := match hat h j with
  | .ch _ _ _ _ => true
  | .rd d _ k => !k && decide (useB h i j ≤ mo * (d - (hat h i).day))
  | .st _ _ _ => false
def lastN (l : List Nat) : Nat := l.getD (l.length - 1) 0
theorem lastN_app (l : List Nat) (a : Nat) : lastN (l ++ [a]) = a := by
  unfold lastN
  rw [List.getD_eq_getElem?_getD, last_snoc]
  rfl
/-- the places that count among the first i -/
def ptsI (h : List Ent) (mo : Int) : Nat → List Nat
  | 0 => []
  | i + 1 => if i = 0 ∨ cntB h mo (lastN (ptsI h mo i)) i = true then ptsI h mo i ++ [i] else ptsI h mo i
def pts (h : List Ent) (mo : Int) : List Nat := ptsI h mo h.length
abbrev nl (l : List Nat) : List D := l.map fun (n : Nat) => PyData.int (n : Int)
theorem pts_ok {h : List Ent} (H : HW h) (mo : Int) : ∀ i, 0 < i → i ≤ h.length → ptsI h mo i ≠ [] ∧ lastN (ptsI h mo i) < i ∧ sizeAt h (lastN (ptsI h mo i)) = sizeAt h (i - 1) ∧ (∀ p ∈ ptsI h mo i, p < i) ∧ (ptsI h mo i).Pairwise (· < ·) ∧ (ptsI h mo i).head? = some 0
  | 0, h0, _ => absurd h0 (Nat.lt_irrefl _)
  | 1, _, _ => by
    have e : ptsI h mo 1 = [0] := rfl
    rw [e]
    exact ⟨by simp, by decide, rfl, by simp, by simp, rfl⟩
  | i + 2, _, hi => by
    obtain ⟨h1, h2, h3, h4, h5, h6⟩ := pts_ok H mo (i + 1) (by omega) (by omega)
    have e : ptsI h mo (i + 2) = if i + 1 = 0 ∨ cntB h mo (lastN (ptsI h mo (i + 1))) (i + 1) = true then ptsI h mo (i + 1) ++ [i + 1] else ptsI h mo (i + 1) := rfl
    rw [e]
    by_cases c : cntB h mo (lastN (ptsI h mo (i + 1))) (i + 1) = true
    · rw [if_pos (.inr c)]
      refine ⟨by simp, by rw [lastN_app]; omega, by rw [lastN_app]; rfl, ?_, ?_, ?_⟩
      · intro p hp
        rcases List.mem_append.mp hp with hp | hp
        · have := h4 p hp
          omega
        · rw [List.mem_singleton] at hp
          omega
      · refine List.pairwise_append.mpr ⟨h5, List.pairwise_singleton _ _, fun a ha b hb => ?_⟩
        rw [List.mem_singleton] at hb
        have := h4 a ha
        omega
      · rw [List.head?_append, h6]
        rfl
    · rw [if_neg (by rintro (z | z); exact absurd z (by omega); exact c z)]
      refine ⟨h1, by omega, ?_, fun p hp => by have := h4 p hp; omega, h5, h6⟩
      rw [h3]
      show sizeAt h i = sizeAt h (i + 1)
      rw [sizeAt_succ (by omega)]
      rcases H.rest i (by omega) with ⟨d, v, k, q, _⟩ | ⟨d, l, s, f, q, _⟩
      · rw [q]
        rfl
      · exact absurd (by unfold cntB; rw [q]) c
theorem pts_lt {h : List Ent} (H : HW h) (mo : Int) {p : Nat} (hp : p ∈ pts h mo) : p < h.length := by
  by_cases z : 0 < h.length
  · exact (pts_ok H mo _ z (Nat.le_refl _)).2.2.2.1 p hp
  · have e : pts h mo = [] := by
      unfold pts
      rw [show h.length = 0 by omega]
      rfl
    rw [e] at hp
    cases hp
theorem pts_len {h : List Ent} (mo : Int) : ∀ i, (ptsI h mo i).length ≤ i
  | 0 => Nat.le_refl _
  | i + 1 => by
    have := pts_len (h := h) mo i
    show (if i = 0 ∨ cntB h mo (lastN (ptsI h mo i)) i = true then ptsI h mo i ++ [i] else ptsI h mo i).length ≤ i + 1
    split
    · simp
      omega
    · omega
theorem idxL_last {l : List Nat} (hl : l ≠ []) : oIdxL (nl l) (.int (-1)) = .ok (.int (lastN l : Nat)) := by
  have hp : 0 < l.length := List.length_pos_iff.mpr hl
  show (match atI (nl l) (-1) with | some d => An.ok d | none => .bad) = _
  rw [atI_last (d := .int (lastN l : Nat)) (by
    rw [List.length_map, List.getElem?_map, List.getElem?_eq_getElem (by omega)]
    unfold lastN
    rw [List.getD_eq_getElem?_getD, List.getElem?_eq_getElem (by omega)]
    rfl)]
theorem idx_last {l : List Nat} (hl : l ≠ []) : oIdx (.list (nl l)) (.int (-1)) = .ok (.int (lastN l : Nat)) := idxL_last hl
theorem idx_nl {l : List Nat} {k : Nat} (hk : k < l.length) : oIdx (.list (nl l)) (.int k) = .ok (.int (l.getD k 0 : Nat)) := idx_at (by omega) (by
  rw [Int.toNat_natCast, List.getElem?_map, List.getD_eq_getElem?_getD, List.getElem?_eq_getElem hk]
  rfl)
theorem use_between_spec {h : List Ent} (H : HW h) {i j : Nat} (hi : i < h.length) (hj : j < h.length) : f_p_use_between [encH h, .int i, .int j] = .ok (.int (useB h i j)) := by
  refine wp_run rfl ?_
  show Wp b_p_use_between [.val (encH h), .val (.int i), .val (.int j)] _
  unfold b_p_use_between
  have h1 := hat_at hi
  have h2 := hat_at hj
  have h3 := behind_spec (hat h i)
  have h4 := ahead_spec (hat h j)
  have h5 := size_at_spec (h := h) i
  have h6 := gone_spec (sizeAt h i) (hat h i).behind (hat h j).ahead (by have := H.size i hi; omega)
  exact wp_val (by unfold useB; walk_at "ev")
theorem counts_spec {h : List Ent} (H : HW h) {mo : Int} (mo0 : 0 ≤ mo) (mo1 : mo ≤ 1000000000000) {i j : Nat} (hi : i < h.length) (hj : j < h.length) (j0 : 0 < j) : f_p_counts [encH h, .int mo, .int i, .int j] = .ok (.bool (cntB h mo i j)) := by
  refine wp_run rfl ?_
  show Wp b_p_counts [.val (encH h), .val (.int mo), .val (.int i), .val (.int j), .un] _
  unfold b_p_counts
  have h1 := hat_at hi
  have h2 := hat_at hj
  have h3 := encE_1 (hat h i)
  have h4 := encE_1 (hat h j)
  have h5 := use_between_spec H hi hj
  have a1 := k_rc
  obtain ⟨m, rfl⟩ : ∃ m, j = m + 1 := ⟨j - 1, by omega⟩
  refine wp_set (encE (hat h (m + 1))) (by walk_at "ev") ?_
  unfold cntB
  rcases H.rest m hj with ⟨d, v, k, q, _⟩ | ⟨d, l, s, f, q, _⟩
  · rw [q] at h4 h2 ⊢
    have e0 := rd_0 (d := d) (v := v) (k := k)
    have e3 := rd_3 (d := d) (v := v) (k := k)
    refine wp_no (by walk_at "ev") (wp_skip ?_)
    cases k with
    | true =>
      refine wp_yes (by walk_at "ev") ?_
      exact wp_valS rfl
    | false =>
      refine wp_no (by walk_at "ev") (wp_skip ?_)
      have h4 : oIdx (encE (.rd d v false)) (.int 1) = .ok (.int d) := encE_1 _
      refine wp_val ?_
      walk_at "ev"
      rfl
  · rw [q] at h4 h2 ⊢
    have e0 := ch_0 (d := d) (l := l) (s := s) (f := f)
    refine wp_yes (by walk_at "ev") ?_
    exact wp_valS rfl
theorem points_spec {h : List Ent} (H : HW h) {mo : Int} (mo0 : 0 ≤ mo) (mo1 : mo ≤ 1000000000000) : f_p_points [encH h, .int mo] = .ok (.list (nl (pts h mo))) := by
  refine wp_run rfl ?_
  show Wp b_p_points [.val (encH h), .val (.int mo), .un, .un] _
  unfold b_p_points
  have hl := encH_len h
  have hl2 := H.len
  refine wp_own [] rfl ?_
  refine wp_rng 0 h.length (fun i env => ∃ x, env = [.val (encH h), .val (.int mo), .own (nl (ptsI h mo i)), x]) (ev_r1 (n := (h.length : Int)) (by walk_at "ev") (by omega) (by omega)) ⟨_, rfl⟩ ?_ ?_
  · rintro i _ hi ⟨x, rfl⟩
    refine ⟨_, rfl, ?_⟩
    rw [Int.zero_add]
    show Wp _ [.val (encH h), .val (.int mo), .own (nl (ptsI h mo i)), .val (.int i)] _
    have hlen : (nl (ptsI h mo i)).length ≤ 100000 := by
      have := pts_len (h := h) mo i
      simp
      omega
    have e : ptsI h mo (i + 1) = if i = 0 ∨ cntB h mo (lastN (ptsI h mo i)) i = true then ptsI h mo i ++ [i] else ptsI h mo i := rfl
    have go : Wp (sApp 2 (xVar 3)) [.val (encH h), .val (.int mo), .own (nl (ptsI h mo i)), .val (.int i)] (onTurn fun env => ∃ x, env = [.val (encH h), .val (.int mo), .own (nl (ptsI h mo i ++ [i])), x]) :=
      wp_app0 (nl (ptsI h mo i)) (.int i) rfl hlen rfl (turn_nx ⟨.val (.int i), by
        show ([.val (encH h), .val (.int mo), .own (nl (ptsI h mo i) ++ [.int i]), .val (.int i)] : Env) = _
        rw [nl, nl, List.map_append]
        rfl⟩)
    by_cases z : i = 0
    · subst z
      rw [e, if_pos (.inl rfl)]
      exact wp_yes0 rfl go
    · obtain ⟨p1, p2, _⟩ := pts_ok H mo i (by omega) (by omega)
      have hc := counts_spec H mo0 mo1 (i := lastN (ptsI h mo i)) (j := i) (by omega) hi (by omega)
      have hx := idxL_last p1
      have zi : ¬ (i : Int) = 0 := by omega
      have ht : tOrX (tOf (xOp oEq (xVar 3) (xC (.int 0)))) (tOf (xApp f_p_counts (aCons (xVar 0) (aCons (xVar 1) (aCons (xIxO 2 (xUn oNeg (xC (.int 1)))) (aCons (xVar 3) aNil)))))) [.val (encH h), .val (.int mo), .own (nl (ptsI h mo i)), .val (.int i)] = .ok (cntB h mo (lastN (ptsI h mo i)) i) := by walk_at "ev"
      rw [e]
      by_cases c : cntB h mo (lastN (ptsI h mo i)) i = true
      · rw [c] at ht
        rw [if_pos (.inr c)]
        exact wp_yes0 ht go
      · rw [Bool.not_eq_true] at c
        rw [c] at ht
        rw [if_neg (by rintro (q | q); exact z q; rw [c] at q; cases q)]
        exact wp_no0 ht (wp_skip0 (turn_nx ⟨_, rfl⟩))
  · rintro _ ⟨x, rfl⟩
    exact wp_frz (nl (ptsI h mo h.length)) rfl (wp_val rfl)
theorem known_spec {h : List Ent} (H : HW h) {mo : Int} (mo0 : 0 ≤ mo) (mo1 : mo ≤ 1000000000000) : f_p_known_to [encH h, .int mo] = .ok (.int (if pts h mo = [] then 0 else (hat h (lastN (pts h mo))).day)) := by
  refine wp_run rfl ?_
  show Wp b_p_known_to [.val (encH h), .val (.int mo), .un] _
  unfold b_p_known_to
  have hp := points_spec H mo0 mo1
  refine wp_set (.list (nl (pts h mo))) (by walk_at "ev") ?_
  clear hp
  by_cases z : pts h mo = []
  · rw [if_pos z, z]
    refine wp_yes rfl ?_
    exact wp_valS rfl
  · rw [if_neg z]
    have zl : ¬ ((nl (pts h mo)).length : Int) = 0 := by
      have := List.length_pos_iff.mpr z
      simp
      exact z
    refine wp_no (by walk_at "ev") (wp_skip ?_)
    have h1 := idx_last z
    have hm : lastN (pts h mo) < h.length := by
      by_cases q : 0 < h.length
      · exact (pts_ok H mo _ q (Nat.le_refl _)).2.1
      · exact absurd (by unfold pts; rw [show h.length = 0 by omega]; rfl) z
    have h2 := hat_at hm
    have h3 := encE_1 (hat h (lastN (pts h mo)))
    exact wp_val (by walk_at "ev")
/-! ### spans -/
abbrev I3 := Int × Int × Int
def enc3 (x : I3) : D := .tuple [.int x.1, .int x.2.1, .int x.2.2]
theorem enc3_sh (x : I3) : Sh 1 (enc3 x) := sh_tup (sh_cons sh_int (sh_cons sh_int (sh_cons sh_int sh_nil)))
def spanAt (h : List Ent) (i j : Nat) : I3 := ((hat h i).day, (hat h j).day, useB h i j)
def spL (h : List Ent) (pl : List Nat) : List I3 := (List.range (pl.length - 1)).map fun k => spanAt h (pl.getD k 0) (pl.getD (k + 1) 0)
theorem spL_snoc (h : List Ent) {pl : List Nat} (hn : pl ≠ []) (j : Nat) : spL h (pl ++ [j]) = spL h pl ++ [spanAt h (lastN pl) j] := by
  have hp : 0 < pl.length := List.length_pos_iff.mpr hn
  obtain ⟨m, hm⟩ : ∃ m, pl.length = m + 1 := ⟨pl.length - 1, by omega⟩
  unfold spL
  rw [List.length_append, List.length_singleton, Nat.add_sub_cancel, hm, Nat.add_sub_cancel, List.range_succ, List.map_append]
  congr 1
  · refine List.map_congr_left fun k hk => ?_
    rw [List.mem_range] at hk
    rw [List.getD_eq_getElem?_getD, List.getD_eq_getElem?_getD, List.getD_eq_getElem?_getD, List.getD_eq_getElem?_getD, List.getElem?_append_left (by omega), List.getElem?_append_left (by omega)]
  · show [spanAt h ((pl ++ [j]).getD m 0) ((pl ++ [j]).getD (m + 1) 0)] = _
    rw [List.getD_eq_getElem?_getD, List.getD_eq_getElem?_getD, List.getElem?_append_left (by omega), List.getElem?_append_right (by omega), hm, Nat.sub_self]
    unfold lastN
    rw [hm, List.getD_eq_getElem?_getD, Nat.add_sub_cancel]
    rfl
theorem spans_spec {h : List Ent} (H : HW h) {mo : Int} (mo0 : 0 ≤ mo) (mo1 : mo ≤ 1000000000000) : f_p_spans [encH h, .int mo] = .ok (.list ((spL h (pts h mo)).map enc3)) := by
  refine wp_run rfl ?_
  show Wp b_p_spans [.val (encH h), .val (.int mo), .un, .un, .un, .un, .un] _
  unfold b_p_spans
  have hp := points_spec H mo0 mo1
  have hl := H.len
  have hl2 : (pts h mo).length ≤ h.length := pts_len mo _
  refine wp_own [] rfl ?_
  refine wp_set (.list (nl (pts h mo))) (by walk_at "ev") ?_
  clear hp
  have hlen : oLen [.list (nl (pts h mo))] = .ok (.int ((pts h mo).length : Nat)) := by
    show An.ok (PyData.int ((nl (pts h mo)).length : Nat)) = _
    rw [List.length_map]
  refine wp_rng 1 ((pts h mo).length - 1) (fun i env => ∃ x4 x5 x6, env = [.val (encH h), .val (.int mo), .own (((List.range i).map fun k => spanAt h ((pts h mo).getD k 0) ((pts h mo).getD (k + 1) 0)).map enc3), .val (.list (nl (pts h mo))), x4, x5, x6]) (by
    rw [ev_r2 (m := 1) (n := ((pts h mo).length : Nat)) rfl (by walk_at "ev") (by omega) (by omega) (by omega) (by omega)]
    rw [show (((pts h mo).length : Int) - 1).toNat = (pts h mo).length - 1 by omega]) ⟨_, _, _, rfl⟩ ?_ ?_
  · rintro i _ hi ⟨x4, x5, x6, rfl⟩
    refine ⟨_, rfl, ?_⟩
    rw [show (1 : Int) + i = ((i + 1 : Nat) : Int) by omega]
    generalize hS : (List.range i).map (fun k => spanAt h ((pts h mo).getD k 0) ((pts h mo).getD (k + 1) 0)) = S
    have hSl : S.length = i := by rw [← hS]; simp
    show Wp _ [.val (encH h), .val (.int mo), .own (S.map enc3), .val (.list (nl (pts h mo))), .val (.int (i + 1 : Nat)), x5, x6] _
    have h1 := idx_nl (l := pts h mo) (k := i) (by omega)
    have h2 := idx_nl (l := pts h mo) (k := i + 1) (by omega)
    have m1 : (pts h mo).getD i 0 < h.length := by
      rw [List.getD_eq_getElem?_getD, List.getElem?_eq_getElem (by omega)]
      exact pts_lt H mo (List.getElem_mem _)
    have m2 : (pts h mo).getD (i + 1) 0 < h.length := by
      rw [List.getD_eq_getElem?_getD, List.getElem?_eq_getElem (by omega)]
      exact pts_lt H mo (List.getElem_mem _)
    have e0 : (((i + 1 : Nat) : Int) - 1) = (i : Int) := by omega
    rw [List.range_succ, List.map_append, hS, List.map_cons, List.map_nil]
    generalize (pts h mo).getD i 0 = a at *
    generalize (pts h mo).getD (i + 1) 0 = b at *
    refine wp_set (.int a) (by walk_at "ev") ?_
    refine wp_set (.int b) (by walk_at "ev") ?_
    have q1 := hat_at m1
    have q2 := hat_at m2
    have q3 := encE_1 (hat h a)
    have q4 := encE_1 (hat h b)
    have q5 := use_between_spec H m1 m2
    refine wp_app0 (S.map enc3) (enc3 (spanAt h a b)) rfl (by simp; omega) (by unfold enc3 spanAt; walk_at "ev") (turn_nx ⟨.val (.int (i + 1 : Nat)), .val (.int a), .val (.int b), ?_⟩)
    show ([_, _, Slot.own (S.map enc3 ++ [enc3 (spanAt h a b)]), _, _, _, _] : Env) = _
    rw [List.map_append]
    rfl
  · rintro _ ⟨x4, x5, x6, rfl⟩
    exact wp_frz ((spL h (pts h mo)).map enc3) rfl (wp_val rfl)
end Mg
namespace Mg
open PySem PySem.Spec PyProof.Rows L2
theorem isA_bool_bool {b : Bool} : oIsA "bool" (.bool b) = .ok (.bool true) := by
  have e : kitB "bool" "bool" = some true := by decide +kernel
  show (match kitB "bool" "bool" with | some b => An.ok (PyData.bool b) | none => .bad) = _
  rw [e]
theorem many_spec (c : Int) : ∃ m : Int, f_l_many_by [.int c] = .ok (.int m) ∧ 0 ≤ m ∧ m ≤ 28 := by
  by_cases h : c % 8 = 5
  · refine ⟨12 + c / 8 % 17, wp_run rfl ?_, by omega, by omega⟩
    show Wp b_l_many_by [.val (.int c)] _
    unfold b_l_many_by
    refine wp_yes (by walk_at "ev") ?_
    exact wp_valS (by walk_at "ev")
  · refine ⟨c / 8 % 9, wp_run rfl ?_, by omega, by omega⟩
    show Wp b_l_many_by [.val (.int c)] _
    unfold b_l_many_by
    refine wp_no (by walk_at "ev") (wp_skip ?_)
    exact wp_val (by walk_at "ev")
theorem eq_nil {ds : List D} (h : ∀ d ∈ ds, Sh 1 d) : oEq (.list ds) (.list []) = .ok (.bool (decide (ds = []))) := by
  show (if (SeqAt.shaped (.list ds) && SeqAt.shaped (.list [])) = true then An.ok (PyData.bool (PyData.eqv (.list ds) (.list []))) else .bad) = _
  rw [(sh_list h).ok (by decide), (sh_list (n := 0) sh_nil).ok (by decide), if_pos (by rfl)]
  cases ds with
  | nil => rfl
  | cons d ds => rfl
theorem isOpen_rd {day : Int} {e : Ent} (h : isOpen day e = true) : ∃ v, e = .rd day v false := by
  cases e with
  | st d s v => cases h
  | ch d l s f => cases h
  | rd d v k =>
    have hh : (decide (d = day) && !k) = true := h
    rw [Bool.and_eq_true, decide_eq_true_iff, Bool.not_eq_true'] at hh
    exact ⟨v, by rw [hh.1, hh.2]⟩
theorem set_days {h : List Ent} (H : Days h) {j : Nat} {day v : Int} (hj : h[j]? = some (.rd day v false)) : ∀ (i : Nat) e, (h.set j (.rd day v true))[i]? = some e → isOpen day e = false := by
  intro i e hi
  have hj2 := (List.getElem?_eq_some_iff.mp hj).1
  by_cases q : j = i
  · subst q
    rw [List.getElem?_set_self hj2] at hi
    cases hi
    show (decide (day = day) && !true) = false
    simp
  · rw [List.getElem?_set_ne q] at hi
    cases ho : isOpen day e with
    | false => rfl
    | true =>
      obtain ⟨w, rfl⟩ := isOpen_rd ho
      exact absurd (days_inj H hj hi rfl) q
def F05 (ns : List Int) (mo day : Int) (h hd h2 : List Ent) (x7 x8 : Slot) : Env := [.val (intsD ns), .val (.int mo), .val (encH h), .val (.int day), .val (encHL hd), .val (encHL h), .val (encH h2), x7, x8]
theorem law_true_05 : ∀ ns : List Int, ns.length ≤ 63 → f_law_05 [.list (ns.map .int)] = .ok (.bool true) := by
  intro ns hl
  refine wp_run rfl ?_
  show Wp b_law_05 [.val (intsD ns), .un, .un, .un, .un, .un, .un, .un, .un] _
  unfold b_law_05
  obtain ⟨c0, e0⟩ := cell_spec ns 0 (by decide)
  obtain ⟨c4, e4⟩ := cell_spec ns 4 (by decide)
  obtain ⟨c5, e5⟩ := cell_spec ns 5 (by decide)
  obtain ⟨c6, e6⟩ := cell_spec ns 6 (by decide)
  obtain ⟨mo, emo, mo0, mo1⟩ := most_spec c0
  obtain ⟨ma, ema, ma0, ma1⟩ := many_spec c4
  obtain ⟨h, l, s, w, eh, H, hlen⟩ := history_spec ns ma mo ma0 (by omega) mo0 mo1
  refine wp_set (.int mo) (by walk_at "ev") ?_
  refine wp_set (encH h) (by walk_at "ev") ?_
  refine wp_P (fun env => ∃ h : List Ent, env = [.val (intsD ns), .val (.int mo), .val (encH h), .un, .un, .un, .un, .un, .un] ∧ Days h ∧ h.length ≤ 29) ?_ ?_
  · by_cases q : c5 % 16 = 3
    · exact wp_yes0 (by walk_at "ev") (wp_set0 (encH []) rfl (nx_nx ⟨[], rfl, .nil, by decide⟩))
    · exact wp_no0 (by walk_at "ev") (wp_skip0 (nx_nx ⟨h, rfl, H.days, by omega⟩))
  clear H hlen eh s w l h emo ema e0 e4
  rintro _ ⟨h, rfl, H, hlen⟩
  have hL := encH_len h
  refine wp_set (.int (c5 / 16 % 2001)) (by walk_at "ev") ?_
  refine wp_P (fun env => ∃ day : Int, env = [.val (intsD ns), .val (.int mo), .val (encH h), .val (.int day), .un, .un, .un, .un, .un]) ?_ ?_
  · by_cases q : 0 < (h.length : Int)
    · by_cases q2 : 0 < c5 % 4
      · have p := emod_mul_lt' c6 q
        have hg : h[(c6 % h.length).toNat]? = some h[(c6 % h.length).toNat] := List.getElem?_eq_getElem (by omega)
        have hat := encH_at hg
        have hd := encE_1 h[(c6 % h.length).toNat]
        rw [show ((c6 % (h.length : Int)).toNat : Int) = c6 % h.length by omega] at hat
        exact wp_yes0 (by walk_at "ev") (wp_set0 (.int h[(c6 % h.length).toNat].day) (by walk_at "ev") (nx_nx ⟨_, rfl⟩))
      · exact wp_no0 (by walk_at "ev") (wp_skip0 (nx_nx ⟨_, rfl⟩))
    · exact wp_no0 (by walk_at "ev") (wp_skip0 (nx_nx ⟨_, rfl⟩))
  clear e5 e6
  rintro _ ⟨day, rfl⟩
  refine wp_own ((h.filter (isOpen day)).map encE) (lc_ok (enc := encE) (isOpen day) encE h rfl (ev_itT rfl) (by omega) fun e _ => ⟨_, rfl, open_test rfl rfl, fun _ => rfl⟩) ?_
  refine wp_frz ((h.filter (isOpen day)).map encE) rfl ?_
  have hq := eq_nil (hist_sh (h.filter (isOpen day)))
  rcases first_of (isOpen day) h with ⟨f1, f2⟩ | ⟨j, e, r, f1, f2, f3, f4⟩
  · have hr := refused_05_spec (show h.length ≤ 1000 by omega) f2
    rw [f1] at hq ⊢
    replace hq : oEq (.list (List.map encE [])) (.list []) = .ok (.bool true) := hq
    refine wp_yes (by walk_at "ev") ?_
    exact wp_valS (by walk_at "ev")
  · obtain ⟨v, rfl⟩ := isOpen_rd f2
    have hj2 : j < h.length := (List.getElem?_eq_some_iff.mp f1).1
    rw [f4] at hq ⊢
    rw [show decide (((Ent.rd day v false :: r).map encE) = []) = false from rfl] at hq
    refine wp_no (by walk_at "ev") (wp_skip ?_)
    clear hq
    refine wp_set (encHL h) rfl ?_
    have hs := struck_yes (show h.length ≤ 1000 by omega) f1 f3
    refine wp_set (encH (h.set j (.rd day v true))) (by walk_at "ev") ?_
    have ia : oIsA "tuple" (encH (h.set j (.rd day v true))) = .ok (.bool true) := isA_tup
    have hL2 := encH_len (h.set j (.rd day v true))
    rw [List.length_set] at hL2
    have hl3 := encH_list h
    have n1 : oNe (.list (h.map encE)) (encHL h) = .ok (.bool false) := neL_sh (hist_sh _) (by decide)
    have n0 : decide ((h.length : Int) = h.length) = true := decide_eq_true rfl
    refine wp_no (by walk_at "ev") (wp_skip ?_)
    clear n1 n0 ia hs
    refine wp_rng 0 h.length (fun _ env => ∃ x7 x8, env = F05 ns mo day h (.rd day v false :: r) (h.set j (.rd day v true)) x7 x8) (ev_r1 (n := (h.length : Int)) (by walk_at "ev") (by omega) (by omega)) ⟨_, _, rfl⟩ ?_ ?_
    · rintro i _ hi ⟨x7, x8, rfl⟩
      refine ⟨_, rfl, ?_⟩
      rw [Int.zero_add]
      show Wp _ [.val (intsD ns), .val (.int mo), .val (encH h), .val (.int day), .val (encHL (.rd day v false :: r)), .val (encHL h), .val (encH (h.set j (.rd day v true))), .val (.int i), x8] _
      have hg : h[i]? = some h[i] := List.getElem?_eq_getElem hi
      have hat := encH_at hg
      have hd0 : oIdx (encHL (.rd day v false :: r)) (.int 0) = .ok (encE (.rd day v false)) := encHL_at (i := 0) rfl
      refine wp_set (encE h[i]) (by walk_at "ev") ?_
      have ho : oIsA "bool" (.bool true) = .ok (.bool true) := isA_bool_bool
      by_cases q : j = i
      · subst q
        have eh : h[j] = .rd day v false := by
          rw [hg] at f1
          exact Option.some.inj f1
        rw [eh] at *
        have eq1 := ent_eq (.rd day v false)
        have h2 : oIdx (encE (.rd day v false)) (.int 2) = .ok (.int v) := idxT_at (by decide) rfl
        refine wp_yes (by walk_at "ev") ?_
        refine wp_set (encE (.rd day v true)) (by unfold encE at *; walk_at "ev") ?_
        have hat2 := encH_at (h := h.set j (.rd day v true)) (i := j) (e := .rd day v true) (List.getElem?_set_self hj2)
        have ne2 := ent_nn (.rd day v true)
        have k0 : oIdx (encE (.rd day v true)) (.int 0) = .ok (.str "read") := encE_0 _
        have k3 : oIdx (encE (.rd day v true)) (.int 3) = .ok (.bool true) := idxT_at (by decide) rfl
        have kk : decide (("read" : Str) = "read") = true := decide_eq_true rfl
        exact wp_no0 (by walk_at "ev") (wp_skip0 (turn_nx ⟨_, _, rfl⟩))
      · have hne : h[i].day ≠ (Ent.rd day v false).day := fun z => q (days_inj H hg f1 z).symm
        have eq1 := ent_ne hne
        refine wp_no (by walk_at "ev") (wp_skip ?_)
        have hat2 := encH_at (h := h.set j (.rd day v true)) (i := i) (e := h[i]) (by rw [List.getElem?_set_ne q]; exact hg)
        have ne2 := ent_nn h[i]
        have k0 := encE_0 h[i]
        have a1 := k_sr
        have a2 := k_cr
        clear eq1 hne
        generalize h[i] = e at *
        have k3 : e.kind = "read" → ∃ b, oIdx (encE e) (.int 3) = .ok (.bool b) := by
          cases e with
          | st d s v => exact fun z => by rw [Ent.kind, a1] at z; exact z.elim
          | ch d l s f => exact fun z => by rw [Ent.kind, a2] at z; exact z.elim
          | rd d v k => exact fun _ => ⟨k, idxT_at (by decide) rfl⟩
        by_cases z : e.kind = "read"
        · obtain ⟨b, k3⟩ := k3 z
          have ho : oIsA "bool" (.bool b) = .ok (.bool true) := isA_bool_bool
          have kk : decide (e.kind = "read") = true := decide_eq_true z
          exact wp_no0 (by walk_at "ev") (wp_skip0 (turn_nx ⟨_, _, rfl⟩))
        · have kk : decide (e.kind = "read") = false := decide_eq_false z
          exact wp_no0 (by walk_at "ev") (wp_skip0 (turn_nx ⟨_, _, rfl⟩))
    · rintro _ ⟨x7, x8, rfl⟩
      have hr := refused_05_spec (h := h.set j (.rd day v true)) (day := day) (by rw [List.length_set]; omega) (set_days H f1)
      unfold F05
      exact wp_val (by walk_at "ev")
end Mg
namespace Mg
open PySem PySem.Spec PyProof.Rows L2
def A6 (h : List Ent) (mo : Int) (pl : List Nat) (sz sh dy : Int) (x7 x8 x9 : Slot) : Env := [.val (encH h), .val (.int mo), .own (nl pl), .own ((spL h pl).map enc3), .val (.int sz), .val (.int sh), .val (.int dy), x7, x8, x9]
theorem nl_snoc (l : List Nat) (i : Nat) : nl l ++ [.int (i : Int)] = nl (l ++ [i]) := by
  rw [nl, nl, List.map_append]
  rfl
theorem spL_len (h : List Ent) (pl : List Nat) : (spL h pl).length = pl.length - 1 := by
  unfold spL
  simp
theorem account_spec {h : List Ent} (H : HW h) {mo : Int} (mo0 : 0 ≤ mo) (mo1 : mo ≤ 1000000000000) : f_l_account [encH h, .int mo] = .ok (.tuple [.list (nl (pts h mo)), .list ((spL h (pts h mo)).map enc3)]) := by
  refine wp_run rfl ?_
  show Wp b_l_account [.val (encH h), .val (.int mo), .un, .un, .un, .un, .un, .un, .un, .un] _
  unfold b_l_account
  have hl := encH_len h
  have hl2 := H.len
  refine wp_own [] rfl ?_
  refine wp_own [] rfl ?_
  refine wp_set (.int 0) rfl ?_
  refine wp_set (.int 0) rfl ?_
  refine wp_set (.int 0) rfl ?_
  refine wp_rng 0 h.length (fun i env => ∃ sz sh dy x7 x8 x9, env = A6 h mo (ptsI h mo i) sz sh dy x7 x8 x9 ∧ (0 < i → sz = sizeAt h (lastN (ptsI h mo i)) ∧ sh = (hat h (lastN (ptsI h mo i))).behind ∧ dy = (hat h (lastN (ptsI h mo i))).day))
    (ev_r1 (n := (h.length : Int)) (by walk_at "ev") (by omega) (by omega)) ⟨0, 0, 0, _, _, _, rfl, fun z => absurd z (Nat.lt_irrefl _)⟩ ?_ ?_
  · rintro i _ hi ⟨sz, sh, dy, x7, x8, x9, rfl, hinv⟩
    refine ⟨_, rfl, ?_⟩
    rw [Int.zero_add]
    show Wp _ [.val (encH h), .val (.int mo), .own (nl (ptsI h mo i)), .own ((spL h (ptsI h mo i)).map enc3), .val (.int sz), .val (.int sh), .val (.int dy), .val (.int i), x8, x9] _
    have plen := pts_len (h := h) mo i
    have nlen : (nl (ptsI h mo i)).length ≤ 100000 := by
      rw [List.length_map]
      omega
    have slen : ((spL h (ptsI h mo i)).map enc3).length ≤ 100000 := by
      rw [List.length_map, spL_len]
      omega
    have hat1 := hat_at hi
    have hd := encE_1 (hat h i)
    have e : ptsI h mo (i + 1) = if i = 0 ∨ cntB h mo (lastN (ptsI h mo i)) i = true then ptsI h mo i ++ [i] else ptsI h mo i := rfl
    refine wp_set (encE (hat h i)) (by walk_at "ev") ?_
    have a1 := k_rs
    have a2 := k_cs
    have a3 := k_rc
    have a4 := k_cr
    by_cases z : i = 0
    · subst z
      rw [e, if_pos (.inl rfl)]
      obtain ⟨d, s, v, q, _⟩ := H.first hi
      rw [q] at hat1 hd ⊢
      have h0 := st_0 (d := d) (s := s) (v := v)
      refine wp_yes (by walk_at "ev") (wp_assoc ?_)
      refine wp_set (.int s) (st_2 (d := d) (v := v)) ?_
      refine wp_set (.int v) (st_3 (d := d) (s := s)) ?_
      refine wp_set (.int d) (encE_1 (.st d s v)) ?_
      refine wp_app0 (nl (ptsI h mo 0)) (.int (0 : Nat)) rfl nlen rfl (turn_nx ⟨s, v, d, .val (.int (0 : Nat)), _, _, rfl, fun _ => ?_⟩)
      rw [lastN_app, sizeAt_zero hi, q]
      exact ⟨rfl, rfl, rfl⟩
    · obtain ⟨p1, p2, p3, _⟩ := pts_ok H mo i (by omega) (by omega)
      obtain ⟨rfl, rfl, rfl⟩ := hinv (by omega)
      have hsn := spL_snoc h p1 i
      obtain ⟨m, rfl⟩ : ∃ m, i = m + 1 := ⟨i - 1, by omega⟩
      have hsz := H.size (lastN (ptsI h mo (m + 1))) (by omega)
      generalize hp : lastN (ptsI h mo (m + 1)) = p at *
      generalize hpl : ptsI h mo (m + 1) = pl at *
      rcases H.rest m hi with ⟨d, v, k, q, _⟩ | ⟨d, l, s, f, q, _⟩
      · have hc : cntB h mo p (m + 1) = (!k && decide (useB h p (m + 1) ≤ mo * (d - (hat h p).day))) := by
          unfold cntB
          rw [q]
        have hsp : spanAt h p (m + 1) = ((hat h p).day, d, useB h p (m + 1)) := by
          unfold spanAt
          rw [q]
          rfl
        have hu : (v - (hat h p).behind) % sizeAt h p = useB h p (m + 1) := by
          unfold useB
          rw [q]
          rfl
        have hs1 : sizeAt h (m + 1) = sizeAt h p := by
          rw [sizeAt_succ hi, q, p3]
          rfl
        clear p3
        rw [q] at hat1 hd
        have hq : hat h (m + 1) = .rd d v k := q
        rw [q]
        have h0 := rd_0 (d := d) (v := v) (k := k)
        have h2 := rd_2 (d := d) (v := v) (k := k)
        have h3 := rd_3 (d := d) (v := v) (k := k)
        replace hd : oIdx (encE (.rd d v k)) (.int 1) = .ok (.int d) := encE_1 _
        refine wp_no (by walk_at "ev") (wp_assoc ?_)
        refine wp_set (.int (useB h p (m + 1))) (by walk_at "ev") (wp_assoc ?_)
        have ht : tAndX (tOf (xOp oEq (xOp oIdx (xVar 8) (xC (.int 0))) (xC (.str (PySem.Str.ofString "read"))))) (tOrX (tOf (xOp oIdx (xVar 8) (xC (.int 3)))) (tOf (xOp oGt (xVar 9) (xOp oMul (xVar 1) (xOp oSub (xOp oIdx (xVar 8) (xC (.int 1))) (xVar 6))))))
            [.val (encH h), .val (.int mo), .own (nl pl), .own ((spL h pl).map enc3), .val (.int (sizeAt h p)), .val (.int (hat h p).behind), .val (.int (hat h p).day), .val (.int (m + 1 : Nat)), .val (encE (.rd d v k)), .val (.int (useB h p (m + 1)))] = .ok (!cntB h mo p (m + 1)) := by
          rw [hc]
          generalize useB h p (m + 1) = u at *
          generalize (hat h p).day = dp at *
          cases k with
          | true =>
            walk_at "ev"
            rfl
          | false =>
            walk_at "ev"
            by_cases g : mo * (d - dp) < u
            · have g2 : ¬ u ≤ mo * (d - dp) := by omega
              simp [g, g2]
            · have g2 : u ≤ mo * (d - dp) := by omega
              simp [g, g2]
        by_cases c : cntB h mo p (m + 1) = true
        · rw [c] at ht
          rw [e, if_pos (.inr c)]
          refine wp_no ht (wp_skip (wp_assoc ?_))
          refine wp_app ((spL h pl).map enc3) (enc3 (spanAt h p (m + 1))) rfl slen (by
            rw [hsp]
            unfold enc3
            walk_at "ev") (wp_assoc ?_)
          refine wp_set (.int v) (by exact h2) ?_
          refine wp_no (by
            show tOf (xOp oEq (xOp oIdx (xVar 8) (xC (.int 0))) (xC (.str (PySem.Str.ofString "change")))) [_, _, _, _, _, _, _, _, .val (encE (.rd d v k)), _] = _
            walk_at "ev") (wp_skip ?_)
          refine wp_set (.int d) (by exact hd) ?_
          refine wp_app0 (nl pl) (.int (m + 1 : Nat)) rfl nlen rfl (turn_nx ⟨sizeAt h p, v, d, .val (.int (m + 1 : Nat)), .val (encE (.rd d v k)), .val (.int (useB h p (m + 1))), ?_, fun _ => ?_⟩)
          · show ([_, _, .own (nl pl ++ [.int (m + 1 : Nat)]), .own ((spL h pl).map enc3 ++ [enc3 (spanAt h p (m + 1))]), _, _, _, _, _, _] : Env) = _
            rw [nl_snoc]
            unfold A6
            rw [hsn, List.map_append]
            rfl
          · rw [lastN_app, hs1, hq]
            exact ⟨rfl, rfl, rfl⟩
        · have c' := c
          rw [Bool.not_eq_true] at c
          rw [c] at ht
          rw [e, if_neg (by rintro (g | g); exact z g; exact c' g)]
          refine wp_yes ht (wp_ct (turn_ct ⟨_, _, _, _, _, _, rfl, fun _ => ?_⟩))
          rw [hp]
          exact ⟨rfl, rfl, rfl⟩
      · have c : cntB h mo p (m + 1) = true := by
          unfold cntB
          rw [q]
        have hsp : spanAt h p (m + 1) = ((hat h p).day, d, useB h p (m + 1)) := by
          unfold spanAt
          rw [q]
          rfl
        have hu : (l - (hat h p).behind) % sizeAt h p = useB h p (m + 1) := by
          unfold useB
          rw [q]
          rfl
        have hs1 : sizeAt h (m + 1) = s := by
          rw [sizeAt_succ hi, q]
          rfl
        clear p3
        rw [q] at hat1 hd
        have hq : hat h (m + 1) = .ch d l s f := q
        rw [q]
        have h0 := ch_0 (d := d) (l := l) (s := s) (f := f)
        have h2 := ch_2 (d := d) (l := l) (s := s) (f := f)
        have h3 := ch_3 (d := d) (l := l) (s := s) (f := f)
        have h4 := ch_4 (d := d) (l := l) (s := s) (f := f)
        replace hd : oIdx (encE (.ch d l s f)) (.int 1) = .ok (.int d) := encE_1 _
        rw [e, if_pos (.inr c)]
        refine wp_no (by walk_at "ev") (wp_assoc ?_)
        refine wp_set (.int (useB h p (m + 1))) (by walk_at "ev") (wp_assoc ?_)
        refine wp_no (by
          show tAndX _ _ [_, _, _, _, _, _, _, _, .val (encE (.ch d l s f)), _] = _
          walk_at "ev") (wp_skip (wp_assoc ?_))
        refine wp_app ((spL h pl).map enc3) (enc3 (spanAt h p (m + 1))) rfl slen (by
          rw [hsp]
          unfold enc3
          walk_at "ev") (wp_assoc ?_)
        refine wp_set (.int l) (by exact h2) ?_
        refine wp_yes (by
          show tOf (xOp oEq (xOp oIdx (xVar 8) (xC (.int 0))) (xC (.str (PySem.Str.ofString "change")))) [_, _, _, _, _, _, _, _, .val (encE (.ch d l s f)), _] = _
          walk_at "ev") (wp_assoc ?_)
        refine wp_set (.int s) (by exact h3) ?_
        refine wp_set (.int f) (by exact h4) ?_
        refine wp_set (.int d) (by exact hd) ?_
        refine wp_app0 (nl pl) (.int (m + 1 : Nat)) rfl nlen rfl (turn_nx ⟨s, f, d, .val (.int (m + 1 : Nat)), .val (encE (.ch d l s f)), .val (.int (useB h p (m + 1))), ?_, fun _ => ?_⟩)
        · show ([_, _, .own (nl pl ++ [.int (m + 1 : Nat)]), .own ((spL h pl).map enc3 ++ [enc3 (spanAt h p (m + 1))]), _, _, _, _, _, _] : Env) = _
          rw [nl_snoc]
          unfold A6
          rw [hsn, List.map_append]
          rfl
        · rw [lastN_app, hs1, hq]
          exact ⟨rfl, rfl, rfl⟩
  · rintro _ ⟨sz, sh, dy, x7, x8, x9, rfl, _⟩
    refine wp_frz (nl (pts h mo)) rfl (wp_frz ((spL h (pts h mo)).map enc3) rfl (wp_val rfl))
theorem isA_list {ds : List D} : oIsA "list" (.list ds) = .ok (.bool true) := by
  have e : kitB "list" "list" = some true := by decide +kernel
  show (match kitB "list" "list" with | some b => An.ok (PyData.bool b) | none => .bad) = _
  rw [e]
theorem isA_tup3 (x : I3) : oIsA "tuple" (enc3 x) = .ok (.bool true) := isA_tup
theorem enc3_0 (x : I3) : oIdx (enc3 x) (.int 0) = .ok (.int x.1) := idxT_at (by decide) rfl
theorem enc3_1 (x : I3) : oIdx (enc3 x) (.int 1) = .ok (.int x.2.1) := idxT_at (by decide) rfl
theorem enc3_2 (x : I3) : oIdx (enc3 x) (.int 2) = .ok (.int x.2.2) := idxT_at (by decide) rfl
theorem nl_sh (l : List Nat) : ∀ d ∈ nl l, Sh 1 d := sh_map fun _ _ => sh_int.le (by decide)
theorem sp_sh (l : List I3) : ∀ d ∈ l.map enc3, Sh 1 d := sh_map fun x _ => enc3_sh x
theorem law_true_06 : ∀ ns : List Int, ns.length ≤ 63 → f_law_06 [.list (ns.map .int)] = .ok (.bool true) := by
  intro ns hl
  refine wp_run rfl ?_
  show Wp b_law_06 [.val (intsD ns), .un, .un, .un, .un, .un, .un, .un, .un, .un] _
  unfold b_law_06
  obtain ⟨c0, e0⟩ := cell_spec ns 0 (by decide)
  obtain ⟨c4, e4⟩ := cell_spec ns 4 (by decide)
  obtain ⟨c5, e5⟩ := cell_spec ns 5 (by decide)
  obtain ⟨mo, emo, mo0, mo1⟩ := most_spec c0
  obtain ⟨ma, ema, ma0, ma1⟩ := many_spec c4
  refine wp_set (.int mo) (by walk_at "ev") ?_
  refine wp_set (.int ma) (by walk_at "ev") ?_
  refine wp_P (fun env => ∃ m : Int, 0 ≤ m ∧ m ≤ 199 ∧ env = [.val (intsD ns), .val (.int mo), .val (.int m), .un, .un, .un, .un, .un, .un, .un]) ?_ ?_
  · by_cases q : c4 % 32 = 21
    · exact wp_yes0 (by walk_at "ev") (wp_set0 (.int (29 + c4 / 32 % 171)) (by walk_at "ev") (nx_nx ⟨_, by omega, by omega, rfl⟩))
    · exact wp_no0 (by walk_at "ev") (wp_skip0 (nx_nx ⟨ma, ma0, by omega, rfl⟩))
  clear ema ma0 ma1 ma emo e0 e4
  rintro _ ⟨m, m0, m1, rfl⟩
  obtain ⟨h, l, s, w, eh, H, hlen⟩ := history_spec ns m mo m0 m1 mo0 mo1
  refine wp_set (encH h) (by walk_at "ev") ?_
  refine wp_P (fun env => ∃ h : List Ent, env = [.val (intsD ns), .val (.int mo), .val (.int m), .val (encH h), .un, .un, .un, .un, .un, .un] ∧ HW h) ?_ ?_
  · by_cases q : c5 % 16 = 3
    · exact wp_yes0 (by walk_at "ev") (wp_set0 (encH []) rfl (nx_nx ⟨[], rfl, HW.nil⟩))
    · exact wp_no0 (by walk_at "ev") (wp_skip0 (nx_nx ⟨h, rfl, H.hw (by omega)⟩))
  clear H hlen eh s w l h e5
  rintro _ ⟨h, rfl, H⟩
  have ha := account_spec H mo0 mo1
  have hp := points_spec H mo0 mo1
  have hs := spans_spec H mo0 mo1
  refine wp_asg (.tuple [.list (nl (pts h mo)), .list ((spL h (pts h mo)).map enc3)]) _ (by walk_at "ev") rfl ?_
  refine wp_set (.list (nl (pts h mo))) (by walk_at "ev") ?_
  refine wp_set (.list ((spL h (pts h mo)).map enc3)) (by walk_at "ev") ?_
  show Wp _ [.val (intsD ns), .val (.int mo), .val (.int m), .val (encH h), .val (.list (nl (pts h mo))), .val (.list ((spL h (pts h mo)).map enc3)), .un, .un, .val (.list (nl (pts h mo))), .val (.list ((spL h (pts h mo)).map enc3))] _
  clear ha hp hs
  have i1 : oIsA "list" (.list (nl (pts h mo))) = .ok (.bool true) := isA_list
  have i2 : oIsA "list" (.list ((spL h (pts h mo)).map enc3)) = .ok (.bool true) := isA_list
  have n1 := neL_sh (nl_sh (pts h mo)) (by decide)
  have n2 := neL_sh (sp_sh (spL h (pts h mo))) (by decide)
  refine wp_no (by walk_at "ev") (wp_skip ?_)
  clear i1 i2 n1 n2
  have hw := whole_int
  refine wp_fold (enc := enc3) (fun s _ => s) (fun (_ : Unit) env => ∃ x6, env = [.val (intsD ns), .val (.int mo), .val (.int m), .val (encH h), .val (.list (nl (pts h mo))), .val (.list ((spL h (pts h mo)).map enc3)), x6, .un, .val (.list (nl (pts h mo))), .val (.list ((spL h (pts h mo)).map enc3))]) (spL h (pts h mo)) () (ev_itL rfl) ⟨_, rfl⟩ ?_ ?_
  · rintro _ x _ _ ⟨x6, rfl⟩
    refine ⟨_, rfl, ?_⟩
    show Wp _ [.val (intsD ns), .val (.int mo), .val (.int m), .val (encH h), .val (.list (nl (pts h mo))), .val (.list ((spL h (pts h mo)).map enc3)), .val (enc3 x), .un, .val (.list (nl (pts h mo))), .val (.list ((spL h (pts h mo)).map enc3))] _
    have i3 := isA_tup3 x
    have h2 := enc3_2 x
    exact wp_no0 (by walk_at "ev") (wp_skip0 (turn_nx ⟨_, rfl⟩))
  rintro _ ⟨x6, rfl⟩
  refine wp_set (.int 0) rfl ?_
  have hk := known_spec H mo0 mo1
  have hlen := encH_len h
  by_cases z : 0 < h.length
  · obtain ⟨p1, p2, _⟩ := pts_ok H mo _ z (Nat.le_refl _)
    have p1 : pts h mo ≠ [] := p1
    have p2 : lastN (pts h mo) < h.length := p2
    rw [if_neg p1] at hk
    have zi : 0 < (h.length : Int) := by omega
    refine wp_yes (by walk_at "ev") ?_
    have h1 := idx_last p1
    have h2 := hat_at p2
    have h3 := encE_1 (hat h (lastN (pts h mo)))
    refine wp_set (.int (hat h (lastN (pts h mo))).day) (by walk_at "ev") ?_
    exact wp_val (by walk_at "ev")
  · have e : pts h mo = [] := by
      unfold pts
      rw [show h.length = 0 by omega]
      rfl
    rw [if_pos e] at hk
    have zi : ¬ 0 < (h.length : Int) := by omega
    refine wp_no (by walk_at "ev") (wp_skip ?_)
    exact wp_val (by walk_at "ev")
end Mg
namespace Mg
open PySem PySem.Spec PyProof.Rows L2
def b_p_use_in : SX := (sSeq (sSet 2 (xC (.int 0))) (sSeq (sFor (iL (xVar 0)) (bTup [3, 4, 5]) (sIf (tAndX (tOf (xOp oLe (xVar 3) (xVar 1))) (tOf (xOp oLt (xVar 1) (xVar 4)))) (sSet 2 (xApp f_p_share (aCons (xVar 5) (aCons (xOp oSub (xVar 4) (xVar 3)) (aCons (xOp oSub (xVar 1) (xVar 3)) aNil))))) (sIf (tOf (xOp oLe (xVar 4) (xVar 1))) (sSet 2 (xOp oFdiv (xVar 5) (xOp oSub (xVar 4) (xVar 3)))) sSkip))) (sRet (xVar 2))))
def f_p_use_in : List D → An D := runDef 6 2 b_p_use_in
def b_p_use_on : SX := (sRet (xApp f_p_use_in (aCons (xApp f_p_spans (aCons (xVar 0) (aCons (xVar 1) aNil))) (aCons (xVar 2) aNil))))
def f_p_use_on : List D → An D := runDef 3 3 b_p_use_on
def b_p_uses : SX := (sSeq (sSet 4 (xApp f_p_spans (aCons (xVar 0) (aCons (xVar 1) aNil)))) (sRet (xL (nErr (xLc (iR2 (xVar 2) (xVar 3)) [5] (bName 5) tYesX (xApp f_p_use_in (aCons (xVar 4) (aCons (xVar 5) aNil))))))))
def f_p_uses : List D → An D := runDef 6 4 b_p_uses
def b_l_use : SX := (sSeq (sSet 2 (xC (.int 0))) (sSeq (sFor (iL (xVar 0)) (bTup [3, 4, 5]) (sSeq (sIf (tAndX (tOf (xOp oLe (xVar 3) (xVar 1))) (tOf (xOp oLt (xVar 1) (xVar 4)))) (sSeq (sSet 6 (xOp oSub (xVar 4) (xVar 3))) (sSeq (sSet 7 (xOp oSub (xVar 1) (xVar 3))) (sRet (xOp oSub (xOp oFdiv (xOp oMul (xOp oAdd (xVar 7) (xC (.int 1))) (xVar 5)) (xVar 6)) (xOp oFdiv (xOp oMul (xVar 7) (xVar 5)) (xVar 6)))))) sSkip) (sIf (tOf (xOp oLe (xVar 4) (xVar 1))) (sSet 2 (xOp oFdiv (xVar 5) (xOp oSub (xVar 4) (xVar 3)))) sSkip))) (sRet (xVar 2))))
def f_l_use : List D → An D := runDef 8 2 b_l_use
def b_law_07 : SX := (sSeq (sSet 1 (xApp f_l_most_by (aCons (xApp f_l_cell_at (aCons (xVar 0) (aCons (xC (.int 0)) aNil))) aNil))) (sSeq (sSet 2 (xApp f_l_history_by (aCons (xVar 0) (aCons (xApp f_l_many_by (aCons (xApp f_l_cell_at (aCons (xVar 0) (aCons (xC (.int 4)) aNil))) aNil)) (aCons (xVar 1) aNil))))) (sSeq (sIf (tOf (xOp oEq (xOp oMod (xApp f_l_cell_at (aCons (xVar 0) (aCons (xC (.int 5)) aNil))) (xC (.int 16))) (xC (.int 3)))) (sSet 2 (xTup aNil)) sSkip) (sSeq (sSet 3 (xOp oIdx (xApp f_l_account (aCons (xVar 2) (aCons (xVar 1) aNil))) (xC (.int 1)))) (sSeq (sFor (iR1 (xC (.int 4))) (bName 4) (sSeq (sSet 8 (xApp f_l_mixed (aCons (xVar 0) (aCons (xOp oAdd (xC (.int 60)) (xVar 4)) aNil)))) (sSeq (sSet 9 (xOp oMod (xOp oFdiv (xVar 8) (xC (.int 4))) (xC (.int 2001)))) (sSeq (sIf (tAndX (tOf (xOp oGt (xApp oLen (aCons (xVar 2) aNil)) (xC (.int 0)))) (tOf (xOp oGt (xOp oMod (xVar 8) (xC (.int 4))) (xC (.int 0))))) (sSet 9 (xApp oMax (aCons (xC (.int 0)) (aCons (xOp oSub (xOp oAdd (xOp oIdx (xOp oIdx (xVar 2) (xOp oMod (xOp oFdiv (xVar 8) (xC (.int 4))) (xApp oLen (aCons (xVar 2) aNil)))) (xC (.int 1))) (xOp oMod (xOp oFdiv (xVar 8) (xC (.int 100))) (xC (.int 5)))) (xC (.int 2))) aNil)))) sSkip) (sSeq (sSet 10 (xApp f_p_use_on (aCons (xVar 2) (aCons (xVar 1) (aCons (xVar 9) aNil))))) (sIf (tOrX (tNotX (tOf (xApp f_l_whole (aCons (xVar 10) aNil)))) (tOf (xOp oNe (xVar 10) (xApp f_l_use (aCons (xVar 3) (aCons (xVar 9) aNil)))))) (sRet (xC (.bool false))) sSkip)))))) (sSeq (sSet 5 (xOp oMod (xApp f_l_cell_at (aCons (xVar 0) (aCons (xC (.int 6)) aNil))) (xC (.int 80)))) (sSeq (sSet 6 (xOp oAdd (xVar 5) (xOp oMod (xApp f_l_cell_at (aCons (xVar 0) (aCons (xC (.int 7)) aNil))) (xC (.int 61))))) (sSeq (sSet 7 (xApp f_p_uses (aCons (xVar 2) (aCons (xVar 1) (aCons (xVar 5) (aCons (xVar 6) aNil)))))) (sRet (xAnd (xUn (oIsA "list") (xVar 7)) (xOp oEq (xVar 7) (xL (nErr (xLc (iR2 (xVar 5) (xVar 6)) [9] (bName 9) tYesX (xApp f_l_use (aCons (xVar 3) (aCons (xVar 9) aNil)))))))))))))))))
def f_law_07 : List D → An D := runDef 11 1 b_law_07
end Mg
namespace Mg
open PySem PySem.Spec PyProof.Rows L2
def shareI (u n a : Int) : Int := (a + 1) * u / n - a * u / n
def rowStep (day f : Int) (x : I3) : Int := if x.1 ≤ day ∧ day < x.2.1 then shareI x.2.2 (x.2.1 - x.1) (day - x.1) else if x.2.1 ≤ day then x.2.2 / (x.2.1 - x.1) else f
def useIn (rows : List I3) (day : Int) : Int := rows.foldl (rowStep day) 0
structure RowsOk (rows : List I3) : Prop where
  one : ∀ x ∈ rows, 0 ≤ x.1 ∧ x.1 < x.2.1 ∧ x.2.1 ≤ 12000 ∧ 0 ≤ x.2.2
  ord : rows.Pairwise fun x y => x.2.1 ≤ y.1
theorem use_in_spec {rows : List I3} (R : RowsOk rows) {day : Int} (d0 : 0 ≤ day) (d1 : day ≤ 20000) : f_p_use_in [.list (rows.map enc3), .int day] = .ok (.int (useIn rows day)) := by
  refine wp_run rfl ?_
  show Wp b_p_use_in [.val (.list (rows.map enc3)), .val (.int day), .un, .un, .un, .un] _
  unfold b_p_use_in
  refine wp_set (.int 0) rfl ?_
  refine wp_fold (enc := enc3) (rowStep day) (fun f env => ∃ x3 x4 x5, env = [.val (.list (rows.map enc3)), .val (.int day), .val (.int f), x3, x4, x5]) rows 0 (ev_itL rfl) ⟨_, _, _, rfl⟩ ?_ ?_
  · rintro f ⟨lo, hi, u⟩ _ hm ⟨x3, x4, x5, rfl⟩
    obtain ⟨r1, r2, r3, r4⟩ := R.one _ hm
    dsimp only at r1 r2 r3 r4
    refine ⟨[.val (.list (rows.map enc3)), .val (.int day), .val (.int f), .val (.int lo), .val (.int hi), .val (.int u)], rfl, ?_⟩
    unfold rowStep
    dsimp only
    by_cases c1 : lo ≤ day
    · by_cases c2 : day < hi
      · rw [if_pos ⟨c1, c2⟩]
        have hs := share_spec u (hi - lo) (day - lo) (by omega) (by omega) (by omega) (by omega)
        unfold shareI
        exact wp_yes0 (by walk_at "ev") (wp_set0 _ (by walk_at "ev") (turn_nx ⟨_, _, _, rfl⟩))
      · have c3 : hi ≤ day := by omega
        rw [if_neg (fun z => c2 z.2), if_pos c3]
        exact wp_no0 (by walk_at "ev") (wp_yes0 (by walk_at "ev") (wp_set0 (.int (u / (hi - lo))) (by walk_at "ev") (turn_nx ⟨_, _, _, rfl⟩)))
    · have c3 : ¬ hi ≤ day := by omega
      rw [if_neg (fun z => c1 z.1), if_neg c3]
      exact wp_no0 (by walk_at "ev") (wp_no0 (by walk_at "ev") (wp_skip0 (turn_nx ⟨_, _, _, rfl⟩)))
  · rintro _ ⟨x3, x4, x5, rfl⟩
    exact wp_val rfl
theorem fold_skip {day : Int} : ∀ (rows : List I3) (f : Int), (∀ x ∈ rows, day < x.1 ∧ day < x.2.1) → rows.foldl (rowStep day) f = f
  | [], _, _ => rfl
  | x :: r, f, h => by
    obtain ⟨h1, h2⟩ := h x List.mem_cons_self
    show r.foldl (rowStep day) (rowStep day f x) = f
    have e : rowStep day f x = f := by
      unfold rowStep
      rw [if_neg (by omega), if_neg (by omega)]
    rw [e]
    exact fold_skip r f fun y hy => h y (List.mem_cons_of_mem _ hy)
theorem RowsOk.tail {x : I3} {r : List I3} (R : RowsOk (x :: r)) : RowsOk r := ⟨fun y hy => R.one y (List.mem_cons_of_mem _ hy), (List.pairwise_cons.mp R.ord).2⟩
theorem luse_loop {G : D} {day : Int} (d0 : 0 ≤ day) (d1 : day ≤ 20000) : ∀ (rows : List I3), RowsOk rows → ∀ (f : Int) (x3 x4 x5 x6 x7 : Slot),
    outAn ((sLoop (bTup [3, 4, 5]) (sSeq (sIf (tAndX (tOf (xOp oLe (xVar 3) (xVar 1))) (tOf (xOp oLt (xVar 1) (xVar 4)))) (sSeq (sSet 6 (xOp oSub (xVar 4) (xVar 3))) (sSeq (sSet 7 (xOp oSub (xVar 1) (xVar 3))) (sRet (xOp oSub (xOp oFdiv (xOp oMul (xOp oAdd (xVar 7) (xC (.int 1))) (xVar 5)) (xVar 6)) (xOp oFdiv (xOp oMul (xVar 7) (xVar 5)) (xVar 6)))))) sSkip) (sIf (tOf (xOp oLe (xVar 4) (xVar 1))) (sSet 2 (xOp oFdiv (xVar 5) (xOp oSub (xVar 4) (xVar 3)))) sSkip)) (rows.map enc3) [.val G, .val (.int day), .val (.int f), x3, x4, x5, x6, x7]).thn (sRet (xVar 2))) = .ok (.int (rows.foldl (rowStep day) f))
  | [], _, f, _, _, _, _, _ => rfl
  | (lo, hi, u) :: r, R, f, x3, x4, x5, x6, x7 => by
    obtain ⟨r1, r2, r3, r4⟩ := R.one _ List.mem_cons_self
    dsimp only at r1 r2 r3 r4
    show outAn ((sLoop _ _ (enc3 (lo, hi, u) :: r.map enc3) _).thn _) = .ok (.int (r.foldl (rowStep day) (rowStep day f (lo, hi, u))))
    have hb : bTup [3, 4, 5] (enc3 (lo, hi, u)) [.val G, .val (.int day), .val (.int f), x3, x4, x5, x6, x7] = some [.val G, .val (.int day), .val (.int f), .val (.int lo), .val (.int hi), .val (.int u), x6, x7] := rfl
    by_cases c1 : lo ≤ day
    · by_cases c2 : day < hi
      · have e : rowStep day f (lo, hi, u) = shareI u (hi - lo) (day - lo) := by
          unfold rowStep
          rw [if_pos ⟨c1, c2⟩]
        rw [e, fold_skip r _ fun y hy => by
          have a1 := (List.pairwise_cons.mp R.ord).1 y hy
          have a2 := R.one y (List.mem_cons_of_mem _ hy)
          dsimp only at a1
          omega]
        unfold sLoop
        rw [hb]
        have hw : Wp (sSeq (sIf (tAndX (tOf (xOp oLe (xVar 3) (xVar 1))) (tOf (xOp oLt (xVar 1) (xVar 4)))) (sSeq (sSet 6 (xOp oSub (xVar 4) (xVar 3))) (sSeq (sSet 7 (xOp oSub (xVar 1) (xVar 3))) (sRet (xOp oSub (xOp oFdiv (xOp oMul (xOp oAdd (xVar 7) (xC (.int 1))) (xVar 5)) (xVar 6)) (xOp oFdiv (xOp oMul (xVar 7) (xVar 5)) (xVar 6)))))) sSkip) (sIf (tOf (xOp oLe (xVar 4) (xVar 1))) (sSet 2 (xOp oFdiv (xVar 5) (xOp oSub (xVar 4) (xVar 3)))) sSkip)) [.val G, .val (.int day), .val (.int f), .val (.int lo), .val (.int hi), .val (.int u), x6, x7] (fun o => o = .ret (.int (shareI u (hi - lo) (day - lo)))) := by
          refine wp_yes (by walk_at "ev") (wp_assoc ?_)
          refine wp_set (.int (hi - lo)) (by walk_at "ev") (wp_assoc ?_)
          refine wp_set (.int (day - lo)) (by walk_at "ev") ?_
          refine wp_retS _ ?_ rfl
          unfold shareI
          have g1 : 0 < hi - lo := by omega
          have g2 : hi - lo < 1073741824 := by omega
          generalize hi - lo = n at *
          have g3 : -18446744073709551616 < day - lo := by omega
          have g4 : day - lo < 18446744073709551615 := by omega
          generalize day - lo = a at *
          walk_at "ev"
        simp only [show _ = _ from hw]
        rfl
      · have c3 : hi ≤ day := by omega
        have e : rowStep day f (lo, hi, u) = u / (hi - lo) := by
          unfold rowStep
          rw [if_neg (fun z => c2 z.2), if_pos c3]
        rw [e, loop_cons hb (env2 := [.val G, .val (.int day), .val (.int (u / (hi - lo))), .val (.int lo), .val (.int hi), .val (.int u), x6, x7]) (.inl (by walk_at "ev"))]
        exact luse_loop d0 d1 r R.tail _ _ _ _ _ _
    · have c3 : ¬ hi ≤ day := by omega
      have e : rowStep day f (lo, hi, u) = f := by
        unfold rowStep
        rw [if_neg (fun z => c1 z.1), if_neg c3]
      rw [e, loop_cons hb (env2 := [.val G, .val (.int day), .val (.int f), .val (.int lo), .val (.int hi), .val (.int u), x6, x7]) (.inl (by walk_at "ev"))]
      exact luse_loop d0 d1 r R.tail _ _ _ _ _ _
theorem luse_spec {rows : List I3} (R : RowsOk rows) {day : Int} (d0 : 0 ≤ day) (d1 : day ≤ 20000) : f_l_use [.list (rows.map enc3), .int day] = .ok (.int (useIn rows day)) := by
  refine wp_run rfl ?_
  show Wp b_l_use [.val (.list (rows.map enc3)), .val (.int day), .un, .un, .un, .un, .un, .un] _
  unfold b_l_use
  refine wp_set (.int 0) rfl ?_
  exact luse_loop d0 d1 rows R 0 _ _ _ _ _
theorem getD_mem {l : List Nat} {k : Nat} (hk : k < l.length) : l.getD k 0 ∈ l := by
  rw [List.getD_eq_getElem?_getD, List.getElem?_eq_getElem hk]
  exact List.getElem_mem _
theorem getD_lt {l : List Nat} (h : l.Pairwise (· < ·)) {i j : Nat} (hij : i < j) (hj : j < l.length) : l.getD i 0 < l.getD j 0 := by
  rw [List.getD_eq_getElem?_getD, List.getD_eq_getElem?_getD, List.getElem?_eq_getElem hj, List.getElem?_eq_getElem (by omega)]
  exact List.pairwise_iff_getElem.mp h i j (by omega) hj hij
theorem pts_inc {h : List Ent} (H : HW h) (mo : Int) : (pts h mo).Pairwise (· < ·) := by
  by_cases z : 0 < h.length
  · exact (pts_ok H mo _ z (Nat.le_refl _)).2.2.2.2.1
  · have e : pts h mo = [] := by
      unfold pts
      rw [show h.length = 0 by omega]
      rfl
    rw [e]
    exact .nil
theorem useB_pos {h : List Ent} (H : HW h) {i j : Nat} (hi : i < h.length) : 0 ≤ useB h i j ∧ useB h i j < sizeAt h i := by
  have := H.size i hi
  exact emod_mul_lt' _ (by omega)
theorem rows_ok {h : List Ent} (H : HW h) (mo : Int) : RowsOk (spL h (pts h mo)) := by
  have inc := pts_inc H mo
  constructor
  · intro x hx
    unfold spL at hx
    obtain ⟨k, hk, rfl⟩ := List.mem_map.mp hx
    rw [List.mem_range] at hk
    have l1 := getD_lt inc (i := k) (j := k + 1) (by omega) (by omega)
    have m1 := pts_lt H mo (getD_mem (l := pts h mo) (k := k + 1) (by omega))
    have m0 := pts_lt H mo (getD_mem (l := pts h mo) (k := k) (by omega))
    have a1 := H.days _ _ l1 m1
    have a2 := H.day0 _ m1
    have a3 := H.day0 _ m0
    have a4 := useB_pos H (j := (pts h mo).getD (k + 1) 0) m0
    exact ⟨a3.1, a1, a2.2, a4.1⟩
  · unfold spL
    rw [List.pairwise_map]
    refine List.Pairwise.imp_of_mem (R := (· < ·)) (fun {i j} hi hj hij => ?_) List.pairwise_lt_range
    rw [List.mem_range] at hi hj
    show (hat h ((pts h mo).getD (i + 1) 0)).day ≤ (hat h ((pts h mo).getD j 0)).day
    by_cases q : i + 1 = j
    · rw [q]
      exact Int.le_refl _
    · have l1 := getD_lt inc (i := i + 1) (j := j) (by omega) (by omega)
      have m1 := pts_lt H mo (getD_mem (l := pts h mo) (k := j) (by omega))
      have := H.days _ _ l1 m1
      omega
theorem use_on_spec {h : List Ent} (H : HW h) {mo : Int} (mo0 : 0 ≤ mo) (mo1 : mo ≤ 1000000000000) {day : Int} (d0 : 0 ≤ day) (d1 : day ≤ 20000) : f_p_use_on [encH h, .int mo, .int day] = .ok (.int (useIn (spL h (pts h mo)) day)) := by
  refine wp_run rfl ?_
  show Wp b_p_use_on [.val (encH h), .val (.int mo), .val (.int day)] _
  unfold b_p_use_on
  have h1 := spans_spec H mo0 mo1
  have h2 := use_in_spec (rows_ok H mo) d0 d1
  exact wp_val (by walk_at "ev")
theorem uses_spec {h : List Ent} (H : HW h) {mo : Int} (mo0 : 0 ≤ mo) (mo1 : mo ≤ 1000000000000) {lo hi : Int} (l0 : 0 ≤ lo) (l1 : lo ≤ 20000) (h1 : hi ≤ 20000) (h0 : -100000 ≤ hi) : f_p_uses [encH h, .int mo, .int lo, .int hi] = .ok (.list ((List.range (hi - lo).toNat).map fun i : Nat => .int (useIn (spL h (pts h mo)) (lo + (i : Int))))) := by
  refine wp_run rfl ?_
  show Wp b_p_uses [.val (encH h), .val (.int mo), .val (.int lo), .val (.int hi), .un, .un] _
  unfold b_p_uses
  have hs := spans_spec H mo0 mo1
  have R := rows_ok H mo
  refine wp_set (.list ((spL h (pts h mo)).map enc3)) (by walk_at "ev") ?_
  generalize spL h (pts h mo) = rows at *
  refine wp_val ?_
  have e := lc_all (enc := fun i : Nat => PyData.int (lo + (i : Int))) (src := iR2 (xVar 2) (xVar 3)) (vs := [5]) (b := bName 5) (f := xApp f_p_use_in (aCons (xVar 4) (aCons (xVar 5) aNil))) (env := [.val (encH h), .val (.int mo), .val (.int lo), .val (.int hi), .val (.list (rows.map enc3)), .un]) (fun i : Nat => PyData.int (useIn rows (lo + (i : Int)))) (List.range (hi - lo).toNat) rfl (ev_r2 rfl rfl (by omega) (by omega) (by omega) (by omega)) (by simp; omega) (fun i hi2 => by
    rw [List.mem_range] at hi2
    have hu := use_in_spec R (day := lo + (i : Int)) (by omega) (by omega)
    exact ⟨_, rfl, by
      show xApp f_p_use_in _ [.val (encH h), .val (.int mo), .val (.int lo), .val (.int hi), .val (.list (rows.map enc3)), .val (.int (lo + (i : Int)))] = _
      walk_at "ev"⟩)
  show xL _ [.val (encH h), .val (.int mo), .val (.int lo), .val (.int hi), .val (.list (rows.map enc3)), .un] = _
  walk_at "ev"
end Mg
namespace Mg
open PySem PySem.Spec PyProof.Rows L2
def b_l_places : SX := (sSeq (sOwn 2 (aCons (xC (.int 0)) aNil)) (sSeq (sAsg (bTup [4, 5, 6]) (xSl (xOp oIdx (xVar 0) (xC (.int 0))) (pAt (xC (.int 1))) pNo)) (sSeq (sFor (iR2 (xC (.int 1)) (xApp oLen (aCons (xVar 0) aNil))) (bName 3) (sSeq (sSet 7 (xOp oIdx (xVar 0) (xVar 3))) (sSeq (sSet 8 (xOp oMul (xVar 1) (xOp oSub (xOp oIdx (xVar 7) (xC (.int 1))) (xVar 4)))) (sSeq (sIf (tOrX (tOf (xOp oEq (xOp oIdx (xVar 7) (xC (.int 0))) (xC (.str (PySem.Str.ofString "change"))))) (tAndX (tNotX (tOf (xOp oIdx (xVar 7) (xC (.int 3))))) (tOf (xOp oLe (xOp oMod (xOp oSub (xOp oIdx (xVar 7) (xC (.int 2))) (xVar 6)) (xVar 5)) (xVar 8))))) (sSeq (sApp 2 (xVar 3)) (sPar 4 6 (xOp oIdx (xVar 7) (xC (.int 1))) (xOp oIdx (xVar 7) (xC (.int 2))))) sSkip) (sIf (tOf (xOp oEq (xOp oIdx (xVar 7) (xC (.int 0))) (xC (.str (PySem.Str.ofString "change"))))) (sPar 5 6 (xOp oIdx (xVar 7) (xC (.int 3))) (xOp oIdx (xVar 7) (xC (.int 4)))) sSkip))))) (sFrz 2 (sRet (xVar 2))))))
def f_l_places : List D → An D := runDef 9 2 b_l_places
def b_law_08 : SX := (sSeq (sSet 1 (xApp f_l_most_by (aCons (xApp f_l_cell_at (aCons (xVar 0) (aCons (xC (.int 0)) aNil))) aNil))) (sSeq (sSet 2 (xApp f_l_history_by (aCons (xVar 0) (aCons (xApp f_l_many_by (aCons (xApp f_l_cell_at (aCons (xVar 0) (aCons (xC (.int 4)) aNil))) aNil)) (aCons (xVar 1) aNil))))) (sSeq (sSet 3 (xApp f_p_uses (aCons (xVar 2) (aCons (xVar 1) (aCons (xC (.int 0)) (aCons (xOp oAdd (xOp oIdx (xOp oIdx (xVar 2) (xUn oNeg (xC (.int 1)))) (xC (.int 1))) (xC (.int 3))) aNil)))))) (sSeq (sIf (tOrX (tNotX (tOf (xUn (oIsA "list") (xVar 3)))) (tOf (xOp oNe (xApp oLen (aCons (xVar 3) aNil)) (xOp oAdd (xOp oIdx (xOp oIdx (xVar 2) (xUn oNeg (xC (.int 1)))) (xC (.int 1))) (xC (.int 3)))))) (sRet (xC (.bool false))) sSkip) (sSeq (sFor (iL (xVar 3)) (bName 4) (sIf (tOrX (tNotX (tOf (xApp f_l_whole (aCons (xVar 4) aNil)))) (tOf (xOp oLt (xVar 4) (xC (.int 0))))) (sRet (xC (.bool false))) sSkip)) (sSeq (sIf (tOf (xOp oNe (xApp oSum (aCons (xSl (xVar 3) pNo (pAt (xOp oIdx (xOp oIdx (xVar 2) (xC (.int 0))) (xC (.int 1))))) aNil)) (xC (.int 0)))) (sRet (xC (.bool false))) sSkip) (sSeq (sSet 5 (xApp f_p_points (aCons (xVar 2) (aCons (xVar 1) aNil)))) (sSeq (sIf (tOrX (tNotX (tOf (xUn (oIsA "list") (xVar 5)))) (tOf (xOp oNe (xVar 5) (xApp f_l_places (aCons (xVar 2) (aCons (xVar 1) aNil)))))) (sRet (xC (.bool false))) sSkip) (sSeq (sSet 6 (xOp oIdx (xOp oIdx (xVar 2) (xC (.int 0))) (xC (.int 2)))) (sSeq (sSet 7 (xOp oIdx (xOp oIdx (xVar 2) (xC (.int 0))) (xC (.int 3)))) (sSeq (sFor (iR2 (xC (.int 1)) (xApp oLen (aCons (xVar 5) aNil))) (bName 8) (sSeq (sSet 9 (xOp oIdx (xVar 2) (xOp oIdx (xVar 5) (xVar 8)))) (sSeq (sSet 10 (xApp oSum (aCons (xSl (xVar 3) (pAt (xOp oIdx (xOp oIdx (xVar 2) (xOp oIdx (xVar 5) (xOp oSub (xVar 8) (xC (.int 1))))) (xC (.int 1)))) (pAt (xOp oIdx (xVar 9) (xC (.int 1))))) aNil))) (sSeq (sIf (tOrX (tOf (xOp oGe (xVar 10) (xVar 6))) (tOf (xOp oNe (xOp oMod (xOp oAdd (xVar 7) (xVar 10)) (xVar 6)) (xOp oIdx (xVar 9) (xC (.int 2)))))) (sRet (xC (.bool false))) sSkip) (sSeq (sSet 7 (xOp oIdx (xVar 9) (xC (.int 2)))) (sIf (tOf (xOp oEq (xOp oIdx (xVar 9) (xC (.int 0))) (xC (.str (PySem.Str.ofString "change"))))) (sSeq (sSet 6 (xOp oIdx (xVar 9) (xC (.int 3)))) (sSet 7 (xOp oIdx (xVar 9) (xC (.int 4))))) sSkip)))))) (sRet (xC (.bool true))))))))))))))
def f_law_08 : List D → An D := runDef 11 1 b_law_08
end Mg
namespace Mg
open PySem PySem.Spec PyProof.Rows L2
theorem useIn_before {rows : List I3} (R : RowsOk rows) {day : Int} (h : ∀ x ∈ rows, day < x.1) : useIn rows day = 0 := fold_skip rows 0 fun x hx => ⟨h x hx, by have := R.one x hx; have := h x hx; omega⟩
theorem useIn_at {rows : List I3} (R : RowsOk rows) {k : Nat} {x : I3} (hk : rows[k]? = some x) {d : Int} (h1 : x.1 ≤ d) (h2 : d < x.2.1) : useIn rows d = shareI x.2.2 (x.2.1 - x.1) (d - x.1) := by
  obtain ⟨hk2, ex⟩ := List.getElem?_eq_some_iff.mp hk
  obtain ⟨pre, post, e⟩ : ∃ pre post, rows = pre ++ x :: post := ⟨rows.take k, rows.drop (k + 1), (List.take_append_drop k rows).symm.trans (by rw [List.drop_eq_getElem_cons hk2, ex])⟩
  clear hk ex hk2 k
  subst e
  unfold useIn
  rw [List.foldl_append]
  generalize hf : List.foldl (rowStep d) 0 pre = f
  show List.foldl (rowStep d) (rowStep d f x) post = _
  rw [fold_skip]
  · unfold rowStep
    rw [if_pos ⟨h1, h2⟩]
  · intro y hy
    have o2 := (List.pairwise_cons.mp (List.pairwise_append.mp R.ord).2.1).1 y hy
    have o3 := R.one y (List.mem_append_right _ (List.mem_cons_of_mem _ hy))
    omega
theorem share_nn {u n a : Int} (hu : 0 ≤ u) (hn : 0 < n) : 0 ≤ shareI u n a := share_nonneg a hu hn
theorem useIn_nn {rows : List I3} (R : RowsOk rows) (d : Int) : 0 ≤ useIn rows d := by
  have key : ∀ (rs : List I3) (f : Int), (∀ x ∈ rs, x.1 < x.2.1 ∧ 0 ≤ x.2.2) → 0 ≤ f → 0 ≤ rs.foldl (rowStep d) f := by
    intro rs
    induction rs with
    | nil => exact fun f _ h => h
    | cons x r ih =>
      intro f hx hf
      obtain ⟨h1, h2⟩ := hx x List.mem_cons_self
      refine ih _ (fun y hy => hx y (List.mem_cons_of_mem _ hy)) ?_
      unfold rowStep
      split
      · exact share_nn h2 (by omega)
      · split
        · exact Int.ediv_nonneg h2 (by omega)
        · exact hf
  exact key rows 0 (fun x hx => ⟨(R.one x hx).2.1, (R.one x hx).2.2.2⟩) (Int.le_refl _)
theorem sum_share (u n : Int) : ∀ m : Nat, ((List.range m).map fun i : Nat => shareI u n (i : Int)).sum = (m : Int) * u / n
  | 0 => by simp
  | m + 1 => by
    rw [List.range_succ, List.map_append, List.sum_append, sum_share u n m]
    simp only [List.map_cons, List.map_nil, List.sum_cons, List.sum_nil, Int.add_zero]
    unfold shareI
    rw [show ((m + 1 : Nat) : Int) = (m : Int) + 1 by omega]
    omega
theorem intsOf_map : ∀ ns : List Int, intsOf (ns.map .int) = some ns
  | [] => rfl
  | n :: r => by
    show (intsOf (r.map .int)).map (n :: ·) = _
    rw [intsOf_map r]
    rfl
theorem sum_ok (ns : List Int) : oSum [.list (ns.map .int)] = .ok (.int ns.sum) := by
  show (match intsOf (ns.map .int) with | some ns => An.ok (PyData.int ns.sum) | none => .bad) = _
  rw [intsOf_map]
theorem sum_zero : ∀ l : List Nat, (l.map fun _ => (0 : Int)).sum = 0
  | [] => rfl
  | _ :: r => by
    rw [List.map_cons, List.sum_cons, sum_zero r]
    rfl
/-- the uses of all days, and a stretch of them -/
def allU (rows : List I3) (n : Nat) : List Int := (List.range n).map fun i : Nat => useIn rows (i : Int)
theorem allU_cut {rows : List I3} {n a m : Nat} (h : a + m ≤ n) : ((allU rows n).drop a).take m = (List.range m).map fun i : Nat => useIn rows ((a + i : Nat) : Int) := by
  unfold allU
  refine List.ext_getElem (by simp; omega) fun i h1 h2 => ?_
  simp
theorem cut_ok {xs : List Int} {a b : Nat} (h : a ≤ b) (hb : b ≤ xs.length) : cutD (xs.map .int) (some (a : Int)) (some (b : Int)) = ((xs.drop a).take (b - a)).map .int := by
  unfold cutD
  rw [HT.sIx_nat, HT.sIx_nat, List.length_map, Nat.min_eq_left hb, Nat.min_eq_left (show a ≤ xs.length by omega), List.map_take, List.map_drop]
theorem rows_get {h : List Ent} {pl : List Nat} {k : Nat} (hk : k + 1 < pl.length) : (spL h pl)[k]? = some (spanAt h (pl.getD k 0) (pl.getD (k + 1) 0)) := by
  unfold spL
  rw [List.getElem?_map, List.getElem?_range (by omega)]
  rfl
/-- between two places that count the uses add up to what went through -/
theorem sum_span {h : List Ent} (H : HW h) (mo : Int) {k n : Nat} (hk : k + 1 < (pts h mo).length) (hn : (hat h ((pts h mo).getD (k + 1) 0)).day ≤ n) :
    (((allU (spL h (pts h mo)) n).drop (hat h ((pts h mo).getD k 0)).day.toNat).take ((hat h ((pts h mo).getD (k + 1) 0)).day.toNat - (hat h ((pts h mo).getD k 0)).day.toNat)).sum = useB h ((pts h mo).getD k 0) ((pts h mo).getD (k + 1) 0) := by
  have R := rows_ok H mo
  have hr := rows_get (h := h) hk
  have hx := R.one _ (List.mem_of_getElem? hr)
  generalize (pts h mo).getD k 0 = p at *
  generalize (pts h mo).getD (k + 1) 0 = q at *
  generalize spL h (pts h mo) = rows at *
  unfold spanAt at hr hx
  dsimp only at hx
  generalize (hat h p).day = a at *
  generalize (hat h q).day = b at *
  generalize useB h p q = u at *
  obtain ⟨x1, x2, x3, x4⟩ := hx
  rw [allU_cut (by omega)]
  have e : (List.range (b.toNat - a.toNat)).map (fun i : Nat => useIn rows ((a.toNat + i : Nat) : Int)) = (List.range (b.toNat - a.toNat)).map fun i : Nat => shareI u (b - a) (i : Int) := by
    refine List.map_congr_left fun i hi => ?_
    rw [List.mem_range] at hi
    rw [useIn_at R hr (by dsimp only; omega) (by dsimp only; omega)]
    dsimp only
    congr 1
    omega
  rw [e, sum_share, show ((b.toNat - a.toNat : Nat) : Int) = b - a by omega, Int.mul_ediv_cancel_left _ (by omega)]
theorem sum_before {h : List Ent} (H : HW h) (mo : Int) {n m : Nat} (hm : m ≤ n) (hd : (m : Int) ≤ (hat h 0).day) (h0 : 0 < h.length) : ((allU (spL h (pts h mo)) n).take m).sum = 0 := by
  have R := rows_ok H mo
  have e := allU_cut (rows := spL h (pts h mo)) (n := n) (a := 0) (m := m) (by omega)
  rw [List.drop_zero] at e
  rw [e]
  have e2 : (List.range m).map (fun i : Nat => useIn (spL h (pts h mo)) ((0 + i : Nat) : Int)) = (List.range m).map fun _ => (0 : Int) := by
    refine List.map_congr_left fun i hi => ?_
    rw [List.mem_range] at hi
    refine useIn_before R fun x hx => ?_
    unfold spL at hx
    obtain ⟨k, hk, rfl⟩ := List.mem_map.mp hx
    rw [List.mem_range] at hk
    show _ < (hat h ((pts h mo).getD k 0)).day
    have m0 := pts_lt H mo (getD_mem (l := pts h mo) (k := k) (by omega))
    by_cases z : (pts h mo).getD k 0 = 0
    · rw [z]
      omega
    · have := H.days 0 ((pts h mo).getD k 0) (by omega) m0
      omega
  rw [e2]
  exact sum_zero _
/-- the last place ahead of a place that counts -/
theorem pts_prev {h : List Ent} (H : HW h) (mo : Int) : ∀ n, n ≤ h.length → ∀ k, k + 1 < (ptsI h mo n).length → lastN (ptsI h mo ((ptsI h mo n).getD (k + 1) 0)) = (ptsI h mo n).getD k 0
  | 0, _, k, hk => by
    have : (ptsI h mo 0).length = 0 := rfl
    omega
  | n + 1, hn, k, hk => by
    have ih := pts_prev H mo n (by omega)
    have e : ptsI h mo (n + 1) = if n = 0 ∨ cntB h mo (lastN (ptsI h mo n)) n = true then ptsI h mo n ++ [n] else ptsI h mo n := rfl
    rw [e] at hk ⊢
    split at hk
    · rename_i c
      rw [if_pos c]
      rw [List.length_append, List.length_singleton] at hk
      by_cases q : k + 1 < (ptsI h mo n).length
      · rw [List.getD_eq_getElem?_getD, List.getD_eq_getElem?_getD, List.getElem?_append_left q, List.getElem?_append_left (by omega), ← List.getD_eq_getElem?_getD, ← List.getD_eq_getElem?_getD]
        exact ih k q
      · have hk2 : k + 1 = (ptsI h mo n).length := by omega
        rw [List.getD_eq_getElem?_getD, List.getD_eq_getElem?_getD, List.getElem?_append_right (by omega), List.getElem?_append_left (by omega), hk2, Nat.sub_self]
        show lastN (ptsI h mo n) = _
        unfold lastN
        rw [← hk2, Nat.add_sub_cancel, List.getD_eq_getElem?_getD]
    · rename_i c
      rw [if_neg c]
      exact ih k hk
theorem size_prev {h : List Ent} (H : HW h) (mo : Int) {k : Nat} (hk : k + 1 < (pts h mo).length) : sizeAt h ((pts h mo).getD k 0) = sizeAt h ((pts h mo).getD (k + 1) 0 - 1) ∧ 0 < (pts h mo).getD (k + 1) 0 := by
  have inc := pts_inc H mo
  have l1 := getD_lt inc (i := k) (j := k + 1) (by omega) hk
  have m1 := pts_lt H mo (getD_mem (l := pts h mo) hk)
  have e := pts_prev H mo h.length (Nat.le_refl _) k hk
  have e : lastN (ptsI h mo ((pts h mo).getD (k + 1) 0)) = (pts h mo).getD k 0 := e
  have p := (pts_ok H mo ((pts h mo).getD (k + 1) 0) (by omega) (by omega)).2.2.1
  rw [e] at p
  exact ⟨p, by omega⟩
theorem turn_back {h : List Ent} (H : HW h) (mo : Int) {k : Nat} (hk : k + 1 < (pts h mo).length) : ((hat h ((pts h mo).getD k 0)).behind + useB h ((pts h mo).getD k 0) ((pts h mo).getD (k + 1) 0)) % sizeAt h ((pts h mo).getD k 0) = (hat h ((pts h mo).getD (k + 1) 0)).ahead := by
  have inc := pts_inc H mo
  have l1 := getD_lt inc (i := k) (j := k + 1) (by omega) hk
  have m1 := pts_lt H mo (getD_mem (l := pts h mo) hk)
  obtain ⟨s1, s2⟩ := size_prev H mo hk
  unfold useB
  generalize (pts h mo).getD k 0 = p at *
  generalize (pts h mo).getD (k + 1) 0 = q at *
  obtain ⟨j, rfl⟩ : ∃ j, q = j + 1 := ⟨q - 1, by omega⟩
  have hb : 0 ≤ (hat h (j + 1)).ahead ∧ (hat h (j + 1)).ahead < sizeAt h p := by
    rw [s1, Nat.add_sub_cancel]
    rcases H.rest j m1 with ⟨d, v, k, e, h1, h2⟩ | ⟨d, l, s, f, e, _, _, _, _, h1, h2⟩
    · rw [e]
      exact ⟨h1, h2⟩
    · rw [e]
      exact ⟨h1, h2⟩
  rw [Int.add_emod, Int.emod_emod, ← Int.add_emod]
  rw [show (hat h p).behind + ((hat h (j + 1)).ahead - (hat h p).behind) = (hat h (j + 1)).ahead by omega]
  exact Int.emod_eq_of_lt hb.1 hb.2
end Mg
namespace Mg
open PySem PySem.Spec PyProof.Rows L2
theorem encH_last {h : List Ent} (hp : 0 < h.length) : oIdx (encH h) (.int (-1)) = .ok (encE (hat h (h.length - 1))) := by
  show (match atI (h.map encE) (-1) with | some d => An.ok d | none => .bad) = _
  rw [atI_last (d := encE (hat h (h.length - 1))) (by
    rw [List.length_map, List.getElem?_map, hat_get (by omega)]
    rfl)]
theorem last_step {h : List Ent} (mo : Int) (m : Nat) : ptsI h mo (m + 2) = if cntB h mo (lastN (ptsI h mo (m + 1))) (m + 1) = true then ptsI h mo (m + 1) ++ [m + 1] else ptsI h mo (m + 1) := by
  show (if m + 1 = 0 ∨ cntB h mo (lastN (ptsI h mo (m + 1))) (m + 1) = true then ptsI h mo (m + 1) ++ [m + 1] else ptsI h mo (m + 1)) = _
  by_cases c : cntB h mo (lastN (ptsI h mo (m + 1))) (m + 1) = true
  · rw [if_pos (.inr c), if_pos c]
  · rw [if_neg (by rintro (q | q); exact absurd q (by omega); exact c q), if_neg c]
def P8 (h : List Ent) (mo : Int) (pl : List Nat) (x3 : Slot) (p : Nat) (x7 x8 : Slot) : Env := [.val (encH h), .val (.int mo), .own (nl pl), x3, .val (.int (hat h p).day), .val (.int (sizeAt h p)), .val (.int (hat h p).behind), x7, x8]
theorem places_spec {h : List Ent} (H : HW h) {mo : Int} (mo0 : 0 ≤ mo) (mo1 : mo ≤ 1000000000000) (h0 : 0 < h.length) : f_l_places [encH h, .int mo] = .ok (.list (nl (pts h mo))) := by
  refine wp_run rfl ?_
  show Wp b_l_places [.val (encH h), .val (.int mo), .un, .un, .un, .un, .un, .un, .un] _
  unfold b_l_places
  have hl := encH_len h
  have hl2 := H.len
  obtain ⟨d, s, v, q, s0, s1, v0, v1⟩ := H.first h0
  have hat0 : oIdx (encH h) (.int 0) = .ok (encE (hat h 0)) := hat_at h0
  have hsz : sizeAt h 0 = s := by
    rw [sizeAt_zero h0, q]
    rfl
  refine wp_own [.int 0] rfl ?_
  refine wp_asg (.tuple [.int d, .int s, .int v]) (P8 h mo [0] .un 0 .un .un) (by
    rw [q] at hat0
    have e : oSl (encE (.st d s v)) (some 1) none = .ok (.tuple [.int d, .int s, .int v]) := rfl
    walk_at "ev") (by
    unfold P8
    rw [q, hsz]
    rfl) ?_
  refine wp_rng 1 (h.length - 1) (fun i env => ∃ x3 x7 x8, env = P8 h mo (ptsI h mo (i + 1)) x3 (lastN (ptsI h mo (i + 1))) x7 x8) (by
    rw [ev_r2 (m := 1) (n := (h.length : Nat)) rfl (by unfold P8; walk_at "ev") (by omega) (by omega) (by omega) (by omega)]
    rw [show ((h.length : Int) - 1).toNat = h.length - 1 by omega]) ⟨_, _, _, rfl⟩ ?_ ?_
  · rintro m _ hm ⟨x3, x7, x8, rfl⟩
    refine ⟨_, rfl, ?_⟩
    rw [show (1 : Int) + m = ((m + 1 : Nat) : Int) by omega]
    obtain ⟨p1, p2, p3, _⟩ := pts_ok H mo (m + 1) (by omega) (by omega)
    have plen := pts_len (h := h) mo (m + 1)
    have nlen : (nl (ptsI h mo (m + 1))).length ≤ 100000 := by
      rw [List.length_map]
      omega
    have hsz := H.size (lastN (ptsI h mo (m + 1))) (by omega)
    rw [last_step]
    generalize hpl : ptsI h mo (m + 1) = pl at *
    generalize hp : lastN pl = p at *
    show Wp _ [.val (encH h), .val (.int mo), .own (nl pl), .val (.int (m + 1 : Nat)), .val (.int (hat h p).day), .val (.int (sizeAt h p)), .val (.int (hat h p).behind), x7, x8] _
    have hat1 := hat_at (h := h) (i := m + 1) (by omega)
    have a1 := k_rs
    have a2 := k_cs
    have a3 := k_rc
    have a4 := k_cr
    rcases H.rest m (by omega) with ⟨d, v, k, q, _⟩ | ⟨d, l, s, f, q, _⟩
    · have hc : cntB h mo p (m + 1) = (!k && decide (useB h p (m + 1) ≤ mo * (d - (hat h p).day))) := by
        unfold cntB
        rw [q]
      have hu : (v - (hat h p).behind) % sizeAt h p = useB h p (m + 1) := by
        unfold useB
        rw [q]
        rfl
      have hs1 : sizeAt h (m + 1) = sizeAt h p := by
        rw [sizeAt_succ (by omega), q, p3]
        rfl
      clear p3
      rw [q] at hat1
      have h0 := rd_0 (d := d) (v := v) (k := k)
      have h1 : oIdx (encE (.rd d v k)) (.int 1) = .ok (.int d) := encE_1 _
      have h2 := rd_2 (d := d) (v := v) (k := k)
      have h3 := rd_3 (d := d) (v := v) (k := k)
      refine wp_set (encE (.rd d v k)) (by walk_at "ev") ?_
      refine wp_set (.int (mo * (d - (hat h p).day))) (by walk_at "ev") ?_
      have ht : tOrX (tOf (xOp oEq (xOp oIdx (xVar 7) (xC (.int 0))) (xC (.str (PySem.Str.ofString "change"))))) (tAndX (tNotX (tOf (xOp oIdx (xVar 7) (xC (.int 3))))) (tOf (xOp oLe (xOp oMod (xOp oSub (xOp oIdx (xVar 7) (xC (.int 2))) (xVar 6)) (xVar 5)) (xVar 8))))
          [.val (encH h), .val (.int mo), .own (nl pl), .val (.int (m + 1 : Nat)), .val (.int (hat h p).day), .val (.int (sizeAt h p)), .val (.int (hat h p).behind), .val (encE (.rd d v k)), .val (.int (mo * (d - (hat h p).day)))] = .ok (cntB h mo p (m + 1)) := by
        rw [hc]
        generalize mo * (d - (hat h p).day) = far at *
        cases k with
        | true =>
          walk_at "ev"
          rfl
        | false =>
          walk_at "ev"
          simp
      by_cases c : cntB h mo p (m + 1) = true
      · rw [c] at ht
        rw [if_pos c, lastN_app]
        refine wp_yes ht (wp_assoc ?_)
        refine wp_app (nl pl) (.int (m + 1 : Nat)) rfl nlen rfl ?_
        refine wp_par (.int d) (.int v) (by exact h1) (by exact h2) ?_
        refine wp_no0 (by
          show tOf (xOp oEq (xOp oIdx (xVar 7) (xC (.int 0))) (xC (.str (PySem.Str.ofString "change")))) [_, _, _, _, _, _, _, .val (encE (.rd d v k)), _] = _
          walk_at "ev") (wp_skip0 (turn_nx ⟨.val (.int (m + 1 : Nat)), .val (encE (.rd d v k)), .val (.int (mo * (d - (hat h p).day))), ?_⟩))
        show ([_, _, .own (nl pl ++ [.int (m + 1 : Nat)]), _, .val (.int d), .val (.int (sizeAt h p)), .val (.int v), _, _] : Env) = _
        unfold P8
        rw [nl_snoc, hs1, q]
        rfl
      · have c' := c
        rw [Bool.not_eq_true] at c
        rw [c] at ht
        rw [if_neg c', hp]
        refine wp_no ht (wp_skip ?_)
        exact wp_no0 (by
          show tOf (xOp oEq (xOp oIdx (xVar 7) (xC (.int 0))) (xC (.str (PySem.Str.ofString "change")))) [_, _, _, _, _, _, _, .val (encE (.rd d v k)), _] = _
          walk_at "ev") (wp_skip0 (turn_nx ⟨.val (.int (m + 1 : Nat)), .val (encE (.rd d v k)), .val (.int (mo * (d - (hat h p).day))), rfl⟩))
    · have c : cntB h mo p (m + 1) = true := by
        unfold cntB
        rw [q]
      have hs1 : sizeAt h (m + 1) = s := by
        rw [sizeAt_succ (by omega), q]
        rfl
      clear p3
      rw [q] at hat1
      have h0 := ch_0 (d := d) (l := l) (s := s) (f := f)
      have h1 : oIdx (encE (.ch d l s f)) (.int 1) = .ok (.int d) := encE_1 _
      have h2 := ch_2 (d := d) (l := l) (s := s) (f := f)
      have h3 := ch_3 (d := d) (l := l) (s := s) (f := f)
      have h4 := ch_4 (d := d) (l := l) (s := s) (f := f)
      rw [if_pos c, lastN_app]
      refine wp_set (encE (.ch d l s f)) (by walk_at "ev") ?_
      refine wp_set (.int (mo * (d - (hat h p).day))) (by walk_at "ev") ?_
      refine wp_yes (by
        show tOrX (tOf (xOp oEq (xOp oIdx (xVar 7) (xC (.int 0))) (xC (.str (PySem.Str.ofString "change"))))) _ [_, _, _, _, _, _, _, .val (encE (.ch d l s f)), _] = _
        walk_at "ev") (wp_assoc ?_)
      refine wp_app (nl pl) (.int (m + 1 : Nat)) rfl nlen rfl ?_
      refine wp_par (.int d) (.int l) (by exact h1) (by exact h2) ?_
      refine wp_yes0 (by
        show tOf (xOp oEq (xOp oIdx (xVar 7) (xC (.int 0))) (xC (.str (PySem.Str.ofString "change")))) [_, _, _, _, _, _, _, .val (encE (.ch d l s f)), _] = _
        walk_at "ev") ?_
      have hpar : sPar 5 6 (xOp oIdx (xVar 7) (xC (.int 3))) (xOp oIdx (xVar 7) (xC (.int 4))) [.val (encH h), .val (.int mo), .own (nl pl ++ [.int (m + 1 : Nat)]), .val (.int (m + 1 : Nat)), .val (.int d), .val (.int (sizeAt h p)), .val (.int l), .val (encE (.ch d l s f)), .val (.int (mo * (d - (hat h p).day)))] = .nx [.val (encH h), .val (.int mo), .own (nl pl ++ [.int (m + 1 : Nat)]), .val (.int (m + 1 : Nat)), .val (.int d), .val (.int s), .val (.int f), .val (encE (.ch d l s f)), .val (.int (mo * (d - (hat h p).day)))] := by walk_at "ev"
      refine wp_end hpar (turn_nx ⟨.val (.int (m + 1 : Nat)), .val (encE (.ch d l s f)), .val (.int (mo * (d - (hat h p).day))), ?_⟩)
      unfold P8
      rw [nl_snoc, hs1, q]
      rfl
  · rintro _ ⟨x3, x7, x8, rfl⟩
    rw [show h.length - 1 + 1 = h.length by omega]
    exact wp_frz (nl (pts h mo)) rfl (wp_val rfl)
theorem law_true_08 : ∀ ns : List Int, ns.length ≤ 63 → f_law_08 [.list (ns.map .int)] = .ok (.bool true) := by
  intro ns hl
  refine wp_run rfl ?_
  show Wp b_law_08 [.val (intsD ns), .un, .un, .un, .un, .un, .un, .un, .un, .un, .un] _
  unfold b_law_08
  obtain ⟨c0, e0⟩ := cell_spec ns 0 (by decide)
  obtain ⟨c4, e4⟩ := cell_spec ns 4 (by decide)
  obtain ⟨mo, emo, mo0, mo1⟩ := most_spec c0
  obtain ⟨ma, ema, ma0, ma1⟩ := many_spec c4
  obtain ⟨h, l, s, w, eh, Hi, hlen⟩ := history_spec ns ma mo ma0 (by omega) mo0 mo1
  have H := Hi.hw (by omega)
  have h0 : 0 < h.length := by omega
  refine wp_set (.int mo) (by walk_at "ev") ?_
  refine wp_set (encH h) (by walk_at "ev") ?_
  clear Hi eh emo ema e0 e4
  have hz := encH_last h0
  have hz1 := encE_1 (hat h (h.length - 1))
  have hL := H.day0 (h.length - 1) (by omega)
  have hmax : ∀ i, i < h.length → (hat h i).day ≤ (hat h (h.length - 1)).day := by
    intro i hi
    by_cases q : i = h.length - 1
    · rw [q]
      exact Int.le_refl _
    · have := H.days i (h.length - 1) (by omega) (by omega)
      omega
  have hu := uses_spec H mo0 mo1 (lo := 0) (hi := (hat h (h.length - 1)).day + 3) (by omega) (by omega) (by omega) (by omega)
  generalize hll : (hat h (h.length - 1)).day = last at *
  have eU : (List.range (last + 3 - 0).toNat).map (fun i : Nat => PyData.int (useIn (spL h (pts h mo)) (0 + (i : Int)))) = (allU (spL h (pts h mo)) (last + 3).toNat).map .int := by
    unfold allU
    rw [List.map_map, Int.sub_zero]
    refine List.map_congr_left fun i _ => ?_
    rw [Int.zero_add]
    rfl
  rw [eU] at hu
  have R := rows_ok H mo
  have Ul : (allU (spL h (pts h mo)) (last + 3).toNat).length = (last + 3).toNat := by
    unfold allU
    simp
  have hb : sum_before H mo (n := (last + 3).toNat) (m := (hat h 0).day.toNat) (by have := hmax 0 h0; omega) (by have := H.day0 0 h0; omega) h0 = sum_before H mo (n := (last + 3).toNat) (m := (hat h 0).day.toNat) (by have := hmax 0 h0; omega) (by have := H.day0 0 h0; omega) h0 := rfl
  clear hb
  have hb := sum_before H mo (n := (last + 3).toNat) (m := (hat h 0).day.toNat) (by have := hmax 0 h0; omega) (by have := H.day0 0 h0; omega) h0
  have hspan : ∀ k, k + 1 < (pts h mo).length → _ := fun k hk => sum_span H mo (n := (last + 3).toNat) hk (by have := hmax _ (pts_lt H mo (getD_mem (l := pts h mo) hk)); omega)
  have hall : ∀ x ∈ allU (spL h (pts h mo)) (last + 3).toNat, 0 ≤ x := by
    intro x hx
    unfold allU at hx
    obtain ⟨i, _, rfl⟩ := List.mem_map.mp hx
    exact useIn_nn R _
  generalize hU : allU (spL h (pts h mo)) (last + 3).toNat = U at *
  refine wp_set (.list (U.map .int)) (by walk_at "ev") ?_
  clear hu
  have hlenU : oLen [.list (U.map .int)] = .ok (.int (last + 3)) := by
    show An.ok (PyData.int ((U.map PyData.int).length : Nat)) = _
    rw [List.length_map, Ul, show (((last + 3).toNat : Nat) : Int) = last + 3 by omega]
  have i1 : oIsA "list" (.list (U.map .int)) = .ok (.bool true) := isA_list
  have t1 : decide (last + 3 = last + 3) = true := decide_eq_true rfl
  refine wp_no (by walk_at "ev") (wp_skip ?_)
  clear i1 t1 hlenU
  have hw := whole_int
  refine wp_fold (enc := PyData.int) (fun s _ => s) (fun (_ : Unit) env => ∃ x4, env = [.val (intsD ns), .val (.int mo), .val (encH h), .val (.list (U.map .int)), x4, .un, .un, .un, .un, .un, .un]) U () (ev_itL rfl) ⟨_, rfl⟩ ?_ ?_
  · rintro _ x _ hx ⟨x4, rfl⟩
    refine ⟨_, rfl, ?_⟩
    show Wp _ [.val (intsD ns), .val (.int mo), .val (encH h), .val (.list (U.map .int)), .val (.int x), .un, .un, .un, .un, .un, .un] _
    have hx0 : ¬ x < 0 := by
      have := hall x hx
      omega
    exact wp_no0 (by walk_at "ev") (wp_skip0 (turn_nx ⟨_, rfl⟩))
  rintro _ ⟨x4, rfl⟩
  obtain ⟨d, z, v, q, z0, z1, v0, v1⟩ := H.first h0
  have hsz : sizeAt h 0 = z := by
    rw [sizeAt_zero h0, q]
    rfl
  have hat0 : oIdx (encH h) (.int 0) = .ok (encE (hat h 0)) := hat_at h0
  have hd0 := (H.day0 0 h0).1
  rw [q] at hat0 hb hd0
  have g1 : oIdx (encE (.st d z v)) (.int 1) = .ok (.int d) := encE_1 _
  have g2 := st_2 (d := d) (s := z) (v := v)
  have g3 := st_3 (d := d) (s := z) (v := v)
  replace hd0 : 0 ≤ d := hd0
  have hb : (U.take d.toNat).sum = 0 := hb
  have cutb : cutD (U.map .int) none (some d) = (U.take d.toNat).map .int := by
    have := cut_to (xs := U.map .int) d.toNat
    rw [show ((d.toNat : Nat) : Int) = d by omega] at this
    rw [this, List.map_take]
  have sumb := sum_ok (U.take d.toNat)
  rw [hb] at sumb
  refine wp_no (by walk_at "ev") (wp_skip ?_)
  clear cutb sumb hb
  have hp := points_spec H mo0 mo1
  refine wp_set (.list (nl (pts h mo))) (by walk_at "ev") ?_
  have hpl := places_spec H mo0 mo1 h0
  have i1 : oIsA "list" (.list (nl (pts h mo))) = .ok (.bool true) := isA_list
  have n1 := neL_sh (nl_sh (pts h mo)) (by decide)
  refine wp_no (by walk_at "ev") (wp_skip ?_)
  clear hp hpl i1 n1
  refine wp_set (.int z) (by walk_at "ev") ?_
  refine wp_set (.int v) (by walk_at "ev") ?_
  have hhead : (pts h mo).getD 0 0 = 0 := by
    have e := (pts_ok H mo _ h0 (Nat.le_refl _)).2.2.2.2.2
    rw [List.getD_eq_getElem?_getD, ← List.head?_eq_getElem?]
    unfold pts
    rw [e]
    rfl
  have plen : (pts h mo).length ≤ h.length := pts_len mo _
  have hl2 := H.len
  have hlen3 : oLen [.list (nl (pts h mo))] = .ok (.int ((pts h mo).length : Nat)) := by
    show An.ok (PyData.int ((nl (pts h mo)).length : Nat)) = _
    rw [List.length_map]
  refine wp_rng 1 ((pts h mo).length - 1) (fun i env => ∃ x8 x9 x10, env = [.val (intsD ns), .val (.int mo), .val (encH h), .val (.list (U.map .int)), x4, .val (.list (nl (pts h mo))), .val (.int (sizeAt h ((pts h mo).getD i 0))), .val (.int (hat h ((pts h mo).getD i 0)).behind), x8, x9, x10]) (by
    rw [ev_r2 (m := 1) (n := ((pts h mo).length : Nat)) rfl (by walk_at "ev") (by omega) (by omega) (by omega) (by omega)]
    rw [show (((pts h mo).length : Int) - 1).toNat = (pts h mo).length - 1 by omega]) ⟨_, _, _, by
      rw [hhead, hsz, q]
      rfl⟩ ?_ ?_
  · rintro i _ hi ⟨x8, x9, x10, rfl⟩
    refine ⟨_, rfl, ?_⟩
    rw [show (1 : Int) + i = ((i + 1 : Nat) : Int) by omega]
    have hk : i + 1 < (pts h mo).length := by omega
    have hsp := hspan i hk
    have tb := turn_back H mo hk
    obtain ⟨sp1, sp2⟩ := size_prev H mo hk
    have k1 := idx_nl (l := pts h mo) (k := i) (by omega)
    have k2 := idx_nl (l := pts h mo) (k := i + 1) hk
    have m1 := pts_lt H mo (getD_mem (l := pts h mo) (k := i + 1) hk)
    have m0 := pts_lt H mo (getD_mem (l := pts h mo) (k := i) (by omega))
    have l1 := getD_lt (pts_inc H mo) (i := i) (j := i + 1) (by omega) hk
    show Wp _ [.val (intsD ns), .val (.int mo), .val (encH h), .val (.list (U.map .int)), x4, .val (.list (nl (pts h mo))), .val (.int (sizeAt h ((pts h mo).getD i 0))), .val (.int (hat h ((pts h mo).getD i 0)).behind), .val (.int (i + 1 : Nat)), x9, x10] _
    generalize (pts h mo).getD i 0 = p at *
    generalize (pts h mo).getD (i + 1) 0 = r at *
    have hsz := H.size p m0
    have ub := useB_pos H (j := r) m0
    have q1 := hat_at m0
    have q2 := hat_at m1
    have q3 := encE_1 (hat h p)
    have q4 := encE_1 (hat h r)
    have dd := H.days p r l1 m1
    have dp := (H.day0 p m0).1
    have dm := hmax r m1
    have e0 : (((i + 1 : Nat) : Int) - 1) = (i : Int) := by omega
    have cutm : cutD (U.map .int) (some (hat h p).day) (some (hat h r).day) = ((U.drop (hat h p).day.toNat).take ((hat h r).day.toNat - (hat h p).day.toNat)).map .int := by
      have := cut_ok (xs := U) (a := (hat h p).day.toNat) (b := (hat h r).day.toNat) (by omega) (by omega)
      rw [show (((hat h p).day.toNat : Nat) : Int) = (hat h p).day by omega, show (((hat h r).day.toNat : Nat) : Int) = (hat h r).day by omega] at this
      exact this
    have sumt := sum_ok ((U.drop (hat h p).day.toNat).take ((hat h r).day.toNat - (hat h p).day.toNat))
    rw [hsp] at sumt
    refine wp_set (encE (hat h r)) (by walk_at "ev") ?_
    refine wp_set (.int (useB h p r)) (by walk_at "ev") ?_
    clear cutm sumt hsp k1 k2 q1 q2 q3 q4
    obtain ⟨j, rfl⟩ : ∃ j, r = j + 1 := ⟨r - 1, by omega⟩
    rw [Nat.add_sub_cancel] at sp1
    have a1 := k_rc
    generalize useB h p (j + 1) = u at *
    have ng : ¬ sizeAt h p ≤ u := by omega
    rcases H.rest j m1 with ⟨d, v, k, e, _⟩ | ⟨d, l, s, f, e, _⟩
    · have hs1 : sizeAt h (j + 1) = sizeAt h p := by
        rw [sizeAt_succ (by omega), e, sp1]
        rfl
      rw [hs1]
      rw [e] at tb ⊢
      clear sp1 hs1
      replace tb : ((hat h p).behind + u) % sizeAt h p = v := tb
      generalize sizeAt h p = sz at *
      generalize (hat h p).behind = sh at *
      have h0 := rd_0 (d := d) (v := v) (k := k)
      have h2 := rd_2 (d := d) (v := v) (k := k)
      have t1 : decide (v = v) = true := decide_eq_true rfl
      refine wp_no (by walk_at "ev") (wp_skip ?_)
      clear tb
      refine wp_set (.int v) (by walk_at "ev") ?_
      exact wp_no0 (by walk_at "ev") (wp_skip0 (turn_nx ⟨_, _, _, rfl⟩))
    · have hs1 : sizeAt h (j + 1) = s := by
        rw [sizeAt_succ (by omega), e]
        rfl
      rw [hs1]
      rw [e] at tb ⊢
      clear sp1 hs1
      replace tb : ((hat h p).behind + u) % sizeAt h p = l := tb
      generalize sizeAt h p = sz at *
      generalize (hat h p).behind = sh at *
      have h0 := ch_0 (d := d) (l := l) (s := s) (f := f)
      have h2 := ch_2 (d := d) (l := l) (s := s) (f := f)
      have h3 := ch_3 (d := d) (l := l) (s := s) (f := f)
      have h4 := ch_4 (d := d) (l := l) (s := s) (f := f)
      have t1 : decide (l = l) = true := decide_eq_true rfl
      refine wp_no (by walk_at "ev") (wp_skip ?_)
      clear tb
      refine wp_set (.int l) (by walk_at "ev") ?_
      refine wp_yes0 (by walk_at "ev") ?_
      refine wp_set (.int s) (by walk_at "ev") ?_
      exact wp_set0 (.int f) (by walk_at "ev") (turn_nx ⟨_, _, _, rfl⟩)
  · rintro _ ⟨x8, x9, x10, rfl⟩
    exact wp_val rfl
end Mg
namespace Mg
open PySem PySem.Spec PyProof.Rows L2
def b_p_owed : SX := (sSeq (sIf (tOf (xOp oEq (xApp oLen (aCons (xVar 0) aNil)) (xC (.int 0)))) (sRaise .noMeter) sSkip) (sSeq (sSet 4 (xOp oIdx (xOp oIdx (xVar 0) (xC (.int 0))) (xC (.int 1)))) (sSeq (sSet 5 (xC (.int 0))) (sSeq (sFor (iE (xApp f_p_uses (aCons (xVar 0) (aCons (xVar 1) (aCons (xVar 4) (aCons (xVar 3) aNil)))))) (bTup [6, 7]) (sSet 5 (xOp oAdd (xVar 5) (xApp f_p_cost (aCons (xApp f_p_tariff_on (aCons (xVar 2) (aCons (xOp oAdd (xVar 4) (xVar 6)) aNil))) (aCons (xVar 7) aNil)))))) (sRet (xVar 5))))))
def f_p_owed : List D → An D := runDef 8 4 b_p_owed
def b_l_tariffs_by : SX := (sSeq (sNewD 3) (sSeq (sFor (iR1 (xVar 2)) (bName 4) (sSeq (sSet 5 (xApp f_l_mixed (aCons (xVar 0) (aCons (xOp oAdd (xVar 1) (xVar 4)) aNil)))) (sSeq (sSet 6 (xApp f_l_mixed (aCons (xVar 0) (aCons (xOp oAdd (xOp oAdd (xVar 1) (xC (.int 20))) (xVar 4)) aNil)))) (sSeq (sSet 7 (xOp oIdx (xL (aCons (xC (.int 0)) (aCons (xC (.int 1)) (aCons (xC (.int 7)) (aCons (xOp oMod (xVar 6) (xOp oAdd (xOp oPow (xC (.int 10)) (xC (.int 9))) (xC (.int 1)))) aNil))))) (xOp oMod (xOp oFdiv (xVar 5) (xC (.int 3))) (xC (.int 4))))) (sSeq (sSet 8 (xOp oIdx (xL (aCons (xC (.int 0)) (aCons (xC (.int 1)) (aCons (xC (.int 5)) (aCons (xC (.int 50)) (aCons (xOp oPow (xC (.int 10)) (xC (.int 12))) (aCons (xOp oMod (xOp oFdiv (xVar 6) (xC (.int 5))) (xOp oAdd (xOp oPow (xC (.int 10)) (xC (.int 12))) (xC (.int 1)))) aNil))))))) (xOp oMod (xOp oFdiv (xVar 5) (xC (.int 17))) (xC (.int 6))))) (sSeq (sSet 9 (xOp oMod (xOp oFdiv (xVar 5) (xC (.int 60))) (xC (.int 70)))) (sSeq (sIf (tOf (xOp oEq (xOp oMod (xOp oFdiv (xVar 5) (xC (.int 4200))) (xC (.int 6))) (xC (.int 1)))) (sSet 9 (xOp oMod (xOp oFdiv (xVar 5) (xC (.int 25200))) (xC (.int 2001)))) sSkip) (sPutD 3 (xVar 9) (xTup (aCons (xVar 9) (aCons (xOp oMod (xVar 6) (xOp oIdx (xL (aCons (xC (.int 1)) (aCons (xC (.int 20)) (aCons (xOp oPow (xC (.int 10)) (xC (.int 9))) aNil)))) (xOp oMod (xVar 5) (xC (.int 3))))) (aCons (xVar 7) (aCons (xVar 8) (aCons (xOp oMod (xOp oFdiv (xVar 6) (xC (.int 9))) (xC (.int 30))) aNil)))))))))))))) (sRet (xApp oTuple (aCons (xL (nErr (xLc (iL (xL (xAppL oSorted (aCons (xL (xKeys 3)) aNil)))) [9] (bName 9) tYesX (xGet 3 (xVar 9))))) aNil)))))
def f_l_tariffs_by : List D → An D := runDef 10 3 b_l_tariffs_by
def b_l_cost : SX := (sSeq (sSet 3 (xC (.int 0))) (sSeq (sFor (iT (xVar 0)) (bName 4) (sIf (tOf (xOp oLe (xOp oIdx (xVar 4) (xC (.int 0))) (xVar 1))) (sSet 3 (xOp oAdd (xOp oAdd (xOp oIdx (xVar 4) (xC (.int 1))) (xOp oMul (xOp oIdx (xVar 4) (xC (.int 2))) (xApp oMin (aCons (xVar 2) (aCons (xOp oIdx (xVar 4) (xC (.int 3))) aNil))))) (xOp oMul (xOp oIdx (xVar 4) (xC (.int 4))) (xApp oMax (aCons (xC (.int 0)) (aCons (xOp oSub (xVar 2) (xOp oIdx (xVar 4) (xC (.int 3)))) aNil)))))) sSkip)) (sRet (xVar 3))))
def f_l_cost : List D → An D := runDef 5 3 b_l_cost
def b_l_owed : SX := (sSeq (sSet 4 (xC (.int 0))) (sSeq (sFor (iR2 (xOp oIdx (xOp oIdx (xVar 0) (xC (.int 0))) (xC (.int 1))) (xVar 3)) (bName 5) (sSet 4 (xOp oAdd (xVar 4) (xApp f_l_cost (aCons (xVar 2) (aCons (xVar 5) (aCons (xApp f_l_use (aCons (xVar 1) (aCons (xVar 5) aNil))) aNil))))))) (sRet (xVar 4))))
def f_l_owed : List D → An D := runDef 6 4 b_l_owed
def b_law_09 : SX := (sSeq (sSet 1 (xApp f_l_most_by (aCons (xApp f_l_cell_at (aCons (xVar 0) (aCons (xC (.int 0)) aNil))) aNil))) (sSeq (sSet 2 (xApp f_l_history_by (aCons (xVar 0) (aCons (xApp f_l_many_by (aCons (xApp f_l_cell_at (aCons (xVar 0) (aCons (xC (.int 4)) aNil))) aNil)) (aCons (xVar 1) aNil))))) (sSeq (sSet 3 (xApp f_l_tariffs_by (aCons (xVar 0) (aCons (xC (.int 100)) (aCons (xOp oMod (xApp f_l_cell_at (aCons (xVar 0) (aCons (xC (.int 5)) aNil))) (xC (.int 6))) aNil))))) (sSeq (sSet 4 (xOp oMod (xApp f_l_cell_at (aCons (xVar 0) (aCons (xC (.int 6)) aNil))) (xC (.int 161)))) (sSeq (sIf (tOf (xOp oEq (xOp oMod (xApp f_l_cell_at (aCons (xVar 0) (aCons (xC (.int 7)) aNil))) (xC (.int 16))) (xC (.int 3)))) (sSet 4 (xOp oMod (xOp oFdiv (xApp f_l_cell_at (aCons (xVar 0) (aCons (xC (.int 7)) aNil))) (xC (.int 16))) (xC (.int 2001)))) sSkip) (sSeq (sIf (tOf (xOp oEq (xOp oMod (xOp oFdiv (xApp f_l_cell_at (aCons (xVar 0) (aCons (xC (.int 5)) aNil))) (xC (.int 6))) (xC (.int 8))) (xC (.int 1)))) (sSeq (sTry 6 (sDrop (xApp f_p_owed (aCons (xTup aNil) (aCons (xVar 1) (aCons (xVar 3) (aCons (xVar 4) aNil)))))) (fun e => (sRet (xAnd (xErr 6 true) (xAnd (xErr 6 (decide (xr_9 e = .noMeter))) (xNot (xErr 6 (decide (xr_9 e = .notLater))))))))) (sRet (xC (.bool false)))) sSkip) (sSeq (sSet 5 (xApp f_p_owed (aCons (xVar 2) (aCons (xVar 1) (aCons (xVar 3) (aCons (xVar 4) aNil)))))) (sRet (xAnd (xApp f_l_whole (aCons (xVar 5) aNil)) (xOp oEq (xVar 5) (xApp f_l_owed (aCons (xVar 2) (aCons (xOp oIdx (xApp f_l_account (aCons (xVar 2) (aCons (xVar 1) aNil))) (xC (.int 1))) (aCons (xVar 3) (aCons (xVar 4) aNil)))))))))))))))
def f_law_09 : List D → An D := runDef 7 1 b_law_09
end Mg
namespace Mg
open PySem PySem.Spec PyProof.Rows L2
/-! ### tariffs drawn, what is owed -/
abbrev fT (rows : List Tar) : Flds := rows.map fun t => (Sum.inl t.d, Fld.d (encT t))
def putR (rows : List Tar) (t : Tar) : List Tar := if (rows.any fun a => decide (a.d = t.d)) = true then rows.map (fun a => if a.d = t.d then t else a) else rows ++ [t]
theorem fT_any (rows : List Tar) (k : Int) : ((fT rows).any fun f => decide (f.1 = Sum.inl k)) = rows.any fun a => decide (a.d = k) := by
  rw [fT, List.any_map]
  congr 1
  funext a
  show decide (Sum.inl a.d = (Sum.inl k : L2.Key)) = decide (a.d = k)
  by_cases h : a.d = k
  · rw [h, decide_eq_true rfl, decide_eq_true rfl]
  · rw [decide_eq_false h, decide_eq_false (fun z => h (Sum.inl.inj z))]
theorem fT_put (rows : List Tar) (t : Tar) : putF (fT rows) (.inl t.d) (encT t) = fT (putR rows t) := by
  unfold putF putR
  rw [fT_any]
  split
  · rw [fT, fT, List.map_map, List.map_map]
    refine List.map_congr_left fun a _ => ?_
    show (if (Sum.inl a.d : L2.Key) = Sum.inl t.d then ((Sum.inl a.d : L2.Key), Fld.d (encT t)) else (Sum.inl a.d, Fld.d (encT a))) = (Sum.inl (if a.d = t.d then t else a).d, Fld.d (encT (if a.d = t.d then t else a)))
    by_cases h : a.d = t.d
    · rw [if_pos (by rw [h]), if_pos h, h]
    · rw [if_neg (fun z => h (Sum.inl.inj z)), if_neg h]
  · rw [fT, fT, List.map_append]
    rfl
theorem fT_can (rows : List Tar) (k : L2.Key) : canPut (fT rows) k = true := by
  unfold canPut
  rw [List.all_eq_true]
  intro f hf
  obtain ⟨a, _, rfl⟩ := List.mem_map.mp hf
  show (_ || true) = true
  rw [Bool.or_true]
theorem putR_len (rows : List Tar) (t : Tar) : (putR rows t).length ≤ rows.length + 1 := by
  unfold putR
  split
  · simp
  · simp
theorem putR_mem {rows : List Tar} {t a : Tar} (h : a ∈ putR rows t) : a ∈ rows ∨ a = t := by
  unfold putR at h
  split at h
  · obtain ⟨b, hb, rfl⟩ := List.mem_map.mp h
    by_cases e : b.d = t.d
    · rw [if_pos e]
      exact .inr rfl
    · rw [if_neg e]
      exact .inl hb
  · rcases List.mem_append.mp h with h | h
    · exact .inl h
    · exact .inr (List.mem_singleton.mp h)
theorem putR_nodup {rows : List Tar} {t : Tar} (h : (rows.map (·.d)).Nodup) : ((putR rows t).map (·.d)).Nodup := by
  unfold putR
  split
  · have e : (rows.map (fun a => if a.d = t.d then t else a)).map (·.d) = rows.map (·.d) := by
      rw [List.map_map]
      refine List.map_congr_left fun a _ => ?_
      show (if a.d = t.d then t else a).d = a.d
      by_cases e : a.d = t.d
      · rw [if_pos e, e]
      · rw [if_neg e]
    rw [e]
    exact h
  · rename_i hn
    rw [List.map_append, List.nodup_append]
    refine ⟨h, by simp, ?_⟩
    intro a ha b hb
    rw [List.map_cons, List.map_nil, List.mem_singleton] at hb
    rintro rfl
    obtain ⟨x, hx, e⟩ := List.mem_map.mp ha
    exact hn (List.any_eq_true.mpr ⟨x, hx, decide_eq_true (e.trans hb)⟩)
theorem fT_get {rows : List Tar} (h : (rows.map (·.d)).Nodup) {t : Tar} (ht : t ∈ rows) : getF (fT rows) (.inl t.d) = some (encT t) := by
  induction rows with
  | nil => cases ht
  | cons a r ih =>
    rw [List.map_cons, List.nodup_cons] at h
    unfold getF
    show (match List.find? (fun f => decide (f.1 = Sum.inl t.d)) ((Sum.inl a.d, Fld.d (encT a)) :: fT r) with | some (_, .d d) => some d | _ => none) = _
    by_cases e : a.d = t.d
    · rw [List.find?_cons_of_pos (by simpa using e)]
      rcases List.mem_cons.mp ht with rfl | ht
      · rfl
      · exact absurd (List.mem_map.mpr ⟨t, ht, e.symm⟩) h.1
    · rw [List.find?_cons_of_neg (by simpa using e)]
      rcases List.mem_cons.mp ht with rfl | ht
      · exact absurd rfl e
      · exact ih h.2 ht
theorem int_le (a b : Int) : PySem.W.dataLe false (fun d => d) (PyData.int a) (PyData.int b) = decide (a ≤ b) := congrFun (congrFun (PySem.W.dataLe_int (fun b : Int => b)) a) b
/-- the rows, by rising days -/
theorem rows_sorted {rows : List Tar} (h : (rows.map (·.d)).Nodup) : ∃ ys : List Tar, ys.Perm rows ∧ Ris ys := by
  refine ⟨rows.mergeSort (fun a b => decide (a.d ≤ b.d)), List.mergeSort_perm _ _, ?_⟩
  have p := List.mergeSort_perm rows (fun a b => decide (a.d ≤ b.d))
  have s := List.pairwise_mergeSort (le := fun a b : Tar => decide (a.d ≤ b.d)) (fun a b c h1 h2 => decide_eq_true (Int.le_trans (of_decide_eq_true h1) (of_decide_eq_true h2))) (fun a b => by
    by_cases h : a.d ≤ b.d
    · simp [h]
    · simp [show b.d ≤ a.d by omega]) rows
  have nd : ((rows.mergeSort (fun a b => decide (a.d ≤ b.d))).map (·.d)).Nodup := (p.map (·.d)).nodup_iff.mpr h
  unfold List.Nodup at nd
  rw [List.pairwise_map] at nd
  refine (s.and nd).imp fun {a b} q => ?_
  have := of_decide_eq_true q.1
  have := q.2
  omega
def GoodT2 (t : Tar) : Prop := GoodT t ∧ 0 ≤ t.d ∧ t.d ≤ 2000
theorem putD_eq {rows : List Tar} {t : Tar} {i : Nat} {fk f : EX} {env : Env} (hi : env[i]? = some (.dic none (fT rows))) (hf : f env = .ok (encT t)) (hk : fk env = .ok (.int t.d)) (hl : rows.length < 1000) : sPutD i fk f env = .nx (env.set i (.dic none (fT (putR rows t)))) := by
  unfold sPutD
  rw [hi]
  show (f env).thn env _ = _
  rw [hf]
  show (fk env).thn env (oPutD i none (fT rows) (encT t) env) = _
  rw [hk]
  show (if canPut (fT rows) (.inl t.d) = true ∧ (fT rows).length < 100000 then Out.nx (env.set i (.dic none (putF (fT rows) (.inl t.d) (encT t)))) else .bad) = _
  rw [if_pos ⟨fT_can _ _, by simp; omega⟩, fT_put]
theorem tariffs_by_spec (ns : List Int) (at_ many : Int) (h0 : 0 ≤ at_) (m0 : 0 ≤ many) (m1 : many ≤ 100) : ∃ ts : List Tar, f_l_tariffs_by [intsD ns, .int at_, .int many] = .ok (tarsT ts) ∧ Ris ts ∧ (∀ t ∈ ts, GoodT2 t) ∧ ts.length ≤ 100 := by
  have loop : ∃ rows : List Tar, (rows.map (·.d)).Nodup ∧ (∀ t ∈ rows, GoodT2 t) ∧ rows.length ≤ 100 ∧ ∃ x4 x5 x6 x7 x8 x9, x4.plain = true ∧ x5.plain = true ∧ x6.plain = true ∧ x7.plain = true ∧ x8.plain = true ∧ x9.plain = true ∧ ∀ r, Wp (sRet (xApp oTuple (aCons (xL (nErr (xLc (iL (xL (xAppL oSorted (aCons (xL (xKeys 3)) aNil)))) [9] (bName 9) tYesX (xGet 3 (xVar 9))))) aNil))) [.val (intsD ns), .val (.int at_), .val (.int many), .dic none (fT rows), x4, x5, x6, x7, x8, x9] (isOut r) →
      Wp b_l_tariffs_by [.val (intsD ns), .val (.int at_), .val (.int many), .un, .un, .un, .un, .un, .un, .un] (isOut r) := by
    have key : ∃ env', (∃ rows x4 x5 x6 x7 x8 x9, env' = [.val (intsD ns), .val (.int at_), .val (.int many), .dic none (fT rows), x4, x5, x6, x7, x8, x9] ∧ (x4.plain = true ∧ x5.plain = true ∧ x6.plain = true ∧ x7.plain = true ∧ x8.plain = true ∧ x9.plain = true) ∧ (rows.map (·.d)).Nodup ∧ (∀ t ∈ rows, GoodT2 t) ∧ rows.length ≤ many.toNat) ∧ ∀ r, Wp (sRet (xApp oTuple (aCons (xL (nErr (xLc (iL (xL (xAppL oSorted (aCons (xL (xKeys 3)) aNil)))) [9] (bName 9) tYesX (xGet 3 (xVar 9))))) aNil))) env' (isOut r) →
        Wp b_l_tariffs_by [.val (intsD ns), .val (.int at_), .val (.int many), .un, .un, .un, .un, .un, .un, .un] (isOut r) := by
      unfold b_l_tariffs_by
      have step := for_rng (src := iR1 (xVar 2)) (b := bName 4) (env := [.val (intsD ns), .val (.int at_), .val (.int many), .dic none [], .un, .un, .un, .un, .un, .un]) (t := (sSeq (sSet 5 (xApp f_l_mixed (aCons (xVar 0) (aCons (xOp oAdd (xVar 1) (xVar 4)) aNil)))) (sSeq (sSet 6 (xApp f_l_mixed (aCons (xVar 0) (aCons (xOp oAdd (xOp oAdd (xVar 1) (xC (.int 20))) (xVar 4)) aNil)))) (sSeq (sSet 7 (xOp oIdx (xL (aCons (xC (.int 0)) (aCons (xC (.int 1)) (aCons (xC (.int 7)) (aCons (xOp oMod (xVar 6) (xOp oAdd (xOp oPow (xC (.int 10)) (xC (.int 9))) (xC (.int 1)))) aNil))))) (xOp oMod (xOp oFdiv (xVar 5) (xC (.int 3))) (xC (.int 4))))) (sSeq (sSet 8 (xOp oIdx (xL (aCons (xC (.int 0)) (aCons (xC (.int 1)) (aCons (xC (.int 5)) (aCons (xC (.int 50)) (aCons (xOp oPow (xC (.int 10)) (xC (.int 12))) (aCons (xOp oMod (xOp oFdiv (xVar 6) (xC (.int 5))) (xOp oAdd (xOp oPow (xC (.int 10)) (xC (.int 12))) (xC (.int 1)))) aNil))))))) (xOp oMod (xOp oFdiv (xVar 5) (xC (.int 17))) (xC (.int 6))))) (sSeq (sSet 9 (xOp oMod (xOp oFdiv (xVar 5) (xC (.int 60))) (xC (.int 70)))) (sSeq (sIf (tOf (xOp oEq (xOp oMod (xOp oFdiv (xVar 5) (xC (.int 4200))) (xC (.int 6))) (xC (.int 1)))) (sSet 9 (xOp oMod (xOp oFdiv (xVar 5) (xC (.int 25200))) (xC (.int 2001)))) sSkip) (sPutD 3 (xVar 9) (xTup (aCons (xVar 9) (aCons (xOp oMod (xVar 6) (xOp oIdx (xL (aCons (xC (.int 1)) (aCons (xC (.int 20)) (aCons (xOp oPow (xC (.int 10)) (xC (.int 9))) aNil)))) (xOp oMod (xVar 5) (xC (.int 3))))) (aCons (xVar 7) (aCons (xVar 8) (aCons (xOp oMod (xOp oFdiv (xVar 6) (xC (.int 9))) (xC (.int 30))) aNil)))))))))))))) 0 many.toNat
        (fun i env' => ∃ rows x4 x5 x6 x7 x8 x9, env' = [.val (intsD ns), .val (.int at_), .val (.int many), .dic none (fT rows), x4, x5, x6, x7, x8, x9] ∧ (x4.plain = true ∧ x5.plain = true ∧ x6.plain = true ∧ x7.plain = true ∧ x8.plain = true ∧ x9.plain = true) ∧ (rows.map (·.d)).Nodup ∧ (∀ t ∈ rows, GoodT2 t) ∧ rows.length ≤ i) (ev_r1 rfl (by omega) (by omega)) ⟨[], _, _, _, _, _, _, rfl, ⟨rfl, rfl, rfl, rfl, rfl, rfl⟩, List.nodup_nil, fun _ h => (nomatch h), Nat.le_refl _⟩ (by
        rintro i _ hi ⟨rows, x4, x5, x6, x7, x8, x9, rfl, _, nd, good, hlen⟩
        refine ⟨_, rfl, ?_⟩
        rw [Int.zero_add]
        show Wp _ [.val (intsD ns), .val (.int at_), .val (.int many), .dic none (fT rows), .val (.int i), x5, x6, x7, x8, x9] _
        obtain ⟨n, hn, a0, a1⟩ := mixed_spec ns (at_ + (i : Int)) (by omega)
        obtain ⟨m, hm, b0, b1⟩ := mixed_spec ns (at_ + 20 + (i : Int)) (by omega)
        obtain ⟨lo, hlo, lo0, lo1⟩ := pick (xs := [0, 1, 7, m % 1000000001]) (k := n / 3 % 4) (fun x => 0 ≤ x ∧ x ≤ 1000000000) (by simp; omega) (by omega) (by show n / 3 % 4 < 4; omega)
        obtain ⟨li, hli, li0, li1⟩ := pick (xs := [0, 1, 5, 50, 1000000000000, m / 5 % 1000000000001]) (k := n / 17 % 6) (fun x => 0 ≤ x ∧ x ≤ 1000000000000) (by simp; omega) (by omega) (by show n / 17 % 6 < 6; omega)
        obtain ⟨pr, hpr, pr0⟩ := pick (xs := [1, 20, 1000000000]) (k := n % 3) (fun x => 0 < x) (by simp) (by omega) (by show n % 3 < 3; omega)
        simp only [List.map_cons, List.map_nil] at hlo hli hpr
        refine wp_set (.int n) (by walk_at "ev") ?_
        refine wp_set (.int m) (by walk_at "ev") ?_
        clear hn hm
        refine wp_set (.int lo) (by walk_at "ev") ?_
        refine wp_set (.int li) (by walk_at "ev") ?_
        clear hlo hli
        refine wp_set (.int (n / 60 % 70)) (by walk_at "ev") ?_
        refine wp_P (fun env => ∃ day : Int, 0 ≤ day ∧ day ≤ 2000 ∧ env = [.val (intsD ns), .val (.int at_), .val (.int many), .dic none (fT rows), .val (.int i), .val (.int n), .val (.int m), .val (.int lo), .val (.int li), .val (.int day)]) ?_ ?_
        · by_cases q : n / 4200 % 6 = 1
          · exact wp_yes0 (by walk_at "ev") (wp_set0 (.int (n / 25200 % 2001)) (by walk_at "ev") (nx_nx ⟨_, by omega, by omega, rfl⟩))
          · exact wp_no0 (by walk_at "ev") (wp_skip0 (nx_nx ⟨n / 60 % 70, by omega, by omega, rfl⟩))
        rintro _ ⟨day, d0, d1, rfl⟩
        refine wp_end (putD_eq (t := ⟨day, m % pr, lo, li, m / 9 % 30⟩) rfl (by unfold encT; walk_at "ev") rfl (by omega)) (turn_nx ?_)
        refine ⟨putR rows ⟨day, m % pr, lo, li, m / 9 % 30⟩, _, _, _, _, _, _, rfl, ⟨rfl, rfl, rfl, rfl, rfl, rfl⟩, putR_nodup nd, fun a ha => ?_, ?_⟩
        · rcases putR_mem ha with ha | rfl
          · exact good a ha
          · exact ⟨⟨lo0, lo1, by show 0 ≤ m / 9 % 30; omega, by show m / 9 % 30 ≤ _; omega, li0, li1⟩, d0, d1⟩
        · have := putR_len rows ⟨day, m % pr, lo, li, m / 9 % 30⟩
          omega)
      obtain ⟨env', e, hp⟩ := step
      exact ⟨env', hp, fun r q => wp_seq rfl (wp_seq e q)⟩
    obtain ⟨_, ⟨rows, x4, x5, x6, x7, x8, x9, rfl, ⟨p4, p5, p6, p7, p8, p9⟩, nd, good, hlen⟩, q⟩ := key
    exact ⟨rows, nd, good, by omega, x4, x5, x6, x7, x8, x9, p4, p5, p6, p7, p8, p9, q⟩
  obtain ⟨rows, nd, good, hlen, x4, x5, x6, x7, x8, x9, p4, p5, p6, p7, p8, p9, q⟩ := loop
  obtain ⟨ys, perm, ris⟩ := rows_sorted nd
  have hyl := perm.length_eq
  refine ⟨ys, wp_run rfl (q _ ?_), ris, fun t ht => good t (perm.mem_iff.mp ht), by omega⟩
  have hs := sorted_key (enc := fun t : Tar => PyData.int t.d) (key := Tar.d) (xs := rows) (ys := ys) (fun a _ b _ => int_le _ _) perm ris (by omega) (by
    have : (rows.map fun t : Tar => PyData.int t.d).all isI = true := by
      rw [List.all_eq_true]
      intro x hx
      obtain ⟨t, _, rfl⟩ := List.mem_map.mp hx
      rfl
    rw [this, Bool.true_or])
  have hk : xKeys 3 [.val (intsD ns), .val (.int at_), .val (.int many), .dic none (fT rows), x4, x5, x6, x7, x8, x9] = .ok (rows.map fun t : Tar => PyData.int t.d) := by
    show An.ok ((fT rows).map fun f => keyD f.1) = _
    rw [fT, List.map_map]
    rfl
  have hsrc : iL (xL (xAppL oSorted (aCons (xL (xKeys 3)) aNil))) [.val (intsD ns), .val (.int at_), .val (.int many), .dic none (fT rows), x4, x5, x6, x7, x8, x9] = .ok (ys.map fun t : Tar => PyData.int t.d) := by
    have e : xL (xAppL oSorted (aCons (xL (xKeys 3)) aNil)) [.val (intsD ns), .val (.int at_), .val (.int many), .dic none (fT rows), x4, x5, x6, x7, x8, x9] = .ok (.list (ys.map fun t : Tar => PyData.int t.d)) := by walk_at "ev"
    show (xL _ _).bnd oItemsL = _
    rw [e]
    rfl
  have hc := lc_all (src := iL (xL (xAppL oSorted (aCons (xL (xKeys 3)) aNil)))) (vs := [9]) (b := bName 9) (f := xGet 3 (xVar 9)) (env := [.val (intsD ns), .val (.int at_), .val (.int many), .dic none (fT rows), x4, x5, x6, x7, x8, x9]) encT ys (by
    show ((Slot.dic none (fT rows)).plain && noErr [x4, x5, x6, x7, x8, x9]) = true
    show (true && noErr [x4, x5, x6, x7, x8, x9]) = true
    walk_at "plain") hsrc (by omega) (fun t ht => ⟨_, rfl, by
      have hg := fT_get nd (perm.mem_iff.mp ht)
      show (match (keyOf (.int t.d)).bind (getF (fT rows)) with | some d => An.ok d | none => .bad) = _
      show (match getF (fT rows) (.inl t.d) with | some d => An.ok d | none => .bad) = _
      rw [hg]⟩)
  exact wp_val (by unfold tarsT; walk_at "ev")
end Mg
namespace Mg
open PySem PySem.Spec PyProof.Rows L2
def costO (u : Int) : Option Tar → Int
  | some t => costT t u
  | none => 0
theorem l_cost_spec {ts : List Tar} (g : ∀ t ∈ ts, GoodT2 t) (day u : Int) : f_l_cost [tarsT ts, .int day, .int u] = .ok (.int (costO u (lastT day ts))) := by
  refine wp_run rfl ?_
  show Wp b_l_cost [.val (tarsT ts), .val (.int day), .val (.int u), .un, .un] _
  unfold b_l_cost
  refine wp_set (.int 0) rfl ?_
  refine wp_fold (enc := encT) (fun o t => if t.d ≤ day then some t else o) (fun o env => ∃ x, env = [.val (tarsT ts), .val (.int day), .val (.int u), .val (.int (costO u o)), x]) ts none (ev_itT rfl) ⟨_, rfl⟩ ?_ ?_
  · rintro o t _ ht ⟨x, rfl⟩
    refine ⟨_, rfl, ?_⟩
    show Wp _ [.val (tarsT ts), .val (.int day), .val (.int u), .val (.int (costO u o)), .val (encT t)] _
    obtain ⟨⟨g1, g2, g3, g4, _, _⟩, _⟩ := g t ht
    have h0 := encT_0 t
    have h1 := encT_1 t
    have h2 := encT_2 t
    have h3 := encT_3 t
    have h4 := encT_4 t
    by_cases h : t.d ≤ day
    · rw [if_pos h]
      have e2 : (if t.li < u then t.li else u) = min u t.li := by omega
      have e3 : (if u - t.li > 0 then u - t.li else 0) = max 0 (u - t.li) := by omega
      have ec : costO u (some t) = t.st + t.lo * min u t.li + t.hi * max 0 (u - t.li) := rfl
      rw [ec]
      generalize min u t.li = mi at *
      generalize max 0 (u - t.li) = mx at *
      exact wp_yes0 (by walk_at "ev") (wp_set0 _ (by walk_at "ev") (turn_nx ⟨_, rfl⟩))
    · rw [if_neg h]
      exact wp_no0 (by walk_at "ev") (wp_skip0 (turn_nx ⟨_, rfl⟩))
  · rintro _ ⟨x, rfl⟩
    exact wp_val rfl
theorem p_cost_spec {ts : List Tar} (g : ∀ t ∈ ts, GoodT2 t) (day u : Int) : f_p_cost [encO (lastT day ts), .int u] = .ok (.int (costO u (lastT day ts))) := by
  have key : ∀ (l : List Tar) (o : Option Tar), (∀ t ∈ l, GoodT2 t) → (∀ t, o = some t → GoodT2 t) → ∀ t, l.foldl (fun o t => if t.d ≤ day then some t else o) o = some t → GoodT2 t := by
    intro l
    induction l with
    | nil => exact fun o _ h t e => h t e
    | cons a r ih =>
      intro o h1 h2
      refine ih _ (fun t ht => h1 t (List.mem_cons_of_mem _ ht)) fun t e => ?_
      have e : (if a.d ≤ day then some a else o) = some t := e
      split at e
      · cases e
        exact h1 _ List.mem_cons_self
      · exact h2 t e
  have k := key ts none g (fun t e => nomatch e)
  cases e : lastT day ts with
  | none => exact cost_none
  | some t =>
    obtain ⟨⟨g1, g2, g3, g4, _, _⟩, _⟩ := k t e
    exact cost_some g1 g2 g3 g4
/-- the cost of the i-th day from begin on -/
def dayCost (rows : List I3) (ts : List Tar) (begin_ : Int) (i : Nat) : Int := costO (useIn rows (begin_ + (i : Int))) (lastT (begin_ + (i : Int)) ts)
def owedN (rows : List I3) (ts : List Tar) (begin_ : Int) (n : Nat) : Int := (List.range n).foldl (fun s i => s + dayCost rows ts begin_ i) 0
def owedT (h : List Ent) (mo : Int) (ts : List Tar) (day : Int) : Int := owedN (spL h (pts h mo)) ts (hat h 0).day (day - (hat h 0).day).toNat
theorem l_owed_spec {h : List Ent} (H : HW h) (h0 : 0 < h.length) (mo : Int) {ts : List Tar} (g : ∀ t ∈ ts, GoodT2 t) {day : Int} (d0 : 0 ≤ day) (d1 : day ≤ 20000) : f_l_owed [encH h, .list ((spL h (pts h mo)).map enc3), tarsT ts, .int day] = .ok (.int (owedT h mo ts day)) := by
  refine wp_run rfl ?_
  show Wp b_l_owed [.val (encH h), .val (.list ((spL h (pts h mo)).map enc3)), .val (tarsT ts), .val (.int day), .un, .un] _
  unfold b_l_owed
  have R := rows_ok H mo
  have hat0 : oIdx (encH h) (.int 0) = .ok (encE (hat h 0)) := hat_at h0
  have hd := encE_1 (hat h 0)
  obtain ⟨b0, b1⟩ := H.day0 0 h0
  unfold owedT
  generalize spL h (pts h mo) = rows at *
  generalize (hat h 0).day = bg at *
  refine wp_set (.int 0) rfl ?_
  refine wp_fold (enc := fun i : Nat => PyData.int (bg + (i : Int))) (fun s i => s + dayCost rows ts bg i) (fun s env => ∃ x, env = [.val (encH h), .val (.list (rows.map enc3)), .val (tarsT ts), .val (.int day), .val (.int s), x]) (List.range (day - bg).toNat) 0 (by
    refine (ev_r2 (m := bg) (n := day) (by walk_at "ev") rfl (by omega) (by omega) (by omega) (by omega)).trans rfl) ⟨_, rfl⟩ ?_ ?_
  · rintro s i _ hi ⟨x, rfl⟩
    rw [List.mem_range] at hi
    refine ⟨_, rfl, ?_⟩
    show Wp _ [.val (encH h), .val (.list (rows.map enc3)), .val (tarsT ts), .val (.int day), .val (.int s), .val (.int (bg + (i : Int)))] _
    have hu := luse_spec R (day := bg + (i : Int)) (by omega) (by omega)
    have hc := l_cost_spec g (bg + (i : Int)) (useIn rows (bg + (i : Int)))
    exact wp_set0 (.int (s + dayCost rows ts bg i)) (by unfold dayCost; walk_at "ev") (turn_nx ⟨_, rfl⟩)
  · rintro _ ⟨x, rfl⟩
    exact wp_val rfl
theorem enum_map {n : Nat} {f : Nat → D} : enumD ((List.range n).map f) = (List.range n).map fun i : Nat => PyData.tuple [.int (i : Int), f i] := by
  unfold enumD
  rw [List.length_map, List.length_range]
  refine List.map_congr_left fun i hi => ?_
  rw [List.mem_range] at hi
  rw [List.getD_eq_getElem?_getD, List.getElem?_map, List.getElem?_range hi]
  rfl
theorem owed_none {mo day : Int} {ts : List Tar} : f_p_owed [encH [], .int mo, tarsT ts, .int day] = .exc .noMeter := by
  refine wp_run rfl ?_
  show Wp b_p_owed [.val (encH []), .val (.int mo), .val (tarsT ts), .val (.int day), .un, .un, .un, .un] _
  unfold b_p_owed
  exact wp_yes rfl (wp_raiseS rfl)
theorem owed_spec {h : List Ent} (H : HW h) (h0 : 0 < h.length) {mo : Int} (mo0 : 0 ≤ mo) (mo1 : mo ≤ 1000000000000) {ts : List Tar} (g : ∀ t ∈ ts, GoodT2 t) {day : Int} (d0 : 0 ≤ day) (d1 : day ≤ 20000) : f_p_owed [encH h, .int mo, tarsT ts, .int day] = .ok (.int (owedT h mo ts day)) := by
  refine wp_run rfl ?_
  show Wp b_p_owed [.val (encH h), .val (.int mo), .val (tarsT ts), .val (.int day), .un, .un, .un, .un] _
  unfold b_p_owed
  have hl := encH_len h
  have hz : ¬ (h.length : Int) = 0 := by omega
  have hat0 : oIdx (encH h) (.int 0) = .ok (encE (hat h 0)) := hat_at h0
  have hd := encE_1 (hat h 0)
  obtain ⟨b0, b1⟩ := H.day0 0 h0
  have hu := uses_spec H mo0 mo1 (lo := (hat h 0).day) (hi := day) b0 (by omega) (by omega) (by omega)
  have R := rows_ok H mo
  unfold owedT
  generalize spL h (pts h mo) = rows at *
  generalize (hat h 0).day = bg at *
  refine wp_no (by walk_at "ev") (wp_skip ?_)
  refine wp_set (.int bg) (by walk_at "ev") ?_
  refine wp_set (.int 0) rfl ?_
  have hsrc : iE (xApp f_p_uses (aCons (xVar 0) (aCons (xVar 1) (aCons (xVar 4) (aCons (xVar 3) aNil))))) [.val (encH h), .val (.int mo), .val (tarsT ts), .val (.int day), .val (.int bg), .val (.int 0), .un, .un] = .ok ((List.range (day - bg).toNat).map fun i : Nat => PyData.tuple [.int (i : Int), .int (useIn rows (bg + (i : Int)))]) := by
    have e : xApp f_p_uses (aCons (xVar 0) (aCons (xVar 1) (aCons (xVar 4) (aCons (xVar 3) aNil)))) [.val (encH h), .val (.int mo), .val (tarsT ts), .val (.int day), .val (.int bg), .val (.int 0), .un, .un] = .ok (.list ((List.range (day - bg).toNat).map fun i : Nat => .int (useIn rows (bg + (i : Int))))) := by walk_at "ev"
    show (aCons _ aNil _).bnd oEnum = _
    show ((xApp f_p_uses _ _).bnd fun d => (aNil _).bnd fun ds => .ok (d :: ds)).bnd oEnum = _
    rw [e]
    show An.ok (enumD _) = _
    rw [enum_map]
  refine wp_fold (enc := fun i : Nat => PyData.tuple [.int (i : Int), .int (useIn rows (bg + (i : Int)))]) (fun s i => s + dayCost rows ts bg i) (fun s env => ∃ x y, env = [.val (encH h), .val (.int mo), .val (tarsT ts), .val (.int day), .val (.int bg), .val (.int s), x, y]) (List.range (day - bg).toNat) 0 hsrc ⟨_, _, rfl⟩ ?_ ?_
  · rintro s i _ hi ⟨x, y, rfl⟩
    refine ⟨_, rfl, ?_⟩
    show Wp _ [.val (encH h), .val (.int mo), .val (tarsT ts), .val (.int day), .val (.int bg), .val (.int s), .val (.int i), .val (.int (useIn rows (bg + (i : Int))))] _
    have ho : f_p_tariff_on [tarsT ts, .int (bg + (i : Int))] = .ok (encO (lastT (bg + (i : Int)) ts)) := on_spec
    have hc := p_cost_spec g (bg + (i : Int)) (useIn rows (bg + (i : Int)))
    exact wp_set0 (.int (s + dayCost rows ts bg i)) (by unfold dayCost; walk_at "ev") (turn_nx ⟨_, _, rfl⟩)
  · rintro _ ⟨x, y, rfl⟩
    exact wp_val rfl
theorem law_true_09 : ∀ ns : List Int, ns.length ≤ 63 → f_law_09 [.list (ns.map .int)] = .ok (.bool true) := by
  intro ns hl
  refine wp_run rfl ?_
  show Wp b_law_09 [.val (intsD ns), .un, .un, .un, .un, .un, .un] _
  unfold b_law_09
  obtain ⟨c0, e0⟩ := cell_spec ns 0 (by decide)
  obtain ⟨c4, e4⟩ := cell_spec ns 4 (by decide)
  obtain ⟨c5, e5⟩ := cell_spec ns 5 (by decide)
  obtain ⟨c6, e6⟩ := cell_spec ns 6 (by decide)
  obtain ⟨c7, e7⟩ := cell_spec ns 7 (by decide)
  obtain ⟨mo, emo, mo0, mo1⟩ := most_spec c0
  obtain ⟨ma, ema, ma0, ma1⟩ := many_spec c4
  obtain ⟨h, l, s, w, eh, Hi, hlen⟩ := history_spec ns ma mo ma0 (by omega) mo0 mo1
  have H := Hi.hw (by omega)
  obtain ⟨ts, ets, ris, good, tl⟩ := tariffs_by_spec ns 100 (c5 % 6) (by decide) (by omega) (by omega)
  refine wp_set (.int mo) (by walk_at "ev") ?_
  refine wp_set (encH h) (by walk_at "ev") ?_
  refine wp_set (tarsT ts) (by walk_at "ev") ?_
  clear eh emo ema e0 e4 ets Hi
  refine wp_set (.int (c6 % 161)) (by walk_at "ev") ?_
  refine wp_P (fun env => ∃ day : Int, 0 ≤ day ∧ day ≤ 2000 ∧ env = [.val (intsD ns), .val (.int mo), .val (encH h), .val (tarsT ts), .val (.int day), .un, .un]) ?_ ?_
  · by_cases q : c7 % 16 = 3
    · exact wp_yes0 (by walk_at "ev") (wp_set0 (.int (c7 / 16 % 2001)) (by walk_at "ev") (nx_nx ⟨_, by omega, by omega, rfl⟩))
    · exact wp_no0 (by walk_at "ev") (wp_skip0 (nx_nx ⟨c6 % 161, by omega, by omega, rfl⟩))
  rintro _ ⟨day, d0, d1, rfl⟩
  by_cases q : c5 / 6 % 8 = 1
  · have hn : f_p_owed [.tuple [], .int mo, tarsT ts, .int day] = .exc .noMeter := owed_none (mo := mo) (day := day) (ts := ts)
    refine wp_yes (by walk_at "ev") (wp_assoc ?_)
    refine wp_try rfl (x := .noMeter) (env1 := [.val (intsD ns), .val (.int mo), .val (encH h), .val (tarsT ts), .val (.int day), .un, .un]) ?_ rfl (.bool true) rfl rfl
    walk_at "ev"
  · refine wp_no (by walk_at "ev") (wp_skip ?_)
    have h0 : 0 < h.length := by omega
    have ho := owed_spec H h0 mo0 mo1 good d0 (show day ≤ 20000 by omega)
    have hlo := l_owed_spec H h0 mo good d0 (show day ≤ 20000 by omega)
    have ha := account_spec H mo0 mo1
    have hx : oIdx (.tuple [.list (nl (pts h mo)), .list ((spL h (pts h mo)).map enc3)]) (.int 1) = .ok (.list ((spL h (pts h mo)).map enc3)) := idxT_at (by decide) rfl
    have hw := whole_int
    have t1 : decide (owedT h mo ts day = owedT h mo ts day) = true := decide_eq_true rfl
    refine wp_set (.int (owedT h mo ts day)) (by walk_at "ev") ?_
    exact wp_val (by walk_at "ev")
end Mg
namespace Mg
open PySem PySem.Spec PyProof.Rows L2
def b_p_billed : SX := (sRet (xApp oSum (aCons (xL (nErr (xLc (iT (xVar 0)) [1, 2] (bTup [1, 2]) tYesX (xVar 2)))) aNil)))
def f_p_billed : List D → An D := runDef 3 1 b_p_billed
def b_p_with_bill : SX := (sSeq (sSet 5 (xOp oSub (xApp f_p_owed (aCons (xVar 0) (aCons (xVar 1) (aCons (xVar 2) (aCons (xVar 4) aNil))))) (xApp f_p_billed (aCons (xVar 3) aNil)))) (sSeq (sIf (tAndX (tOf (xOp oGt (xApp oLen (aCons (xVar 3) aNil)) (xC (.int 0)))) (tOf (xOp oLt (xVar 4) (xOp oIdx (xOp oIdx (xVar 3) (xUn oNeg (xC (.int 1)))) (xC (.int 0)))))) (sRaise .notLater) sSkip) (sRet (xOp oAdd (xVar 3) (xTup (aCons (xTup (aCons (xVar 4) (aCons (xVar 5) aNil))) aNil))))))
def f_p_with_bill : List D → An D := runDef 6 5 b_p_with_bill
def b_l_refused_10 : SX := (sSeq (sTry 5 (sDrop (xApp f_p_with_bill (aCons (xVar 0) (aCons (xVar 1) (aCons (xVar 2) (aCons (xVar 3) (aCons (xVar 4) aNil))))))) (fun e => (sSeq (sIf (tOrX (tOf (xErr 5 (decide (xr_i e = .stands)))) (tOrX (tOf (xErr 5 (decide (xr_i e = .noValue)))) (tOf (xErr 5 (decide (xr_i e = .noReading)))))) (sRet (xC (.str (PySem.Str.ofString "")))) sSkip) (sSeq (sIf (tOrX (tOf (xOp oEqS (xErr 5 (decide (xr_i e = .noMeter))) (xErr 5 (decide (xr_i e = .notLater))))) (tNotX (tOf (xErr 5 true)))) (sRet (xC (.str (PySem.Str.ofString "")))) sSkip) (sRet (xOp oIdx (xL (aCons (xC (.str (PySem.Str.ofString "later"))) (aCons (xC (.str (PySem.Str.ofString "meter"))) aNil))) (xApp oIntOf (aCons (xErr 5 (decide (xr_i e = .noMeter))) aNil)))))))) (sRet (xC (.str (PySem.Str.ofString "")))))
def f_l_refused_10 : List D → An D := runDef 6 5 b_l_refused_10
def b_l_billed : SX := (sTry0 (sRet (xApp f_p_with_bill (aCons (xVar 0) (aCons (xVar 1) (aCons (xVar 2) (aCons (xVar 3) (aCons (xVar 4) aNil))))))) (fun e => (sRet (xC .none))))
def f_l_billed : List D → An D := runDef 5 5 b_l_billed
def b_law_10 : SX := (sSeq (sSet 1 (xApp f_l_most_by (aCons (xApp f_l_cell_at (aCons (xVar 0) (aCons (xC (.int 0)) aNil))) aNil))) (sSeq (sSet 2 (xApp f_l_history_by (aCons (xVar 0) (aCons (xOp oMod (xApp f_l_cell_at (aCons (xVar 0) (aCons (xC (.int 4)) aNil))) (xC (.int 9))) (aCons (xVar 1) aNil))))) (sSeq (sSet 3 (xApp f_l_tariffs_by (aCons (xVar 0) (aCons (xC (.int 100)) (aCons (xOp oMod (xApp f_l_cell_at (aCons (xVar 0) (aCons (xC (.int 5)) aNil))) (xC (.int 6))) aNil))))) (sSeq (sSet 4 (xTup aNil)) (sSeq (sFor (iR1 (xOp oMod (xApp f_l_cell_at (aCons (xVar 0) (aCons (xC (.int 6)) aNil))) (xC (.int 9)))) (bName 5) (sSeq (sSet 6 (xApp f_l_mixed (aCons (xVar 0) (aCons (xOp oAdd (xC (.int 70)) (xVar 5)) aNil)))) (sSeq (sSet 7 (xC (.int 0))) (sSeq (sIf (tOf (xOp oGt (xApp oLen (aCons (xVar 4) aNil)) (xC (.int 0)))) (sSet 7 (xOp oIdx (xOp oIdx (xVar 4) (xUn oNeg (xC (.int 1)))) (xC (.int 0)))) sSkip) (sSeq (sSet 8 (xApp oMax (aCons (xC (.int 0)) (aCons (xOp oIdx (xL (aCons (xOp oMod (xOp oFdiv (xVar 6) (xC (.int 4))) (xC (.int 121))) (aCons (xOp oAdd (xVar 7) (xOp oMod (xOp oFdiv (xVar 6) (xC (.int 4))) (xC (.int 20)))) (aCons (xVar 7) (aCons (xOp oSub (xOp oSub (xVar 7) (xC (.int 1))) (xOp oMod (xOp oFdiv (xVar 6) (xC (.int 4))) (xC (.int 9)))) aNil))))) (xOp oMod (xVar 6) (xC (.int 4)))) aNil)))) (sSeq (sSet 9 (xSl (xVar 2) pNo (pAt (xOp oMod (xOp oFdiv (xVar 6) (xC (.int 500))) (xOp oAdd (xApp oLen (aCons (xVar 2) aNil)) (xC (.int 1))))))) (sSeq (sIf (tOf (xOp oEq (xApp oLen (aCons (xVar 9) aNil)) (xC (.int 0)))) (sSeq (sIf (tOf (xOp oNe (xApp f_l_refused_10 (aCons (xVar 9) (aCons (xVar 1) (aCons (xVar 3) (aCons (xVar 4) (aCons (xVar 8) aNil)))))) (xC (.str (PySem.Str.ofString "meter"))))) (sRet (xC (.bool false))) sSkip) sCt) sSkip) (sSeq (sIf (tOf (xOp oLt (xVar 8) (xVar 7))) (sSeq (sIf (tOf (xOp oNe (xApp f_l_refused_10 (aCons (xVar 9) (aCons (xVar 1) (aCons (xVar 3) (aCons (xVar 4) (aCons (xVar 8) aNil)))))) (xC (.str (PySem.Str.ofString "later"))))) (sRet (xC (.bool false))) sSkip) sCt) sSkip) (sSeq (sSet 10 (xApp f_l_billed (aCons (xVar 9) (aCons (xVar 1) (aCons (xVar 3) (aCons (xVar 4) (aCons (xVar 8) aNil))))))) (sSeq (sIf (tOrX (tNotX (tOf (xUn (oIsA "tuple") (xVar 10)))) (tOrX (tOf (xOp oNe (xSl (xVar 10) pNo (pAt (xUn oNeg (xC (.int 1))))) (xVar 4))) (tOrX (tOf (xOp oNe (xApp oLen (aCons (xOp oIdx (xVar 10) (xUn oNeg (xC (.int 1)))) aNil)) (xC (.int 2)))) (tOf (xOp oNe (xOp oIdx (xOp oIdx (xVar 10) (xUn oNeg (xC (.int 1)))) (xC (.int 0))) (xVar 8)))))) (sRet (xC (.bool false))) sSkip) (sSeq (sSet 11 (xApp f_l_owed (aCons (xVar 9) (aCons (xOp oIdx (xApp f_l_account (aCons (xVar 9) (aCons (xVar 1) aNil))) (xC (.int 1))) (aCons (xVar 3) (aCons (xVar 8) aNil)))))) (sSeq (sIf (tOrX (tNotX (tOf (xApp f_l_whole (aCons (xOp oIdx (xOp oIdx (xVar 10) (xUn oNeg (xC (.int 1)))) (xC (.int 1))) aNil)))) (tOrX (tOf (xOp oNe (xApp oSum (aCons (xL (nErr (xLc (iT (xVar 10)) [12] (bName 12) tYesX (xOp oIdx (xVar 12) (xC (.int 1)))))) aNil)) (xVar 11))) (tOf (xOp oNe (xApp f_p_billed (aCons (xVar 10) aNil)) (xVar 11))))) (sRet (xC (.bool false))) sSkip) (sSeq (sIf (tOf (xOp oNe (xApp f_p_owed (aCons (xVar 9) (aCons (xVar 1) (aCons (xVar 3) (aCons (xVar 8) aNil))))) (xVar 11))) (sRet (xC (.bool false))) sSkip) (sSet 4 (xVar 10))))))))))))))) (sRet (xOp oEq (xApp f_p_billed (aCons (xTup aNil) aNil)) (xC (.int 0)))))))))
def f_law_10 : List D → An D := runDef 13 1 b_law_10
end Mg
namespace Mg
open PySem PySem.Spec PyProof.Rows L2
/-! ### bills -/
abbrev I2 := Int × Int
def enc2 (b : I2) : D := .tuple [.int b.1, .int b.2]
def encB (bs : List I2) : D := .tuple (bs.map enc2)
theorem enc2_sh (b : I2) : Sh 1 (enc2 b) := sh_tup (sh_cons sh_int (sh_cons sh_int sh_nil))
theorem enc2_0 (b : I2) : oIdx (enc2 b) (.int 0) = .ok (.int b.1) := idxT_at (by decide) rfl
theorem enc2_1 (b : I2) : oIdx (enc2 b) (.int 1) = .ok (.int b.2) := idxT_at (by decide) rfl
theorem bills_sh (bs : List I2) : ∀ d ∈ bs.map enc2, Sh 1 d := sh_map fun b _ => enc2_sh b
def sumB (bs : List I2) : Int := (bs.map (·.2)).sum
theorem encB_len (bs : List I2) : oLen [encB bs] = .ok (.int bs.length) := by
  show An.ok (PyData.int ((bs.map enc2).length : Int)) = _
  rw [List.length_map]
theorem billed_spec {bs : List I2} (hl : bs.length ≤ 1000) : f_p_billed [encB bs] = .ok (.int (sumB bs)) := by
  refine wp_run rfl ?_
  show Wp b_p_billed [.val (encB bs), .un, .un] _
  unfold b_p_billed
  have e := lc_all (enc := enc2) (src := iT (xVar 0)) (vs := [1, 2]) (b := bTup [1, 2]) (f := xVar 2) (env := [.val (encB bs), .un, .un]) (fun b => PyData.int b.2) bs rfl (ev_itT rfl) (by omega) (fun b _ => ⟨_, rfl, rfl⟩)
  have e2 : (bs.map fun b : I2 => PyData.int b.2) = (bs.map (·.2)).map .int := by rw [List.map_map]; rfl
  rw [e2] at e
  have s := sum_ok (bs.map (·.2))
  exact wp_val (by unfold sumB; walk_at "ev")
def lastB (bs : List I2) : I2 := bs.getD (bs.length - 1) (0, 0)
theorem encB_last {bs : List I2} (hp : 0 < bs.length) : oIdx (encB bs) (.int (-1)) = .ok (enc2 (lastB bs)) := by
  show (match atI (bs.map enc2) (-1) with | some d => An.ok d | none => .bad) = _
  rw [atI_last (d := enc2 (lastB bs)) (by
    rw [List.length_map, List.getElem?_map, List.getElem?_eq_getElem (by omega)]
    unfold lastB
    rw [List.getD_eq_getElem?_getD, List.getElem?_eq_getElem (by omega)]
    rfl)]
theorem lastB_snoc (bs : List I2) (b : I2) : lastB (bs ++ [b]) = b := by
  unfold lastB
  rw [List.getD_eq_getElem?_getD, last_snoc]
  rfl
theorem encB_snoc {bs : List I2} {b : I2} (hl : bs.length ≤ 1000) : oAdd (encB bs) (.tuple [enc2 b]) = .ok (encB (bs ++ [b])) := by
  show oAdd (.tuple _) (.tuple _) = _
  rw [ev_addT (by simp; omega), encB, List.map_append]
  rfl
theorem sumB_snoc (bs : List I2) (b : I2) : sumB (bs ++ [b]) = sumB bs + b.2 := by
  unfold sumB
  rw [List.map_append, List.sum_append]
  simp
theorem wp_setX {i : Nat} {f : EX} {t : SX} {env : Env} {c : Xc} (h : f env = .exc c) : Wp (sSeq (sSet i f) t) env (isOut (.exc c)) := by
  show outAn (((f env).thn env _).thn t) = _
  rw [h]
  rfl
theorem bill_none {mo day : Int} {ts : List Tar} {bs : List I2} : f_p_with_bill [encH [], .int mo, tarsT ts, encB bs, .int day] = .exc .noMeter := by
  refine wp_run rfl ?_
  show Wp b_p_with_bill [.val (encH []), .val (.int mo), .val (tarsT ts), .val (encB bs), .val (.int day), .un] _
  unfold b_p_with_bill
  have ho := owed_none (mo := mo) (day := day) (ts := ts)
  exact wp_setX (by walk_at "ev")
theorem bill_later {h : List Ent} (H : HW h) (h0 : 0 < h.length) {mo : Int} (mo0 : 0 ≤ mo) (mo1 : mo ≤ 1000000000000) {ts : List Tar} (g : ∀ t ∈ ts, GoodT2 t) {day : Int} (d0 : 0 ≤ day) (d1 : day ≤ 20000) {bs : List I2} (hl : bs.length ≤ 1000) (hp : 0 < bs.length) (hd : day < (lastB bs).1) :
    f_p_with_bill [encH h, .int mo, tarsT ts, encB bs, .int day] = .exc .notLater := by
  refine wp_run rfl ?_
  show Wp b_p_with_bill [.val (encH h), .val (.int mo), .val (tarsT ts), .val (encB bs), .val (.int day), .un] _
  unfold b_p_with_bill
  have ho := owed_spec H h0 mo0 mo1 g d0 d1
  have hb := billed_spec hl
  have hL := encB_len bs
  have hq : 0 < (bs.length : Int) := by omega
  have h1 := encB_last hp
  have h2 := enc2_0 (lastB bs)
  refine wp_set (.int (owedT h mo ts day - sumB bs)) (by walk_at "ev") ?_
  exact wp_yes (by walk_at "ev") (wp_raiseS rfl)
theorem bill_ok {h : List Ent} (H : HW h) (h0 : 0 < h.length) {mo : Int} (mo0 : 0 ≤ mo) (mo1 : mo ≤ 1000000000000) {ts : List Tar} (g : ∀ t ∈ ts, GoodT2 t) {day : Int} (d0 : 0 ≤ day) (d1 : day ≤ 20000) {bs : List I2} (hl : bs.length ≤ 1000) (hd : 0 < bs.length → ¬ day < (lastB bs).1) :
    f_p_with_bill [encH h, .int mo, tarsT ts, encB bs, .int day] = .ok (encB (bs ++ [(day, owedT h mo ts day - sumB bs)])) := by
  refine wp_run rfl ?_
  show Wp b_p_with_bill [.val (encH h), .val (.int mo), .val (tarsT ts), .val (encB bs), .val (.int day), .un] _
  unfold b_p_with_bill
  have ho := owed_spec H h0 mo0 mo1 g d0 d1
  have hb := billed_spec hl
  have hL := encB_len bs
  have hs := encB_snoc (b := (day, owedT h mo ts day - sumB bs)) hl
  refine wp_set (.int (owedT h mo ts day - sumB bs)) (by walk_at "ev") ?_
  have fin : Wp (sRet (xOp oAdd (xVar 3) (xTup (aCons (xTup (aCons (xVar 4) (aCons (xVar 5) aNil))) aNil)))) [.val (encH h), .val (.int mo), .val (tarsT ts), .val (encB bs), .val (.int day), .val (.int (owedT h mo ts day - sumB bs))] (isOut (.ok (encB (bs ++ [(day, owedT h mo ts day - sumB bs)])))) := by
    clear ho hb
    generalize owedT h mo ts day - sumB bs = am at *
    unfold enc2 at hs
    exact wp_val (by walk_at "ev")
  by_cases hp : 0 < bs.length
  · have hq : 0 < (bs.length : Int) := by omega
    have h1 := encB_last hp
    have h2 := enc2_0 (lastB bs)
    have h3 := hd hp
    exact wp_no (by walk_at "ev") (wp_skip fin)
  · have hq : ¬ 0 < (bs.length : Int) := by omega
    exact wp_no (by walk_at "ev") (wp_skip fin)
theorem refused_10_spec {h : List Ent} {mo day : Int} {ts : List Tar} {bs : List I2} {c : Xc} {z : Str} (e : f_p_with_bill [encH h, .int mo, tarsT ts, encB bs, .int day] = .exc c) (hc : (c = .noMeter ∧ z = "meter") ∨ (c = .notLater ∧ z = "later")) :
    f_l_refused_10 [encH h, .int mo, tarsT ts, encB bs, .int day] = .ok (.str z) := by
  refine wp_run rfl ?_
  show Wp b_l_refused_10 [.val (encH h), .val (.int mo), .val (tarsT ts), .val (encB bs), .val (.int day), .un] _
  unfold b_l_refused_10
  refine wp_try rfl (x := c) (env1 := [.val (encH h), .val (.int mo), .val (tarsT ts), .val (encB bs), .val (.int day), .un]) (by walk_at "ev") rfl (.str z) ?_ rfl
  rcases hc with ⟨rfl, rfl⟩ | ⟨rfl, rfl⟩
  · rfl
  · rfl
theorem l_billed_spec {h : List Ent} {mo day : Int} {ts : List Tar} {bs : List I2} {d : D} (e : f_p_with_bill [encH h, .int mo, tarsT ts, encB bs, .int day] = .ok d) : f_l_billed [encH h, .int mo, tarsT ts, encB bs, .int day] = .ok d := by
  refine wp_run rfl ?_
  show outAn (b_l_billed [.val (encH h), .val (.int mo), .val (tarsT ts), .val (encB bs), .val (.int day)]) = _
  unfold b_l_billed sTry0
  rw [if_pos (by rfl)]
  have e2 : sRet (xApp f_p_with_bill (aCons (xVar 0) (aCons (xVar 1) (aCons (xVar 2) (aCons (xVar 3) (aCons (xVar 4) aNil)))))) [.val (encH h), .val (.int mo), .val (tarsT ts), .val (encB bs), .val (.int day)] = .ret d := by walk_at "ev"
  rw [e2]
  rfl
/-! ### the first entries of a history -/
theorem hat_take {h : List Ent} {k i : Nat} (hi : i < k) : hat (h.take k) i = hat h i := by
  unfold hat
  rw [List.getD_eq_getElem?_getD, List.getD_eq_getElem?_getD, List.getElem?_take_of_lt hi]
theorem sizeAt_take {h : List Ent} {k p : Nat} (hp : p < k) : sizeAt (h.take k) p = sizeAt h p := by
  unfold sizeAt
  rw [List.take_take, Nat.min_eq_left (by omega)]
theorem HW.take {h : List Ent} (H : HW h) (k : Nat) : HW (h.take k) := by
  have hl : (h.take k).length = min k h.length := List.length_take
  refine ⟨by have := H.len; omega, fun z => ?_, fun i hi => ?_, fun i j hij hj => ?_, fun i hi => ?_⟩
  · rw [hat_take (by omega)]
    exact H.first (by omega)
  · rw [hat_take (by omega), sizeAt_take (by omega)]
    exact H.rest i (by omega)
  · rw [hat_take (by omega), hat_take (by omega)]
    exact H.days i j hij (by omega)
  · rw [hat_take (by omega)]
    exact H.day0 i (by omega)
end Mg
namespace Mg
open PySem PySem.Spec PyProof.Rows L2
theorem cut_but1 {xs : List D} {x : D} : cutD (xs ++ [x]) none (some (-1)) = xs := by
  unfold cutD
  have e : HT.sIx (xs ++ [x]).length (xs ++ [x]).length (some (-1)) = xs.length := by
    show (if (-1 : Int) < 0 then (-1 + ((xs ++ [x]).length : Int)).toNat else min (-1 : Int).toNat (xs ++ [x]).length) = _
    rw [if_pos (by decide), List.length_append, List.length_singleton]
    omega
  rw [e, HT.sIx_none, List.drop_zero, Nat.sub_zero, List.take_append_of_le_length (Nat.le_refl _), List.take_length]
def B10 (ns : List Int) (mo : Int) (h : List Ent) (ts : List Tar) (bs : List I2) (x5 x6 x7 x8 x9 x10 x11 : Slot) : Env := [.val (intsD ns), .val (.int mo), .val (encH h), .val (tarsT ts), .val (encB bs), x5, x6, x7, x8, x9, x10, x11, .un]
theorem law_true_10 : ∀ ns : List Int, ns.length ≤ 63 → f_law_10 [.list (ns.map .int)] = .ok (.bool true) := by
  intro ns hl
  refine wp_run rfl ?_
  show Wp b_law_10 [.val (intsD ns), .un, .un, .un, .un, .un, .un, .un, .un, .un, .un, .un, .un] _
  unfold b_law_10
  obtain ⟨c0, e0⟩ := cell_spec ns 0 (by decide)
  obtain ⟨c4, e4⟩ := cell_spec ns 4 (by decide)
  obtain ⟨c5, e5⟩ := cell_spec ns 5 (by decide)
  obtain ⟨c6, e6⟩ := cell_spec ns 6 (by decide)
  obtain ⟨mo, emo, mo0, mo1⟩ := most_spec c0
  obtain ⟨h, l, s, w, eh, Hi, hlen⟩ := history_spec ns (c4 % 9) mo (by omega) (by omega) mo0 mo1
  have H := Hi.hw (by omega)
  obtain ⟨ts, ets, ris, good, tl⟩ := tariffs_by_spec ns 100 (c5 % 6) (by decide) (by omega) (by omega)
  refine wp_set (.int mo) (by walk_at "ev") ?_
  refine wp_set (encH h) (by walk_at "ev") ?_
  refine wp_set (tarsT ts) (by walk_at "ev") ?_
  refine wp_set (encB []) rfl ?_
  clear eh emo e0 e4 ets Hi
  have hlen2 : h.length ≤ 9 := by omega
  clear hlen
  have hL := encH_len h
  refine wp_rng 0 (c6 % 9).toNat (fun i env => ∃ bs x5 x6 x7 x8 x9 x10 x11, env = B10 ns mo h ts bs x5 x6 x7 x8 x9 x10 x11 ∧ (x5.plain = true ∧ x6.plain = true ∧ x7.plain = true ∧ x8.plain = true ∧ x9.plain = true ∧ x10.plain = true ∧ x11.plain = true) ∧ bs.length ≤ i ∧ 0 ≤ (lastB bs).1 ∧ (lastB bs).1 ≤ 120 + 20 * (i : Int))
    (ev_r1 (n := c6 % 9) (by walk_at "ev") (by omega) (by omega)) ⟨[], _, _, _, _, _, _, _, rfl, ⟨rfl, rfl, rfl, rfl, rfl, rfl, rfl⟩, Nat.le_refl _, by decide, by decide⟩ ?_ ?_
  · rintro i _ hi ⟨bs, x5, x6, x7, x8, x9, x10, x11, rfl, ⟨p5, p6, p7, p8, p9, p10, p11⟩, hbl, hb0, hb1⟩
    refine ⟨_, rfl, ?_⟩
    rw [Int.zero_add]
    show Wp _ [.val (intsD ns), .val (.int mo), .val (encH h), .val (tarsT ts), .val (encB bs), .val (.int i), x6, x7, x8, x9, x10, x11, .un] _
    obtain ⟨n, hn, a0, a1⟩ := mixed_spec ns (70 + (i : Int)) (by omega)
    have hBL := encB_len bs
    refine wp_set (.int n) (by walk_at "ev") ?_
    clear hn
    refine wp_set (.int 0) rfl ?_
    refine wp_P (fun env => env = [.val (intsD ns), .val (.int mo), .val (encH h), .val (tarsT ts), .val (encB bs), .val (.int i), .val (.int n), .val (.int (lastB bs).1), x8, x9, x10, x11, .un]) ?_ ?_
    · by_cases q : 0 < bs.length
      · have hq : 0 < (bs.length : Int) := by omega
        have h1 := encB_last q
        have h2 := enc2_0 (lastB bs)
        exact wp_yes0 (by walk_at "ev") (wp_set0 (.int (lastB bs).1) (by walk_at "ev") (nx_nx rfl))
      · have hq : ¬ 0 < (bs.length : Int) := by omega
        refine wp_no0 (by walk_at "ev") (wp_skip0 (nx_nx ?_))
        have hz : bs = [] := List.length_eq_zero_iff.mp (by omega)
        subst hz
        rfl
    rintro _ rfl
    obtain ⟨y, hy, y0⟩ := pick (xs := [n / 4 % 121, (lastB bs).1 + n / 4 % 20, (lastB bs).1, (lastB bs).1 - 1 - n / 4 % 9]) (k := n % 4) (fun x => x ≤ 120 + 20 * (i : Int) + 20) (by simp; omega) (by omega) (by show n % 4 < 4; omega)
    simp only [List.map_cons, List.map_nil] at hy
    obtain ⟨day, hday, d0, d1⟩ : ∃ day : Int, (if y > 0 then y else 0) = day ∧ 0 ≤ day ∧ day ≤ 120 + 20 * (i : Int) + 20 := ⟨_, rfl, by split <;> omega, by split <;> omega⟩
    refine wp_set (.int day) (by walk_at "ev") ?_
    clear hy hday y0 y
    have p := emod_mul_lt' (n / 500) (show 0 < (h.length : Int) + 1 by omega)
    obtain ⟨k, hk, hk2⟩ : ∃ k : Nat, n / 500 % ((h.length : Int) + 1) = (k : Int) ∧ k ≤ h.length := ⟨(n / 500 % ((h.length : Int) + 1)).toNat, by omega, by omega⟩
    have hcut : oSl (encH h) none (some (k : Int)) = .ok (encH (h.take k)) := by
      show An.ok (PyData.tuple (cutD (h.map encE) none (some (k : Int)))) = _
      rw [cut_to, ← List.map_take]
      rfl
    refine wp_set (encH (h.take k)) (by walk_at "ev") ?_
    clear hcut hk p
    have HK := H.take k
    have hKL := encH_len (h.take k)
    generalize h.take k = hk at *
    have ctx : ∀ (c : Xc) (z : Str), f_p_with_bill [encH hk, .int mo, tarsT ts, encB bs, .int day] = .exc c → ((c = .noMeter ∧ z = "meter") ∨ (c = .notLater ∧ z = "later")) → f_l_refused_10 [encH hk, .int mo, tarsT ts, encB bs, .int day] = .ok (.str z) := fun c z e hc => refused_10_spec e hc
    by_cases z : hk.length = 0
    · have e : hk = [] := List.length_eq_zero_iff.mp z
      have hr := ctx .noMeter "meter" (by rw [e]; exact bill_none) (.inl ⟨rfl, rfl⟩)
      have hz : (hk.length : Int) = 0 := by omega
      have hs : decide (("meter" : Str) = "meter") = true := decide_eq_true rfl
      clear e ctx z
      refine wp_yes (by walk_at "ev") (wp_assoc ?_)
      refine wp_no (by walk_at "ev") (wp_skip (wp_ct (turn_ct ?_)))
      exact ⟨bs, .val (.int i), .val (.int n), .val (.int (lastB bs).1), .val (.int day), .val (encH hk), x10, x11, rfl, ⟨rfl, rfl, rfl, rfl, rfl, p10, p11⟩, by omega, hb0, by omega⟩
    · have h0 : 0 < hk.length := by omega
      have hz : ¬ (hk.length : Int) = 0 := by omega
      refine wp_no (by walk_at "ev") (wp_skip ?_)
      by_cases q : day < (lastB bs).1
      · have hp : 0 < bs.length := by
          by_cases g : 0 < bs.length
          · exact g
          · have : bs = [] := List.length_eq_zero_iff.mp (by omega)
            subst this
            have : day < 0 := q
            omega
        have hr := ctx .notLater "later" (bill_later HK h0 mo0 mo1 good d0 (by omega) (by omega) hp q) (.inr ⟨rfl, rfl⟩)
        have hs : decide (("later" : Str) = "later") = true := decide_eq_true rfl
        clear ctx
        refine wp_yes (by walk_at "ev") (wp_assoc ?_)
        refine wp_no (by walk_at "ev") (wp_skip (wp_ct (turn_ct ?_)))
        exact ⟨bs, .val (.int i), .val (.int n), .val (.int (lastB bs).1), .val (.int day), .val (encH hk), x10, x11, rfl, ⟨rfl, rfl, rfl, rfl, rfl, p10, p11⟩, by omega, hb0, by omega⟩
      · clear ctx
        refine wp_no (by walk_at "ev") (wp_skip ?_)
        have hb := l_billed_spec (bill_ok HK h0 mo0 mo1 good d0 (show day ≤ 20000 by omega) (show bs.length ≤ 1000 by omega) (fun _ => q))
        have ho := owed_spec HK h0 mo0 mo1 good d0 (show day ≤ 20000 by omega)
        have hlo := l_owed_spec HK h0 mo good d0 (show day ≤ 20000 by omega)
        have ha := account_spec HK mo0 mo1
        have hx : oIdx (.tuple [.list (nl (pts hk mo)), .list ((spL hk (pts hk mo)).map enc3)]) (.int 1) = .ok (.list ((spL hk (pts hk mo)).map enc3)) := idxT_at (by decide) rfl
        have hsum := sumB_snoc bs (day, owedT hk mo ts day - sumB bs)
        have hsum : sumB (bs ++ [(day, owedT hk mo ts day - sumB bs)]) = owedT hk mo ts day := by
          rw [hsum]
          show sumB bs + (owedT hk mo ts day - sumB bs) = _
          omega
        generalize owedT hk mo ts day = due at *
        have hls := lastB_snoc bs (day, due - sumB bs)
        have hnl : (bs ++ [(day, due - sumB bs)]).length = bs.length + 1 := by simp
        have hcut : oSl (encB (bs ++ [(day, due - sumB bs)])) none (some (-1)) = .ok (encB bs) := by
          show An.ok (PyData.tuple (cutD ((bs ++ [(day, due - sumB bs)]).map enc2) none (some (-1)))) = _
          rw [List.map_append, List.map_cons, List.map_nil, cut_but1]
          rfl
        have hlb := encB_last (bs := bs ++ [(day, due - sumB bs)]) (by simp)
        rw [hls] at hlb
        have hbd := billed_spec (bs := bs ++ [(day, due - sumB bs)]) (by simp; omega)
        rw [hsum] at hbd
        have hso := sum_ok ((bs ++ [(day, due - sumB bs)]).map (·.2))
        rw [show ((bs ++ [(day, due - sumB bs)]).map (·.2)).sum = sumB (bs ++ [(day, due - sumB bs)]) from rfl, hsum] at hso
        have n1 : oNe (encB bs) (encB bs) = .ok (.bool false) := neT_sh (bills_sh bs) (by decide)
        have ia : oIsA "tuple" (encB (bs ++ [(day, due - sumB bs)])) = .ok (.bool true) := isA_tup
        have b0 := enc2_0 (day, due - sumB bs)
        have b1 := enc2_1 (day, due - sumB bs)
        have b2 : oLen [enc2 (day, due - sumB bs)] = .ok (.int 2) := rfl
        dsimp only at b0 b1
        clear hsum
        generalize hB : bs ++ [(day, due - sumB bs)] = bs2 at *
        generalize due - sumB bs = am at *
        refine wp_set (encB bs2) (by walk_at "ev") ?_
        clear hb
        have t1 : decide (day = day) = true := decide_eq_true rfl
        have t2 : decide (due = due) = true := decide_eq_true rfl
        have t3 : decide ((2 : Int) = 2) = true := decide_eq_true rfl
        refine wp_no (by walk_at "ev") (wp_skip ?_)
        clear hcut n1 ia b0 b2 t1 t3
        refine wp_set (.int due) (by walk_at "ev") ?_
        clear hlo ha hx
        have hw := whole_int
        have hc := lc_all (enc := enc2) (src := iT (xVar 10)) (vs := [12]) (b := bName 12) (f := xOp oIdx (xVar 12) (xC (.int 1))) (env := [.val (intsD ns), .val (.int mo), .val (encH h), .val (tarsT ts), .val (encB bs), .val (.int i), .val (.int n), .val (.int (lastB bs).1), .val (.int day), .val (encH hk), .val (encB bs2), .val (.int due), .un]) (fun b => PyData.int b.2) bs2 rfl (ev_itT rfl) (by omega) (fun b _ => ⟨_, rfl, enc2_1 b⟩)
        have e2 : (bs2.map fun b : I2 => PyData.int b.2) = (bs2.map (·.2)).map .int := by rw [List.map_map]; rfl
        rw [e2] at hc
        generalize (bs2.map (·.2)).map PyData.int = us at *
        refine wp_no (by walk_at "ev") (wp_skip ?_)
        clear hc hso hbd hlb b1 hw
        refine wp_no (by walk_at "ev") (wp_skip ?_)
        refine wp_set0 (encB bs2) rfl (turn_nx ?_)
        exact ⟨bs2, .val (.int i), .val (.int n), .val (.int (lastB bs).1), .val (.int day), .val (encH hk), .val (encB bs2), .val (.int due), rfl, ⟨rfl, rfl, rfl, rfl, rfl, rfl, rfl⟩, by omega, by rw [hls]; exact d0, by rw [hls]; show day ≤ _; omega⟩
  · rintro _ ⟨bs, x5, x6, x7, x8, x9, x10, x11, rfl, _⟩
    have hb : f_p_billed [.tuple []] = .ok (.int 0) := billed_spec (bs := []) (by decide)
    unfold B10
    exact wp_val (by walk_at "ev")
end Mg
namespace Mg
open PySem PySem.Spec PyProof.Rows L2
/-! ### entries put in -/
def lastDay (h : List Ent) : Int := (hat h (h.length - 1)).day
def lastSize (h : List Ent) : Int := sizeAt h (h.length - 1)
theorem raise_eq {x : Xc} {t : SX} {env : Env} : outAn (sSeq (sRaise x) t env) = .exc x := rfl
theorem begun_stands {h : List Ent} {d s v : Int} (hp : 0 < h.length) : f_p_begun [encH h, .int d, .int s, .int v] = .exc .stands := by
  refine wp_run rfl ?_
  show Wp b_p_begun [.val (encH h), .val (.int d), .val (.int s), .val (.int v)] _
  unfold b_p_begun
  have hl := encH_len h
  have hq : 0 < (h.length : Int) := by omega
  exact wp_yes (by walk_at "ev") (wp_raiseS rfl)
theorem begun_value {h : List Ent} {d s v : Int} (hp : h.length = 0) (hv : s ≤ v) : f_p_begun [encH h, .int d, .int s, .int v] = .exc .noValue := by
  refine wp_run rfl ?_
  show Wp b_p_begun [.val (encH h), .val (.int d), .val (.int s), .val (.int v)] _
  unfold b_p_begun
  have hl := encH_len h
  have hq : ¬ 0 < (h.length : Int) := by omega
  clear hp
  refine wp_no (by walk_at "ev") (wp_skip ?_)
  exact wp_yes (by walk_at "ev") (wp_raiseS rfl)
theorem begun_ok {h : List Ent} {d s v : Int} (hp : h.length = 0) (hv : ¬ s ≤ v) : f_p_begun [encH h, .int d, .int s, .int v] = .ok (encH [.st d s v]) := by
  refine wp_run rfl ?_
  show Wp b_p_begun [.val (encH h), .val (.int d), .val (.int s), .val (.int v)] _
  unfold b_p_begun
  have hl := encH_len h
  have hq : ¬ 0 < (h.length : Int) := by omega
  clear hp
  refine wp_no (by walk_at "ev") (wp_skip ?_)
  refine wp_no (by walk_at "ev") (wp_skip ?_)
  exact wp_val rfl
theorem later_none {h : List Ent} {d : Int} (hp : h.length = 0) : f_p_need_later [encH h, .int d] = .exc .noMeter := by
  refine wp_run rfl ?_
  show Wp b_p_need_later [.val (encH h), .val (.int d)] _
  unfold b_p_need_later
  have hl := encH_len h
  have hq : (h.length : Int) = 0 := by omega
  clear hp
  exact wp_yes (by walk_at "ev") (wp_raiseS rfl)
theorem later_not {h : List Ent} {d : Int} (hp : 0 < h.length) (hd : d ≤ lastDay h) : f_p_need_later [encH h, .int d] = .exc .notLater := by
  refine wp_run rfl ?_
  show Wp b_p_need_later [.val (encH h), .val (.int d)] _
  unfold b_p_need_later
  have hl := encH_len h
  have hq : ¬ (h.length : Int) = 0 := by omega
  have h1 := encH_last hp
  have h2 := encE_1 (hat h (h.length - 1))
  unfold lastDay at hd
  refine wp_no (by walk_at "ev") (wp_skip ?_)
  exact wp_yes0 (by walk_at "ev") (wp_raise rfl)
theorem later_ok {h : List Ent} {d : Int} (hp : 0 < h.length) (hd : ¬ d ≤ lastDay h) : f_p_need_later [encH h, .int d] = .ok .none := by
  refine wp_run rfl ?_
  show Wp b_p_need_later [.val (encH h), .val (.int d)] _
  unfold b_p_need_later
  have hl := encH_len h
  have hq : ¬ (h.length : Int) = 0 := by omega
  have h1 := encH_last hp
  have h2 := encE_1 (hat h (h.length - 1))
  unfold lastDay at hd
  refine wp_no (by walk_at "ev") (wp_skip ?_)
  exact wp_no0 (by walk_at "ev") (wp_skip0 rfl)
theorem size_last {h : List Ent} (hp : 0 < h.length) : f_p_size_at [encH h, .int ((h.length : Int) - 1)] = .ok (.int (lastSize h)) := by
  have := size_at_spec (h := h) (h.length - 1)
  rw [show ((h.length - 1 : Nat) : Int) = (h.length : Int) - 1 by omega] at this
  exact this
theorem add_ent {h : List Ent} {e : Ent} (hl : h.length ≤ 1000) : oAdd (encH h) (.tuple [encE e]) = .ok (encH (h ++ [e])) := by
  show oAdd (.tuple _) (.tuple _) = _
  rw [ev_addT (by simp; omega), encH, List.map_append]
  rfl
section
variable {h : List Ent} {d v l s f : Int} {c : Xc}
theorem drop_exc {g : EX} {env : Env} {t : SX} (e : g env = .exc c) : Wp (sSeq (sDrop g) t) env (isOut (.exc c)) := by
  show outAn (((g env).thn env _).thn t) = _
  rw [e]
  rfl
theorem drop_ok {g : EX} {env : Env} {t : SX} {Q : Out → Prop} {x : D} (e : g env = .ok x) (q : Wp t env Q) : Wp (sSeq (sDrop g) t) env Q := by
  show Q (((g env).thn env _).thn t)
  rw [e]
  exact q
theorem read_exc (he : f_p_need_later [encH h, .int d] = .exc c) : f_p_read_on [encH h, .int d, .int v] = .exc c := by
  refine wp_run rfl ?_
  show Wp b_p_read_on [.val (encH h), .val (.int d), .val (.int v)] _
  unfold b_p_read_on
  exact drop_exc (by walk_at "ev")
theorem read_value (hp : 0 < h.length) (hd : ¬ d ≤ lastDay h) (hv : lastSize h ≤ v) : f_p_read_on [encH h, .int d, .int v] = .exc .noValue := by
  refine wp_run rfl ?_
  show Wp b_p_read_on [.val (encH h), .val (.int d), .val (.int v)] _
  unfold b_p_read_on
  have he := later_ok hp hd
  have hl := encH_len h
  have hs := size_last hp
  refine drop_ok (x := .none) (by walk_at "ev") ?_
  exact wp_yes (by walk_at "ev") (wp_raiseS rfl)
theorem read_ok (hl2 : h.length ≤ 1000) (hp : 0 < h.length) (hd : ¬ d ≤ lastDay h) (hv : ¬ lastSize h ≤ v) : f_p_read_on [encH h, .int d, .int v] = .ok (encH (h ++ [.rd d v false])) := by
  refine wp_run rfl ?_
  show Wp b_p_read_on [.val (encH h), .val (.int d), .val (.int v)] _
  unfold b_p_read_on
  have he := later_ok hp hd
  have hl := encH_len h
  have hs := size_last hp
  refine drop_ok (x := .none) (by walk_at "ev") ?_
  refine wp_no (by walk_at "ev") (wp_skip ?_)
  have ha := add_ent (h := h) (e := .rd d v false) hl2
  exact wp_val (by unfold encE at ha; walk_at "ev")
theorem changed_exc (he : f_p_need_later [encH h, .int d] = .exc c) : f_p_changed_on [encH h, .int d, .int l, .int s, .int f] = .exc c := by
  refine wp_run rfl ?_
  show Wp b_p_changed_on [.val (encH h), .val (.int d), .val (.int l), .val (.int s), .val (.int f)] _
  unfold b_p_changed_on
  exact drop_exc (by walk_at "ev")
theorem changed_value (hp : 0 < h.length) (hd : ¬ d ≤ lastDay h) (hv : lastSize h ≤ l ∨ s ≤ f) : f_p_changed_on [encH h, .int d, .int l, .int s, .int f] = .exc .noValue := by
  refine wp_run rfl ?_
  show Wp b_p_changed_on [.val (encH h), .val (.int d), .val (.int l), .val (.int s), .val (.int f)] _
  unfold b_p_changed_on
  have he := later_ok hp hd
  have hl := encH_len h
  have hs := size_last hp
  refine drop_ok (x := .none) (by walk_at "ev") ?_
  by_cases q : lastSize h ≤ l
  · exact wp_yes (by walk_at "ev") (wp_raiseS rfl)
  · have q2 : s ≤ f := by omega
    exact wp_yes (by walk_at "ev") (wp_raiseS rfl)
theorem changed_ok (hl2 : h.length ≤ 1000) (hp : 0 < h.length) (hd : ¬ d ≤ lastDay h) (hv : ¬ lastSize h ≤ l) (hf : ¬ s ≤ f) : f_p_changed_on [encH h, .int d, .int l, .int s, .int f] = .ok (encH (h ++ [.ch d l s f])) := by
  refine wp_run rfl ?_
  show Wp b_p_changed_on [.val (encH h), .val (.int d), .val (.int l), .val (.int s), .val (.int f)] _
  unfold b_p_changed_on
  have he := later_ok hp hd
  have hl := encH_len h
  have hs := size_last hp
  refine drop_ok (x := .none) (by walk_at "ev") ?_
  refine wp_no (by walk_at "ev") (wp_skip ?_)
  have ha := add_ent (h := h) (e := .ch d l s f) hl2
  exact wp_val (by unfold encE at ha; walk_at "ev")
end
/-- a history as the program grows it -/
structure VH (h : List Ent) : Prop where
  first : 0 < h.length → ∃ d s v, hat h 0 = .st d s v ∧ 2 ≤ s
  rest : ∀ i, i + 1 < h.length → (∃ d v k, hat h (i + 1) = .rd d v k) ∨ ∃ d l s f, hat h (i + 1) = .ch d l s f ∧ 2 ≤ s
theorem VH.nil : VH [] := ⟨fun h => absurd h (by decide), fun i h => by simp at h⟩
theorem VH.size {h : List Ent} (H : VH h) : ∀ i, i < h.length → 2 ≤ sizeAt h i
  | 0, hi => by
    obtain ⟨d, s, v, e, h1⟩ := H.first hi
    rw [sizeAt_zero hi, e]
    exact h1
  | i + 1, hi => by
    rw [sizeAt_succ hi]
    rcases H.rest i hi with ⟨d, v, k, e⟩ | ⟨d, l, s, f, e, h1⟩
    · rw [e]
      exact H.size i (by omega)
    · rw [e]
      exact h1
theorem VH.snoc {h : List Ent} (H : VH h) {e : Ent} (he : (0 < h.length ∧ ((∃ d v k, e = .rd d v k) ∨ ∃ d l s f, e = .ch d l s f ∧ 2 ≤ s)) ∨ (h.length = 0 ∧ ∃ d s v, e = .st d s v ∧ 2 ≤ s)) : VH (h ++ [e]) := by
  rcases he with ⟨hp, he⟩ | ⟨hz, d, s, v, rfl, hs⟩
  · refine ⟨fun _ => ?_, fun i hi => ?_⟩
    · rw [hat_app hp]
      exact H.first hp
    · rw [List.length_append, List.length_singleton] at hi
      by_cases q : i + 1 < h.length
      · rw [hat_app q]
        exact H.rest i q
      · rw [show i + 1 = h.length by omega, hat_app_last]
        rcases he with ⟨d, v, k, rfl⟩ | ⟨d, l, s, f, rfl, h1⟩
        · exact .inl ⟨d, v, k, rfl⟩
        · exact .inr ⟨d, l, s, f, rfl, h1⟩
  · have : h = [] := List.length_eq_zero_iff.mp hz
    subst this
    exact ⟨fun _ => ⟨d, s, v, rfl, hs⟩, fun i hi => by simp at hi⟩
def szI (h : List Ent) (i : Nat) : List D := (List.range i).map fun j : Nat => PyData.int (sizeAt h j)
def szs (h : List Ent) : List D := (List.range h.length).map fun i : Nat => PyData.int (sizeAt h i)
theorem sizes_spec {h : List Ent} (H : VH h) (hl : h.length ≤ 1000) : f_l_sizes [encH h] = .ok (.list (szs h)) := by
  refine wp_run rfl ?_
  show Wp b_l_sizes [.val (encH h), .un, .un] _
  unfold b_l_sizes
  refine wp_own [] rfl ?_
  refine wp_list (h.map encE) (fun i env => ∃ x, env = [.val (encH h), .own ((List.range i).map fun i : Nat => PyData.int (sizeAt h i)), x]) (ev_itT rfl) ⟨_, rfl⟩ ?_ ?_
  · rintro i d _ hd ⟨x, rfl⟩
    have hi : i < h.length := by
      have := (List.getElem?_eq_some_iff.mp hd).1
      simpa using this
    rw [List.getElem?_map, hat_get hi] at hd
    cases hd
    refine ⟨_, rfl, ?_⟩
    show Wp _ [.val (encH h), .own ((List.range i).map fun i : Nat => PyData.int (sizeAt h i)), .val (encE (hat h i))] _
    have hlen : ((List.range i).map fun i : Nat => PyData.int (sizeAt h i)).length ≤ 100000 := by simp; omega
    have a1 := k_rs
    have a2 := k_cs
    have a3 := k_rc
    rw [List.range_succ, List.map_append, List.map_cons, List.map_nil]
    cases i with
    | zero =>
      obtain ⟨d, s, v, e, _⟩ := H.first hi
      rw [sizeAt_zero hi, e]
      have h0 := st_0 (d := d) (s := s) (v := v)
      have h2 := st_2 (d := d) (s := s) (v := v)
      exact wp_yes0 (by walk_at "ev") (wp_app0 _ (.int s) rfl hlen (by exact h2) (turn_nx ⟨_, rfl⟩))
    | succ i =>
      have hlast : oIdxL ((List.range (i + 1)).map fun i : Nat => PyData.int (sizeAt h i)) (.int (-1)) = .ok (.int (sizeAt h i)) := by
        show (match atI ((List.range (i + 1)).map fun i : Nat => PyData.int (sizeAt h i)) (-1) with | some d => An.ok d | none => .bad) = _
        rw [atI_last (d := .int (sizeAt h i)) (by simp)]
      rw [sizeAt_succ hi]
      rcases H.rest i hi with ⟨d, v, k, e⟩ | ⟨d, l, s, f, e, _⟩
      · rw [e]
        have h0 := rd_0 (d := d) (v := v) (k := k)
        exact wp_no0 (by walk_at "ev") (wp_no0 (by walk_at "ev") (wp_app0 _ (.int (sizeAt h i)) rfl hlen (by exact hlast) (turn_nx ⟨_, rfl⟩)))
      · rw [e]
        have h0 := ch_0 (d := d) (l := l) (s := s) (f := f)
        have h3 := ch_3 (d := d) (l := l) (s := s) (f := f)
        exact wp_no0 (by walk_at "ev") (wp_yes0 (by walk_at "ev") (wp_app0 _ (.int s) rfl hlen (by exact h3) (turn_nx ⟨_, rfl⟩)))
  · rintro _ ⟨x, rfl⟩
    rw [List.length_map]
    exact wp_frz (szs h) rfl (wp_val rfl)
end Mg
namespace Mg
open PySem PySem.Spec PyProof.Rows L2
theorem turn_04 {h : List Ent} {kind day v0 v1 size other : Int} (H : VH h) (hl : h.length ≤ 1000) (hs : 0 < h.length → size = lastSize h) (ho : 2 ≤ other) :
    (∃ c k, f_l_done [encH h, .int kind, .int day, .list [.int v0, .int v1], .int other] = .exc c ∧ f_l_due [encH h, .int kind, .int day, .list [.int v0, .int v1], .int size, .int other] = .ok (.int k) ∧ h_l_classes c = .int k) ∨
    ∃ e, f_l_done [encH h, .int kind, .int day, .list [.int v0, .int v1], .int other] = .ok (encH (h ++ [e])) ∧ f_l_due [encH h, .int kind, .int day, .list [.int v0, .int v1], .int size, .int other] = .ok (.int 4) ∧ f_l_entry [.int kind, .int day, .list [.int v0, .int v1], .int other] = .ok (encE e) ∧ VH (h ++ [e]) ∧ (1 < kind → ∃ d v k, e = .rd d v k) := by
  have x0 : oIdx (.list [.int v0, .int v1]) (.int 0) = .ok (.int v0) := idx_at (by decide) rfl
  have x1 : oIdx (.list [.int v0, .int v1]) (.int 1) = .ok (.int v1) := idx_at (by decide) rfl
  have y0 : oIdx (.list [.int 4, .int 3]) (.int 0) = .ok (.int 4) := idx_at (by decide) rfl
  have y1 : oIdx (.list [.int 4, .int 3]) (.int 1) = .ok (.int 3) := idx_at (by decide) rfl
  have hL := encH_len h
  have hdone : ∀ r, outAn (b_l_done [.val (encH h), .val (.int kind), .val (.int day), .val (.list [.int v0, .int v1]), .val (.int other)]) = r → f_l_done [encH h, .int kind, .int day, .list [.int v0, .int v1], .int other] = r := fun r q => (run_eq rfl).trans q
  have hdue : ∀ r, outAn (b_l_due [.val (encH h), .val (.int kind), .val (.int day), .val (.list [.int v0, .int v1]), .val (.int size), .val (.int other)]) = r → f_l_due [encH h, .int kind, .int day, .list [.int v0, .int v1], .int size, .int other] = r := fun r q => (run_eq rfl).trans q
  have hent : ∀ r, outAn (b_l_entry [.val (.int kind), .val (.int day), .val (.list [.int v0, .int v1]), .val (.int other)]) = r → f_l_entry [.int kind, .int day, .list [.int v0, .int v1], .int other] = r := fun r q => (run_eq rfl).trans q
  unfold b_l_done at hdone
  unfold b_l_due at hdue
  unfold b_l_entry at hent
  by_cases k0 : kind = 0
  · subst k0
    by_cases hp : 0 < h.length
    · have hq : 0 < (h.length : Int) := by omega
      have hb := begun_stands (d := day) (s := other) (v := v1) hp
      exact .inl ⟨.stands, 1, hdone _ (by walk_at "ev"), hdue _ (by walk_at "ev"), rfl⟩
    · have hz : h.length = 0 := by omega
      have hq : ¬ 0 < (h.length : Int) := by omega
      by_cases hv : other ≤ v1
      · have hb := begun_value (d := day) hz hv
        clear hz
        exact .inl ⟨.noValue, 3, hdone _ (by walk_at "ev"), hdue _ (by walk_at "ev"), rfl⟩
      · have hb := begun_ok (d := day) hz hv
        have hV : VH (h ++ [.st day other v1]) := H.snoc (.inr ⟨hz, _, _, _, rfl, ho⟩)
        have he : [Ent.st day other v1] = h ++ [.st day other v1] := by rw [List.length_eq_zero_iff.mp hz, List.nil_append]
        rw [he] at hb
        refine .inr ⟨.st day other v1, hdone _ ?_, hdue _ ?_, hent _ ?_, hV, fun z => absurd z (by decide)⟩
        · clear hz he hdue hent
          generalize encH (h ++ [.st day other v1]) = r at *
          walk_at "ev"
        · clear hz he hb
          walk_at "ev"
        · clear hz he hb
          unfold encE
          walk_at "ev"
  · by_cases hp : 0 < h.length
    · have hz : ¬ (h.length : Int) = 0 := by omega
      have hs := hs hp
      subst hs
      have l1 := encH_last hp
      have l2 := encE_1 (hat h (h.length - 1))
      have hld : (hat h (h.length - 1)).day = lastDay h := rfl
      rw [hld] at l2
      by_cases hd : day ≤ lastDay h
      · have hn := later_not hp hd
        have e1 := changed_exc (l := v0) (s := other) (f := v1) hn
        have e2 := read_exc (v := v0) hn
        refine .inl ⟨.notLater, 2, hdone _ ?_, hdue _ (by walk_at "ev"), rfl⟩
        by_cases k1 : kind = 1
        · subst k1
          walk_at "ev"
        · walk_at "ev"
      · by_cases k1 : kind = 1
        · subst k1
          by_cases hv : lastSize h ≤ v0
          · have e1 := changed_value (l := v0) (s := other) (f := v1) hp hd (.inl hv)
            exact .inl ⟨.noValue, 3, hdone _ (by walk_at "ev"), hdue _ (by walk_at "ev"), rfl⟩
          · by_cases hf : other ≤ v1
            · have e1 := changed_value (l := v0) (s := other) (f := v1) hp hd (.inr hf)
              exact .inl ⟨.noValue, 3, hdone _ (by walk_at "ev"), hdue _ (by walk_at "ev"), rfl⟩
            · have e1 := changed_ok (l := v0) (s := other) (f := v1) hl hp hd hv hf
              have hV : VH (h ++ [.ch day v0 other v1]) := H.snoc (.inl ⟨hp, .inr ⟨_, _, _, _, rfl, ho⟩⟩)
              refine .inr ⟨.ch day v0 other v1, hdone _ (by walk_at "ev"), hdue _ (by walk_at "ev"), hent _ ?_, hV, fun z => absurd z (by decide)⟩
              unfold encE
              walk_at "ev"
        · by_cases hv : lastSize h ≤ v0
          · have e1 := read_value (v := v0) hp hd hv
            exact .inl ⟨.noValue, 3, hdone _ (by walk_at "ev"), hdue _ (by walk_at "ev"), rfl⟩
          · have e1 := read_ok (v := v0) hl hp hd hv
            have hV : VH (h ++ [.rd day v0 false]) := H.snoc (.inl ⟨hp, .inl ⟨_, _, _, rfl⟩⟩)
            refine .inr ⟨.rd day v0 false, hdone _ (by walk_at "ev"), hdue _ (by walk_at "ev"), hent _ ?_, hV, fun _ => ⟨_, _, _, rfl⟩⟩
            unfold encE
            walk_at "ev"
    · have hz0 : h.length = 0 := by omega
      have hz : (h.length : Int) = 0 := by omega
      have hn := later_none (d := day) hz0
      have e1 := changed_exc (l := v0) (s := other) (f := v1) hn
      have e2 := read_exc (v := v0) hn
      clear hz0
      refine .inl ⟨.noMeter, 0, hdone _ ?_, hdue _ (by walk_at "ev"), rfl⟩
      by_cases k1 : kind = 1
      · subst k1
        walk_at "ev"
      · walk_at "ev"
theorem value_of_spec (n s : Int) (hs : 2 ≤ s) : ∃ v : Int, f_l_value_of [.int n, .int s] = .ok (.int v) := by
  obtain ⟨v, e, _⟩ := pick (xs := [n / 3 % s, n / 3 % s, s - 1, s]) (k := n % 4) (fun _ => True) (fun _ _ => trivial) (by omega) (by show n % 4 < 4; omega)
  simp only [List.map_cons, List.map_nil] at e
  refine ⟨v, wp_run rfl ?_⟩
  show Wp b_l_value_of [.val (.int n), .val (.int s)] _
  unfold b_l_value_of
  exact wp_val (by walk_at "ev")
theorem day_by_spec {h : List Ent} (n : Int) : ∃ d : Int, f_l_day_by [encH h, .int n] = .ok (.int d) := by
  have hL := encH_len h
  have key : ∃ last : Int, ∀ (t : SX) (Q : Out → Prop), Wp t [.val (encH h), .val (.int n), .val (.int last)] Q → Wp (sSeq (sSet 2 (xC (.int 0))) (sSeq (sIf (tOf (xOp oGt (xApp oLen (aCons (xVar 0) aNil)) (xC (.int 0)))) (sSet 2 (xOp oIdx (xOp oIdx (xVar 0) (xUn oNeg (xC (.int 1)))) (xC (.int 1)))) sSkip) t)) [.val (encH h), .val (.int n), .un] Q := by
    by_cases hp : 0 < h.length
    · have hq : 0 < (h.length : Int) := by omega
      have l1 := encH_last hp
      have l2 := encE_1 (hat h (h.length - 1))
      refine ⟨(hat h (h.length - 1)).day, fun t Q q => wp_set (.int 0) rfl (wp_yes (by walk_at "ev") (wp_set (.int (hat h (h.length - 1)).day) (by walk_at "ev") q))⟩
    · have hq : ¬ 0 < (h.length : Int) := by omega
      exact ⟨0, fun t Q q => wp_set (.int 0) rfl (wp_no (by walk_at "ev") (wp_skip q))⟩
  obtain ⟨last, key⟩ := key
  obtain ⟨x, e, _⟩ := pick (xs := [last + 1 + n % 9, last + 1, last, last - 1, n % 300]) (k := n / 9 % 5) (fun _ => True) (fun _ _ => trivial) (by omega) (by show n / 9 % 5 < 5; omega)
  simp only [List.map_cons, List.map_nil] at e
  refine ⟨if (if x > 0 then x else 0) < 2000 then (if x > 0 then x else 0) else 2000, wp_run rfl ?_⟩
  show Wp b_l_day_by [.val (encH h), .val (.int n), .un] _
  unfold b_l_day_by
  refine key _ _ (wp_val ?_)
  walk_at "ev"
theorem ev_hot {i : Nat} {d : D} {env : Env} : xHot i d env = (match env[i]? with | some .err => .ok d | _ => .bad) := rfl
theorem set_exc {i : Nat} {f : EX} {env : Env} {c : Xc} (h : f env = .exc c) : sSet i f env = .exc c env := by
  show (f env).thn env _ = _
  rw [h]
  rfl
theorem law_true_04 : ∀ ns : List Int, ns.length ≤ 63 → f_law_04 [.list (ns.map .int)] = .ok (.bool true) := by
  intro ns hl
  refine wp_run rfl ?_
  show Wp b_law_04 [.val (intsD ns), .un, .un, .un, .un, .un, .un, .un, .un, .un, .un, .un, .un, .un] _
  unfold b_law_04
  obtain ⟨c0, e0⟩ := cell_spec ns 0 (by decide)
  refine wp_set (encH []) rfl ?_
  obtain ⟨m, hm, hm2⟩ : ∃ m : Nat, m ≤ 32 ∧ oLen [.list (cutD (ns.map .int) (some 2) (some 32))] = .ok (.int m) := by
    refine ⟨(cutD (ns.map .int) (some 2) (some 32)).length, ?_, rfl⟩
    have e1 := HT.sIx_nat (ns.map PyData.int).length 0 2
    have e2 := HT.sIx_nat (ns.map PyData.int).length (ns.map PyData.int).length 32
    unfold cutD
    rw [show (some 2 : Option Int) = some ((2 : Nat) : Int) from rfl, show (some 32 : Option Int) = some ((32 : Nat) : Int) from rfl, e1, e2, List.length_take]
    omega
  refine wp_rng 0 m (fun i env => ∃ h x2 x3 x4 x5 x6 x7 x8 x9 x10 x11 x13, env = [.val (intsD ns), .val (encH h), x2, x3, x4, x5, x6, x7, x8, x9, x10, x11, .un, x13] ∧ VH h ∧ h.length ≤ i ∧ x13.plain = true ∧ noErr env = true) (by
    rw [ev_r1 (n := (m : Int)) (by walk_at "ev") (by omega) (by omega), Int.toNat_natCast]) ⟨[], _, _, _, _, _, _, _, _, _, _, _, rfl, VH.nil, Nat.le_refl _, rfl, rfl⟩ ?_ ?_
  · rintro i _ hi ⟨h, x2, x3, x4, x5, x6, x7, x8, x9, x10, x11, x13, rfl, H, hlen, p13, _⟩
    refine ⟨_, rfl, ?_⟩
    rw [Int.zero_add]
    show Wp _ [.val (intsD ns), .val (encH h), .val (.int i), x3, x4, x5, x6, x7, x8, x9, x10, x11, .un, x13] _
    obtain ⟨n1, hn1, a0, a1⟩ := mixed_spec ns (40 + (i : Int)) (by omega)
    obtain ⟨n2, hn2, b0, b1⟩ := mixed_spec ns (80 + (i : Int)) (by omega)
    have hL := encH_len h
    refine wp_set (.int n1) (by walk_at "ev") ?_
    refine wp_set (.int n2) (by walk_at "ev") ?_
    clear hn1 hn2
    refine wp_set (.int (n1 % 5)) (by walk_at "ev") ?_
    refine wp_P (fun env => ∃ kind : Int, 0 ≤ kind ∧ env = [.val (intsD ns), .val (encH h), .val (.int i), .val (.int n1), .val (.int n2), .val (.int kind), x6, x7, x8, x9, x10, x11, .un, x13]) ?_ ?_
    · by_cases q : (h.length : Int) = 0
      · by_cases q2 : 0 < c0 % 3
        · exact wp_yes0 (by walk_at "ev") (wp_set0 (.int 0) rfl (nx_nx ⟨0, by decide, rfl⟩))
        · exact wp_no0 (by walk_at "ev") (wp_skip0 (nx_nx ⟨_, by omega, rfl⟩))
      · exact wp_no0 (by walk_at "ev") (wp_skip0 (nx_nx ⟨n1 % 5, by omega, rfl⟩))
    rintro _ ⟨kind, k0, rfl⟩
    refine wp_set (.int 10) rfl ?_
    refine wp_P (fun env => ∃ size : Int, 2 ≤ size ∧ (0 < h.length → size = lastSize h) ∧ env = [.val (intsD ns), .val (encH h), .val (.int i), .val (.int n1), .val (.int n2), .val (.int kind), .val (.int size), x7, x8, x9, x10, x11, .un, x13]) ?_ ?_
    · by_cases q : 0 < h.length
      · have hq : 0 < (h.length : Int) := by omega
        have hs := sizes_spec H (by omega)
        have hx : oIdx (.list (szs h)) (.int (-1)) = .ok (.int (lastSize h)) := by
          show (match atI (szs h) (-1) with | some d => An.ok d | none => .bad) = _
          rw [atI_last (d := .int (lastSize h)) (by
            unfold szs lastSize
            rw [List.length_map, List.length_range, List.getElem?_map, List.getElem?_range (by omega)]
            rfl)]
        exact wp_yes0 (by walk_at "ev") (wp_set0 (.int (lastSize h)) (by walk_at "ev") (nx_nx ⟨_, H.size _ (by omega), fun _ => rfl, rfl⟩))
      · have hq : ¬ 0 < (h.length : Int) := by omega
        exact wp_no0 (by walk_at "ev") (wp_skip0 (nx_nx ⟨10, by decide, fun z => absurd z q, rfl⟩))
    rintro _ ⟨size, z0, hsz, rfl⟩
    obtain ⟨other, ho, o0, o1⟩ := size_spec n2 b0 b1
    obtain ⟨day, hday⟩ := day_by_spec (h := h) (n1 / 5)
    obtain ⟨v0, hv0⟩ := value_of_spec (n2 / 7) size z0
    obtain ⟨v1, hv1⟩ := value_of_spec (n1 / 11) other o0
    refine wp_set (.int other) (by walk_at "ev") ?_
    refine wp_set (.int day) (by walk_at "ev") ?_
    refine wp_set (.list [.int v0, .int v1]) (by walk_at "ev") ?_
    clear ho hday hv0 hv1
    have hkl : oNe (.list (h.map encE)) (encHL h) = .ok (.bool false) := neL_sh (hist_sh _) (by decide)
    have hlist := encH_list h
    rcases turn_04 (kind := kind) (day := day) (v0 := v0) (v1 := v1) H (by omega) hsz o0 with ⟨c, k, t1, t2, t3⟩ | ⟨e, t1, t2, t3, t4, t5⟩
    · refine wp_set (.int k) (by walk_at "ev") ?_
      refine wp_set (encHL h) rfl ?_
      refine wp_tryct (x := c) (env1 := [.val (intsD ns), .val (encH h), .val (.int i), .val (.int n1), .val (.int n2), .val (.int kind), .val (.int size), .val (.int other), .val (.int day), .val (.list [.int v0, .int v1]), .val (.int k), .val (encHL h), .un, x13]) (env2 := [.val (intsD ns), .val (encH h), .val (.int i), .val (.int n1), .val (.int n2), .val (.int kind), .val (.int size), .val (.int other), .val (.int day), .val (.list [.int v0, .int v1]), .val (.int k), .val (encHL h), .err, x13]) (by walk_at "plain") (set_exc (by walk_at "ev")) (by walk_at "plain") ?_ (by walk_at "plain") (turn_ct ?_)
      · show sSeq (sIf (tOf (xOp oNe (xHot 12 (h_l_classes c)) (xVar 10))) (sRet (xC (.bool false))) sSkip) sCt [.val (intsD ns), .val (encH h), .val (.int i), .val (.int n1), .val (.int n2), .val (.int kind), .val (.int size), .val (.int other), .val (.int day), .val (.list [.int v0, .int v1]), .val (.int k), .val (encHL h), .err, x13] = _
        have hk : decide (k = k) = true := decide_eq_true rfl
        rw [t3]
        have hh : xHot 12 (.int k) [.val (intsD ns), .val (encH h), .val (.int i), .val (.int n1), .val (.int n2), .val (.int kind), .val (.int size), .val (.int other), .val (.int day), .val (.list [.int v0, .int v1]), .val (.int k), .val (encHL h), .err, x13] = .ok (.int k) := rfl
        clear t1 t2 t3
        walk_at "ev"
      · exact ⟨h, _, _, _, _, _, _, _, _, _, _, x13, rfl, H, by omega, p13, by walk_at "plain"⟩
    · refine wp_set (.int 4) (by walk_at "ev") ?_
      refine wp_set (encHL h) rfl ?_
      refine wp_trynx (env1 := [.val (intsD ns), .val (encH h), .val (.int i), .val (.int n1), .val (.int n2), .val (.int kind), .val (.int size), .val (.int other), .val (.int day), .val (.list [.int v0, .int v1]), .val (.int 4), .val (encHL h), .un, .val (encH (h ++ [e]))]) (by walk_at "plain") (set_eq (by walk_at "ev")) rfl ?_
      have ia : oIsA "tuple" (encH (h ++ [e])) = .ok (.bool true) := isA_tup
      refine wp_no (by unfold encHL at *; walk_at "ev") (wp_skip ?_)
      have ha := add_ent (h := h) (e := e) (by omega)
      have hne : oNe (encH (h ++ [e])) (encH (h ++ [e])) = .ok (.bool false) := neT_sh (hist_sh _) (by decide)
      clear hkl hlist t1 t2 ia
      refine wp_no (by walk_at "ev") (wp_skip ?_)
      clear hne ha t3
      have hlast := encH_last (h := h ++ [e]) (by simp)
      rw [List.length_append, List.length_singleton, Nat.add_sub_cancel, hat_app_last] at hlast
      have fin : Wp (sSet 1 (xVar 13)) [.val (intsD ns), .val (encH h), .val (.int i), .val (.int n1), .val (.int n2), .val (.int kind), .val (.int size), .val (.int other), .val (.int day), .val (.list [.int v0, .int v1]), .val (.int 4), .val (encHL h), .un, .val (encH (h ++ [e]))] (onTurn fun env => ∃ h x2 x3 x4 x5 x6 x7 x8 x9 x10 x11 x13, env = [.val (intsD ns), .val (encH h), x2, x3, x4, x5, x6, x7, x8, x9, x10, x11, .un, x13] ∧ VH h ∧ h.length ≤ i + 1 ∧ x13.plain = true ∧ noErr env = true) :=
        wp_set0 (encH (h ++ [e])) rfl (turn_nx ⟨h ++ [e], _, _, _, _, _, _, _, _, _, _, _, rfl, t4, by simp; omega, rfl, rfl⟩)
      by_cases kk : 1 < kind
      · obtain ⟨d, v, b, rfl⟩ := t5 kk
        have h3 := rd_3 (d := d) (v := v) (k := b)
        have hb : oIsA "bool" (.bool b) = .ok (.bool true) := isA_bool_bool
        exact wp_no (by walk_at "ev") (wp_skip fin)
      · exact wp_no (by walk_at "ev") (wp_skip fin)
  · rintro _ ⟨h, x2, x3, x4, x5, x6, x7, x8, x9, x10, x11, x13, rfl, H, hlen, p13, hne⟩
    have hs := sizes_spec H (by omega)
    have hL := encH_len h
    have e := lc_all (enc := fun i : Nat => PyData.int (0 + (i : Int))) (src := iR1 (xApp oLen (aCons (xVar 1) aNil))) (vs := [2]) (b := bName 2) (f := xApp f_p_size_at (aCons (xVar 1) (aCons (xVar 2) aNil))) (fun i : Nat => PyData.int (sizeAt h i)) (List.range h.length) hne (ev_r1 (n := (h.length : Int)) (by walk_at "ev") (by omega) (by omega)) (by simp; omega) (fun i hi => by
      have hs2 := size_at_spec (h := h) i
      refine ⟨_, rfl, ?_⟩
      show xApp f_p_size_at _ [.val (intsD ns), .val (encH h), .val (.int (0 + (i : Int))), x3, x4, x5, x6, x7, x8, x9, x10, x11, .un, x13] = _
      rw [Int.zero_add]
      walk_at "ev")
    have hq : oEq (.list (szs h)) (.list (szs h)) = .ok (.bool true) := eqL_sh (n := 1) (sh_map fun _ _ => sh_int.le (by decide)) (by decide)
    unfold szs at hq hs
    generalize (List.range h.length).map (fun i : Nat => PyData.int (sizeAt h i)) = us at *
    exact wp_val (by walk_at "ev")
end Mg
namespace Mg
open PySem PySem.Spec PyProof.Rows L2
def b_p_refused_as (e : Xc) : SX := (sSeq (sIf (tOf (xErr 0 (decide (xr_i e = .noMeter)))) (sRet (xC (.str (PySem.Str.ofString "no meter")))) sSkip) (sSeq (sIf (tOf (xErr 0 (decide (xr_i e = .notLater)))) (sRet (xC (.str (PySem.Str.ofString "not later")))) sSkip) (sSeq (sIf (tOf (xErr 0 (decide (xr_i e = .noValue)))) (sRet (xC (.str (PySem.Str.ofString "no value")))) sSkip) (sSeq (sIf (tOf (xErr 0 (decide (xr_i e = .noReading)))) (sRet (xC (.str (PySem.Str.ofString "no reading")))) sSkip) (sRet (xC (.str (PySem.Str.ofString "there already"))))))))
def h_p_refused_as (e : Xc) : D := match b_p_refused_as e (.err :: List.replicate 0 Slot.un) with | .ret d => d | _ => .none
def b_p_entry_done : SX := (sSeq (sIf (tOf (xOp oEq (xOp oIdx (xVar 1) (xC (.int 0))) (xC (.str (PySem.Str.ofString "start"))))) (sRet (xApp f_p_begun (aCons (xVar 0) (aCons (xOp oIdx (xVar 1) (xC (.int 1))) (aCons (xOp oIdx (xVar 1) (xC (.int 2))) (aCons (xOp oIdx (xVar 1) (xC (.int 3))) aNil)))))) sSkip) (sSeq (sIf (tOf (xOp oEq (xOp oIdx (xVar 1) (xC (.int 0))) (xC (.str (PySem.Str.ofString "read"))))) (sRet (xApp f_p_read_on (aCons (xVar 0) (aCons (xOp oIdx (xVar 1) (xC (.int 1))) (aCons (xOp oIdx (xVar 1) (xC (.int 2))) aNil))))) sSkip) (sSeq (sIf (tOf (xOp oEq (xOp oIdx (xVar 1) (xC (.int 0))) (xC (.str (PySem.Str.ofString "change"))))) (sRet (xApp f_p_changed_on (aCons (xVar 0) (aCons (xOp oIdx (xVar 1) (xC (.int 1))) (aCons (xOp oIdx (xVar 1) (xC (.int 2))) (aCons (xOp oIdx (xVar 1) (xC (.int 3))) (aCons (xOp oIdx (xVar 1) (xC (.int 4))) aNil))))))) sSkip) (sRet (xApp f_p_struck (aCons (xVar 0) (aCons (xOp oIdx (xVar 1) (xC (.int 1))) aNil)))))))
def f_p_entry_done : List D → An D := runDef 2 2 b_p_entry_done
def b_p_read_answer : SX := (sSeq (sIf (tOf (xOp oIn (xOp oSub (xApp oLen (aCons (xVar 0) aNil)) (xC (.int 1))) (xApp f_p_points (aCons (xVar 0) (aCons (xVar 1) aNil))))) (sRet (xC (.str (PySem.Str.ofString "counts")))) sSkip) (sRet (xC (.str (PySem.Str.ofString "doubted")))))
def f_p_read_answer : List D → An D := runDef 2 2 b_p_read_answer
def b_p_done : SX := (sSeq (sAsg (bTup [5, 6, 7]) (xVar 0)) (sSeq (sIf (tOf (xOp oEq (xOp oIdx (xVar 2) (xC (.int 0))) (xC (.str (PySem.Str.ofString "tariff"))))) (sRet (xTup (aCons (xC (.str (PySem.Str.ofString "done"))) (aCons (xTup (aCons (xVar 5) (aCons (xApp f_p_with_tariff (aCons (xVar 6) (aCons (xSl (xVar 2) (pAt (xC (.int 1))) pNo) aNil))) (aCons (xVar 7) aNil)))) aNil)))) sSkip) (sSeq (sIf (tOf (xOp oEq (xOp oIdx (xVar 2) (xC (.int 0))) (xC (.str (PySem.Str.ofString "bill"))))) (sSeq (sSet 8 (xApp f_p_with_bill (aCons (xVar 5) (aCons (xVar 1) (aCons (xVar 6) (aCons (xVar 7) (aCons (xOp oIdx (xVar 2) (xC (.int 1))) aNil))))))) (sRet (xTup (aCons (xOp oIdx (xOp oIdx (xVar 8) (xUn oNeg (xC (.int 1)))) (xC (.int 1))) (aCons (xTup (aCons (xVar 5) (aCons (xVar 6) (aCons (xVar 8) aNil)))) aNil))))) sSkip) (sSeq (sIf (tOf (xOp oEq (xOp oIdx (xVar 2) (xC (.int 0))) (xC (.str (PySem.Str.ofString "use"))))) (sRet (xTup (aCons (xApp f_p_use_on (aCons (xVar 5) (aCons (xVar 1) (aCons (xOp oIdx (xVar 2) (xC (.int 1))) aNil)))) (aCons (xVar 0) aNil)))) sSkip) (sSeq (sIf (tOf (xOp oEq (xOp oIdx (xVar 2) (xC (.int 0))) (xC (.str (PySem.Str.ofString "owed"))))) (sRet (xTup (aCons (xApp f_p_owed (aCons (xVar 5) (aCons (xVar 1) (aCons (xVar 6) (aCons (xOp oIdx (xVar 2) (xC (.int 1))) aNil))))) (aCons (xVar 0) aNil)))) sSkip) (sSeq (sSet 3 (xApp f_p_entry_done (aCons (xVar 5) (aCons (xVar 2) aNil)))) (sSeq (sSet 4 (xC (.str (PySem.Str.ofString "done")))) (sSeq (sIf (tOf (xOp oEq (xOp oIdx (xVar 2) (xC (.int 0))) (xC (.str (PySem.Str.ofString "read"))))) (sSet 4 (xApp f_p_read_answer (aCons (xVar 3) (aCons (xVar 1) aNil)))) sSkip) (sRet (xTup (aCons (xVar 4) (aCons (xTup (aCons (xVar 3) (aCons (xVar 6) (aCons (xVar 7) aNil)))) aNil))))))))))))
def f_p_done : List D → An D := runDef 9 3 b_p_done
def b_p_play : SX := (sSeq (sSet 2 (xTup (aCons (xTup aNil) (aCons (xTup aNil) (aCons (xTup aNil) aNil))))) (sSeq (sOwn 3 aNil) (sSeq (sFor (iL (xVar 1)) (bName 4) (sSeq (sTry 5 (sAsg (bTup [6, 2]) (xApp f_p_done (aCons (xVar 2) (aCons (xVar 0) (aCons (xVar 4) aNil))))) (fun e => (sSet 6 (xHot 5 (h_p_refused_as e))))) (sApp 3 (xVar 6)))) (sFrz 3 (sRet (xTup (aCons (xVar 3) (aCons (xVar 2) aNil))))))))
def f_p_play : List D → An D := runDef 7 2 b_p_play
def b_l_cost_11 : SX := (sSeq (sSet 3 (xC (.int 0))) (sSeq (sFor (iL (xL (xAppL oSorted (aCons (xVar 0) aNil)))) (bName 4) (sIf (tOf (xOp oLe (xOp oIdx (xVar 4) (xC (.int 0))) (xVar 1))) (sSet 3 (xOp oAdd (xOp oAdd (xOp oIdx (xVar 4) (xC (.int 1))) (xOp oMul (xOp oIdx (xVar 4) (xC (.int 2))) (xApp oMin (aCons (xVar 2) (aCons (xOp oIdx (xVar 4) (xC (.int 3))) aNil))))) (xOp oMul (xOp oIdx (xVar 4) (xC (.int 4))) (xApp oMax (aCons (xC (.int 0)) (aCons (xOp oSub (xVar 2) (xOp oIdx (xVar 4) (xC (.int 3)))) aNil)))))) sSkip)) (sRet (xVar 3))))
def f_l_cost_11 : List D → An D := runDef 5 3 b_l_cost_11
def b_l_owed_11 : SX := (sSeq (sSet 4 (xC (.int 0))) (sSeq (sFor (iR2 (xOp oIdx (xOp oIdx (xVar 0) (xC (.int 0))) (xC (.int 1))) (xVar 3)) (bName 5) (sSet 4 (xOp oAdd (xVar 4) (xApp f_l_cost_11 (aCons (xVar 2) (aCons (xVar 5) (aCons (xApp f_l_use (aCons (xVar 1) (aCons (xVar 5) aNil))) aNil))))))) (sRet (xVar 4))))
def f_l_owed_11 : List D → An D := runDef 6 4 b_l_owed_11
def b_l_size_now : SX := (sSeq (sSet 1 (xC (.int 10))) (sSeq (sFor (iT (xVar 0)) (bName 2) (sIf (tOf (xOp oNe (xOp oIdx (xVar 2) (xC (.int 0))) (xC (.str (PySem.Str.ofString "read"))))) (sSet 1 (xOp oIdx (xVar 2) (xOp oAdd (xC (.int 2)) (xApp oIntOf (aCons (xOp oEq (xOp oIdx (xVar 2) (xC (.int 0))) (xC (.str (PySem.Str.ofString "change")))) aNil))))) sSkip)) (sRet (xVar 1))))
def f_l_size_now : List D → An D := runDef 3 1 b_l_size_now
def b_l_shown_now : SX := (sSeq (sIf (tOf (xOp oEq (xApp oLen (aCons (xVar 0) aNil)) (xC (.int 0)))) (sRet (xC (.int 0))) sSkip) (sSeq (sSet 1 (xOp oIdx (xVar 0) (xUn oNeg (xC (.int 1))))) (sRet (xOp oIdx (xVar 1) (xOp oIdx (xL (aCons (xC (.int 3)) (aCons (xC (.int 2)) (aCons (xC (.int 4)) aNil)))) (xMt oIndex (xL (aCons (xC (.str (PySem.Str.ofString "start"))) (aCons (xC (.str (PySem.Str.ofString "read"))) (aCons (xC (.str (PySem.Str.ofString "change"))) aNil)))) (xOp oIdx (xVar 1) (xC (.int 0)))))))))
def f_l_shown_now : List D → An D := runDef 2 1 b_l_shown_now
def b_l_deed_by : SX := (sSeq (sSet 4 (xC (.int 0))) (sSeq (sIf (tOf (xOp oGt (xApp oLen (aCons (xVar 0) aNil)) (xC (.int 0)))) (sSet 4 (xOp oIdx (xOp oIdx (xVar 0) (xUn oNeg (xC (.int 1)))) (xC (.int 1)))) sSkip) (sSeq (sSet 5 (xOp oAdd (xC (.int 1)) (xOp oMod (xOp oFdiv (xVar 2) (xC (.int 13))) (xC (.int 9))))) (sSeq (sSet 6 (xOp oIdx (xL (aCons (xOp oAdd (xVar 4) (xVar 5)) (aCons (xOp oAdd (xVar 4) (xVar 5)) (aCons (xOp oAdd (xVar 4) (xVar 5)) (aCons (xVar 4) (aCons (xApp oMax (aCons (xC (.int 0)) (aCons (xOp oSub (xVar 4) (xC (.int 1))) aNil))) (aCons (xOp oMod (xOp oFdiv (xVar 2) (xC (.int 13))) (xC (.int 100))) aNil))))))) (xOp oMod (xOp oFdiv (xVar 2) (xC (.int 117))) (xC (.int 6))))) (sSeq (sSet 7 (xApp f_l_size_now (aCons (xVar 0) aNil))) (sSeq (sSet 8 (xOp oMod (xOp oAdd (xApp f_l_shown_now (aCons (xVar 0) aNil)) (xOp oMod (xVar 3) (xOp oAdd (xOp oMul (xVar 1) (xVar 5)) (xC (.int 2))))) (xVar 7))) (sSeq (sSet 9 (xOp oIdx (xL (aCons (xVar 8) (aCons (xOp oMod (xVar 3) (xVar 7)) (aCons (xVar 7) (aCons (xOp oSub (xVar 7) (xC (.int 1))) aNil))))) (xOp oMod (xOp oFdiv (xVar 2) (xC (.int 702))) (xC (.int 4))))) (sSeq (sSet 10 (xOp oMod (xVar 2) (xC (.int 13)))) (sSeq (sIf (tOf (xOp oEq (xVar 10) (xC (.int 0)))) (sSeq (sSet 11 (xApp f_l_size_by (aCons (xOp oFdiv (xVar 3) (xC (.int 3))) aNil))) (sRet (xTup (aCons (xC (.str (PySem.Str.ofString "start"))) (aCons (xOp oMod (xOp oFdiv (xVar 2) (xC (.int 13))) (xC (.int 20))) (aCons (xVar 11) (aCons (xOp oMod (xOp oFdiv (xVar 3) (xC (.int 7))) (xOp oAdd (xVar 11) (xApp oIntOf (aCons (xOp oEq (xOp oMod (xOp oFdiv (xVar 2) (xC (.int 5000))) (xC (.int 8))) (xC (.int 1))) aNil)))) aNil))))))) sSkip) (sSeq (sIf (tOf (xOp oEq (xVar 10) (xC (.int 1)))) (sSeq (sSet 11 (xApp f_l_size_by (aCons (xOp oFdiv (xVar 3) (xC (.int 3))) aNil))) (sRet (xTup (aCons (xC (.str (PySem.Str.ofString "change"))) (aCons (xVar 6) (aCons (xVar 9) (aCons (xVar 11) (aCons (xOp oMod (xOp oFdiv (xVar 3) (xC (.int 7))) (xOp oAdd (xVar 11) (xApp oIntOf (aCons (xOp oEq (xOp oMod (xOp oFdiv (xVar 2) (xC (.int 5000))) (xC (.int 8))) (xC (.int 1))) aNil)))) aNil)))))))) sSkip) (sSeq (sIf (tOf (xOp oLt (xVar 10) (xC (.int 6)))) (sRet (xTup (aCons (xC (.str (PySem.Str.ofString "read"))) (aCons (xVar 6) (aCons (xVar 9) aNil))))) sSkip) (sSeq (sIf (tAndX (tOf (xOp oEq (xVar 10) (xC (.int 6)))) (tOf (xOp oGt (xApp oLen (aCons (xVar 0) aNil)) (xC (.int 0))))) (sRet (xTup (aCons (xC (.str (PySem.Str.ofString "strike"))) (aCons (xOp oAdd (xOp oIdx (xOp oIdx (xVar 0) (xOp oMod (xVar 3) (xApp oLen (aCons (xVar 0) aNil)))) (xC (.int 1))) (xApp oIntOf (aCons (xOp oEq (xOp oMod (xOp oFdiv (xVar 2) (xC (.int 13))) (xC (.int 4))) (xC (.int 1))) aNil))) aNil)))) sSkip) (sSeq (sIf (tOf (xOp oEq (xVar 10) (xC (.int 6)))) (sRet (xTup (aCons (xC (.str (PySem.Str.ofString "strike"))) (aCons (xOp oMod (xVar 3) (xC (.int 5))) aNil)))) sSkip) (sSeq (sIf (tOf (xOp oEq (xVar 10) (xC (.int 7)))) (sSeq (sSet 12 (xOp oIdx (xL (aCons (xC (.int 0)) (aCons (xC (.int 1)) (aCons (xOp oMod (xOp oFdiv (xVar 3) (xC (.int 5))) (xOp oAdd (xOp oPow (xC (.int 10)) (xC (.int 9))) (xC (.int 1)))) aNil)))) (xOp oMod (xOp oFdiv (xVar 2) (xC (.int 13))) (xC (.int 3))))) (sSeq (sSet 13 (xOp oIdx (xL (aCons (xC (.int 0)) (aCons (xC (.int 3)) (aCons (xOp oMod (xOp oMul (xVar 3) (xC (.int 48271))) (xOp oAdd (xOp oPow (xC (.int 10)) (xC (.int 12))) (xC (.int 1)))) aNil)))) (xOp oMod (xVar 3) (xC (.int 3))))) (sRet (xTup (aCons (xC (.str (PySem.Str.ofString "tariff"))) (aCons (xOp oMod (xVar 3) (xC (.int 70))) (aCons (xOp oMod (xOp oFdiv (xVar 3) (xC (.int 70))) (xC (.int 40))) (aCons (xVar 12) (aCons (xVar 13) (aCons (xOp oMod (xOp oFdiv (xVar 3) (xC (.int 9))) (xC (.int 50))) aNil)))))))))) sSkip) (sRet (xTup (aCons (xOp oIdx (xL (aCons (xC (.str (PySem.Str.ofString "bill"))) (aCons (xC (.str (PySem.Str.ofString "use"))) (aCons (xC (.str (PySem.Str.ofString "owed"))) (aCons (xC (.str (PySem.Str.ofString "bill"))) (aCons (xC (.str (PySem.Str.ofString "bill"))) aNil)))))) (xOp oSub (xVar 10) (xC (.int 8)))) (aCons (xOp oIdx (xL (aCons (xOp oMod (xVar 3) (xC (.int 61))) (aCons (xOp oAdd (xVar 4) (xOp oMod (xVar 3) (xC (.int 7)))) aNil))) (xOp oMod (xOp oFdiv (xVar 3) (xC (.int 61))) (xC (.int 2)))) aNil))))))))))))))))))
def f_l_deed_by : List D → An D := runDef 14 4 b_l_deed_by
def b_l_entry_of : SX := (sSeq (sIf (tOf (xOp oEq (xOp oIdx (xVar 1) (xC (.int 0))) (xC (.str (PySem.Str.ofString "start"))))) (sSeq (sIf (tOf (xOp oGt (xApp oLen (aCons (xVar 0) aNil)) (xC (.int 0)))) (sRet (xC (.str (PySem.Str.ofString "there already")))) sSkip) (sSeq (sIf (tOf (xOp oGe (xOp oIdx (xVar 1) (xC (.int 3))) (xOp oIdx (xVar 1) (xC (.int 2))))) (sRet (xC (.str (PySem.Str.ofString "no value")))) sSkip) (sRet (xVar 1)))) sSkip) (sSeq (sIf (tOf (xOp oEq (xApp oLen (aCons (xVar 0) aNil)) (xC (.int 0)))) (sRet (xC (.str (PySem.Str.ofString "no meter")))) sSkip) (sSeq (sIf (tOf (xOp oLe (xOp oIdx (xVar 1) (xC (.int 1))) (xOp oIdx (xOp oIdx (xVar 0) (xUn oNeg (xC (.int 1)))) (xC (.int 1))))) (sRet (xC (.str (PySem.Str.ofString "not later")))) sSkip) (sSeq (sIf (tOf (xOp oGe (xOp oIdx (xVar 1) (xC (.int 2))) (xApp f_l_size_now (aCons (xVar 0) aNil)))) (sRet (xC (.str (PySem.Str.ofString "no value")))) sSkip) (sSeq (sIf (tOf (xOp oEq (xOp oIdx (xVar 1) (xC (.int 0))) (xC (.str (PySem.Str.ofString "change"))))) (sSeq (sIf (tOf (xOp oGe (xOp oIdx (xVar 1) (xC (.int 4))) (xOp oIdx (xVar 1) (xC (.int 3))))) (sRet (xC (.str (PySem.Str.ofString "no value")))) sSkip) (sRet (xVar 1))) sSkip) (sRet (xOp oAdd (xVar 1) (xTup (aCons (xC (.bool false)) aNil)))))))))
def f_l_entry_of : List D → An D := runDef 2 2 b_l_entry_of
def b_l_struck : SX := (sSeq (sOwn 2 aNil) (sSeq (sFor (iT (xVar 0)) (bName 3) (sSeq (sIf (tAndX (tOf (xOp oEq (xOp oIdx (xVar 3) (xC (.int 0))) (xC (.str (PySem.Str.ofString "read"))))) (tAndX (tOf (xOp oEq (xOp oIdx (xVar 3) (xC (.int 1))) (xVar 1))) (tNotX (tOf (xOp oIdx (xVar 3) (xC (.int 3))))))) (sSet 3 (xTup (aCons (xC (.str (PySem.Str.ofString "read"))) (aCons (xVar 1) (aCons (xOp oIdx (xVar 3) (xC (.int 2))) (aCons (xC (.bool true)) aNil)))))) sSkip) (sApp 2 (xVar 3)))) (sFrz 2 (sRet (xApp oTuple (aCons (xVar 2) aNil))))))
def f_l_struck : List D → An D := runDef 4 2 b_l_struck
def b_l_bill : SX := (sSeq (sIf (tOf (xOp oEq (xGet 0 (xC (.str (PySem.Str.ofString "history")))) (xTup aNil))) (sRetE (xC (.str (PySem.Str.ofString "no meter")))) sSkip) (sSeq (sIf (tBor 0 (tAndX (tOf (xOp oNe (xGet 0 (xC (.str (PySem.Str.ofString "bills")))) (xL aNil))) (tOf (xOp oLt (xVar 2) (xOp oIdx (xOp oIdx (xGet 0 (xC (.str (PySem.Str.ofString "bills")))) (xUn oNeg (xC (.int 1)))) (xC (.int 0))))))) (sRetE (xC (.str (PySem.Str.ofString "not later")))) sSkip) (sSeq (sSet 3 (xBor 0 (xApp f_l_owed_11 (aCons (xGet 0 (xC (.str (PySem.Str.ofString "history")))) (aCons (xOp oIdx (xApp f_l_account (aCons (xGet 0 (xC (.str (PySem.Str.ofString "history")))) (aCons (xVar 1) aNil))) (xC (.int 1))) (aCons (xGet 0 (xC (.str (PySem.Str.ofString "tariffs")))) (aCons (xVar 2) aNil))))))) (sSeq (sSet 4 (xBor 0 (xOp oSub (xVar 3) (xApp oSum (aCons (xL (nErr (xLc (iL (xGet 0 (xC (.str (PySem.Str.ofString "bills"))))) [5] (bName 5) tYesX (xOp oIdx (xVar 5) (xC (.int 1)))))) aNil))))) (sSeq (sAppF 0 (.inr "bills") (xTup (aCons (xVar 2) (aCons (xVar 4) aNil)))) (sRetE (xVar 4)))))))
noncomputable def f_l_bill : Flds → List D → An (D × Flds) := specR 6 3 b_l_bill
noncomputable def b_l_answer : SX := (sSeq (sIf (tOf (xOp oEq (xOp oIdx (xVar 2) (xC (.int 0))) (xC (.str (PySem.Str.ofString "tariff"))))) (sSeq (sIf (tBor 0 (tOf (xOp oIn (xOp oIdx (xVar 2) (xC (.int 1))) (xL (nErr (xLc (iL (xGet 0 (xC (.str (PySem.Str.ofString "tariffs"))))) [5] (bName 5) tYesX (xOp oIdx (xVar 5) (xC (.int 0))))))))) (sRetE (xC (.str (PySem.Str.ofString "there already")))) sSkip) (sSeq (sAppF 0 (.inr "tariffs") (xSl (xVar 2) (pAt (xC (.int 1))) pNo)) (sRetE (xC (.str (PySem.Str.ofString "done")))))) sSkip) (sSeq (sIf (tOf (xOp oEq (xOp oIdx (xVar 2) (xC (.int 0))) (xC (.str (PySem.Str.ofString "bill"))))) (sRetR 0 f_l_bill (aCons (xVar 1) (aCons (xOp oIdx (xVar 2) (xC (.int 1))) aNil))) sSkip) (sSeq (sIf (tOf (xOp oEq (xOp oIdx (xVar 2) (xC (.int 0))) (xC (.str (PySem.Str.ofString "use"))))) (sRetE (xApp f_l_use (aCons (xOp oIdx (xApp f_l_account (aCons (xGet 0 (xC (.str (PySem.Str.ofString "history")))) (aCons (xVar 1) aNil))) (xC (.int 1))) (aCons (xOp oIdx (xVar 2) (xC (.int 1))) aNil)))) sSkip) (sSeq (sIf (tOf (xOp oEq (xOp oIdx (xVar 2) (xC (.int 0))) (xC (.str (PySem.Str.ofString "owed"))))) (sSeq (sIf (tOf (xOp oEq (xGet 0 (xC (.str (PySem.Str.ofString "history")))) (xTup aNil))) (sRetE (xC (.str (PySem.Str.ofString "no meter")))) sSkip) (sRetE (xBor 0 (xApp f_l_owed_11 (aCons (xGet 0 (xC (.str (PySem.Str.ofString "history")))) (aCons (xOp oIdx (xApp f_l_account (aCons (xGet 0 (xC (.str (PySem.Str.ofString "history")))) (aCons (xVar 1) aNil))) (xC (.int 1))) (aCons (xGet 0 (xC (.str (PySem.Str.ofString "tariffs")))) (aCons (xOp oIdx (xVar 2) (xC (.int 1))) aNil)))))))) sSkip) (sSeq (sIf (tOf (xOp oEq (xOp oIdx (xVar 2) (xC (.int 0))) (xC (.str (PySem.Str.ofString "strike"))))) (sSeq (sSet 4 (xApp f_l_struck (aCons (xGet 0 (xC (.str (PySem.Str.ofString "history")))) (aCons (xOp oIdx (xVar 2) (xC (.int 1))) aNil)))) (sSeq (sIf (tOf (xOp oEq (xVar 4) (xGet 0 (xC (.str (PySem.Str.ofString "history")))))) (sRetE (xC (.str (PySem.Str.ofString "no reading")))) sSkip) (sSeq (sPutD 0 (xC (.str (PySem.Str.ofString "history"))) (xVar 4)) (sRetE (xC (.str (PySem.Str.ofString "done"))))))) sSkip) (sSeq (sSet 3 (xApp f_l_entry_of (aCons (xGet 0 (xC (.str (PySem.Str.ofString "history")))) (aCons (xVar 2) aNil)))) (sSeq (sIf (tOf (xUn (oIsA "str") (xVar 3))) (sRetE (xVar 3)) sSkip) (sSeq (sPutD 0 (xC (.str (PySem.Str.ofString "history"))) (xOp oAdd (xGet 0 (xC (.str (PySem.Str.ofString "history")))) (xTup (aCons (xVar 3) aNil)))) (sSeq (sIf (tOf (xOp oNe (xOp oIdx (xVar 2) (xC (.int 0))) (xC (.str (PySem.Str.ofString "read"))))) (sRetE (xC (.str (PySem.Str.ofString "done")))) sSkip) (sRetE (xOp oIdx (xL (aCons (xC (.str (PySem.Str.ofString "doubted"))) (aCons (xC (.str (PySem.Str.ofString "counts"))) aNil))) (xApp oIntOf (aCons (xOp oIn (xOp oSub (xApp oLen (aCons (xGet 0 (xC (.str (PySem.Str.ofString "history")))) aNil)) (xC (.int 1))) (xOp oIdx (xApp f_l_account (aCons (xGet 0 (xC (.str (PySem.Str.ofString "history")))) (aCons (xVar 1) aNil))) (xC (.int 0)))) aNil)))))))))))))
noncomputable def f_l_answer : Flds → List D → An (D × Flds) := specR 6 3 b_l_answer
noncomputable def b_law_11 : SX := (sSeq (sSet 1 (xApp f_l_most_by (aCons (xApp f_l_cell_at (aCons (xVar 0) (aCons (xC (.int 0)) aNil))) aNil))) (sSeq (sNewS 2 "history" "tariffs" "bills") (sSeq (sOwn 3 aNil) (sSeq (sOwn 4 aNil) (sSeq (sIf (tOf (xOp oGt (xOp oMod (xApp f_l_cell_at (aCons (xVar 0) (aCons (xC (.int 1)) aNil))) (xC (.int 3))) (xC (.int 0)))) (sSeq (sApp 3 (xTup (aCons (xC (.str (PySem.Str.ofString "start"))) (aCons (xC (.int 2)) (aCons (xApp f_l_size_by (aCons (xApp f_l_mixed (aCons (xVar 0) (aCons (xC (.int 2)) aNil))) aNil)) (aCons (xC (.int 1)) aNil)))))) (sAppR 4 2 f_l_answer (aCons (xVar 1) (aCons (xIxO 3 (xUn oNeg (xC (.int 1)))) aNil)))) sSkip) (sSeq (sFor (iE (xSl (xVar 0) (pAt (xC (.int 3))) (pAt (xC (.int 43))))) (bTup [8, 9]) (sSeq (sSet 10 (xOp oMod (xOp oMul (xOp oAdd (xVar 9) (xOp oMul (xC (.int 7919)) (xVar 8))) (xC (.int 48271))) (xC (.int 2147483647)))) (sSeq (sSet 11 (xOp oMod (xOp oMul (xOp oAdd (xVar 9) (xOp oMul (xC (.int 104729)) (xVar 8))) (xC (.int 69621))) (xC (.int 2147483629)))) (sSeq (sSet 10 (xOp oMod (xOp oMul (xVar 10) (xVar 10)) (xC (.int 2147483647)))) (sSeq (sApp 3 (xApp f_l_deed_by (aCons (xGet 2 (xC (.str (PySem.Str.ofString "history")))) (aCons (xVar 1) (aCons (xVar 10) (aCons (xOp oMod (xOp oMul (xVar 11) (xVar 11)) (xC (.int 2147483629))) aNil)))))) (sAppR 4 2 f_l_answer (aCons (xVar 1) (aCons (xIxO 3 (xUn oNeg (xC (.int 1)))) aNil)))))))) (sFrz 3 (sSeq (sSet 5 (xL (xAppL oList (aCons (xVar 3) aNil)))) (sSeq (sSet 6 (xApp f_p_play (aCons (xVar 1) (aCons (xVar 5) aNil)))) (sSeq (sIf (tOrX (tOf (xOp oNe (xVar 5) (xVar 3))) (tOrX (tNotX (tOf (xUn (oIsA "tuple") (xVar 6)))) (tOrX (tOf (xOp oNe (xApp oLen (aCons (xVar 6) aNil)) (xC (.int 2)))) (tNotX (tOf (xUn (oIsA "list") (xOp oIdx (xVar 6) (xC (.int 0))))))))) (sRet (xC (.bool false))) sSkip) (sSeq (sIf (tOf (xOp oNe (xApp oLen (aCons (xOp oIdx (xVar 6) (xC (.int 0))) aNil)) (xLenO 4))) (sRet (xC (.bool false))) sSkip) (sFrz 4 (sSeq (sFor (iZ (xOp oIdx (xVar 6) (xC (.int 0))) (xVar 4)) (bTup [12, 13]) (sIf (tOrX (tOf (xUn (oIsA "bool") (xVar 12))) (tOrX (tOf (xOp oNe (xUn (oIsA "str") (xVar 12)) (xUn (oIsA "str") (xVar 13)))) (tOf (xOp oNe (xVar 12) (xVar 13))))) (sRet (xC (.bool false))) sSkip)) (sSeq (sFor (iT (xOp oIdx (xOp oIdx (xVar 6) (xC (.int 1))) (xC (.int 0)))) (bName 7) (sIf (tAndX (tOf (xOp oEq (xOp oIdx (xVar 7) (xC (.int 0))) (xC (.str (PySem.Str.ofString "read"))))) (tNotX (tOf (xUn (oIsA "bool") (xOp oIdx (xVar 7) (xC (.int 3))))))) (sRet (xC (.bool false))) sSkip)) (sRet (xBor 2 (xOp oEq (xOp oIdx (xVar 6) (xC (.int 1))) (xTup (aCons (xGet 2 (xC (.str (PySem.Str.ofString "history")))) (aCons (xApp oTuple (aCons (xL (xAppL oSorted (aCons (xGet 2 (xC (.str (PySem.Str.ofString "tariffs")))) aNil))) aNil)) (aCons (xApp oTuple (aCons (xGet 2 (xC (.str (PySem.Str.ofString "bills")))) aNil)) aNil)))))))))))))))))))))
noncomputable def f_law_11 : List D → An D := runDef 14 1 b_law_11
end Mg
namespace Mg
open PySem PySem.Spec PyProof.Rows L2
def b_l_deed_of : SX := (sSeq (sIf (tOf (xOp oEq (xOp oIdx (xVar 0) (xC (.int 0))) (xC (.str (PySem.Str.ofString "read"))))) (sRet (xSl (xVar 0) pNo (pAt (xC (.int 3))))) sSkip) (sRet (xVar 0)))
def f_l_deed_of : List D → An D := runDef 1 1 b_l_deed_of
def b_l_unstruck : SX := (sSeq (sIf (tOf (xOp oEq (xOp oIdx (xVar 0) (xC (.int 0))) (xC (.str (PySem.Str.ofString "read"))))) (sRet (xTup (aCons (xC (.str (PySem.Str.ofString "read"))) (aCons (xOp oIdx (xVar 0) (xC (.int 1))) (aCons (xOp oIdx (xVar 0) (xC (.int 2))) (aCons (xC (.bool false)) aNil)))))) sSkip) (sRet (xVar 0)))
def f_l_unstruck : List D → An D := runDef 1 1 b_l_unstruck
def b_l_with_bills : SX := (sSeq (sOwn 2 aNil) (sSeq (sSet 3 (xC (.int 0))) (sSeq (sFor (iR1 (xApp oLen (aCons (xVar 1) aNil))) (bName 4) (sSeq (sApp 2 (xOp oIdx (xVar 1) (xVar 4))) (sSeq (sSet 5 (xApp f_l_mixed (aCons (xVar 0) (aCons (xOp oAdd (xC (.int 130)) (xVar 4)) aNil)))) (sIf (tOf (xOp oEq (xOp oMod (xVar 5) (xC (.int 3))) (xC (.int 1)))) (sSeq (sSet 3 (xOp oAdd (xVar 3) (xOp oMod (xOp oFdiv (xVar 5) (xC (.int 3))) (xC (.int 12))))) (sApp 2 (xTup (aCons (xC (.str (PySem.Str.ofString "bill"))) (aCons (xVar 3) aNil))))) sSkip)))) (sRetP 2 (xVar 3)))))
def f_l_with_bills : List D → An (List D × D) := runDefO 6 2 b_l_with_bills
def b_l_size_to : SX := (sSeq (sSet 2 (xC (.int 0))) (sSeq (sFor (iT (xSl (xVar 0) pNo (pAt (xOp oAdd (xVar 1) (xC (.int 1)))))) (bName 3) (sIf (tOf (xOp oNe (xOp oIdx (xVar 3) (xC (.int 0))) (xC (.str (PySem.Str.ofString "read"))))) (sSet 2 (xOp oIdx (xVar 3) (xOp oAdd (xC (.int 2)) (xApp oIntOf (aCons (xOp oEq (xOp oIdx (xVar 3) (xC (.int 0))) (xC (.str (PySem.Str.ofString "change")))) aNil))))) sSkip)) (sRet (xVar 2))))
def f_l_size_to : List D → An D := runDef 4 2 b_l_size_to
def b_l_wrong : SX := (sSeq (sSet 2 (xOp oMod (xApp f_l_cell_at (aCons (xVar 0) (aCons (xC (.int 5)) aNil))) (xApp oLen (aCons (xVar 1) aNil)))) (sSeq (sSet 3 (xOp oAdd (xOp oIdx (xOp oIdx (xVar 1) (xVar 2)) (xC (.int 1))) (xC (.int 1)))) (sSeq (sIf (tAndX (tOf (xOp oLt (xOp oAdd (xVar 2) (xC (.int 1))) (xApp oLen (aCons (xVar 1) aNil)))) (tOf (xOp oLe (xOp oIdx (xOp oIdx (xVar 1) (xOp oAdd (xVar 2) (xC (.int 1)))) (xC (.int 1))) (xVar 3)))) (sRet (xTup (aCons (xVar 2) (aCons (xC .none) aNil)))) sSkip) (sRet (xTup (aCons (xVar 2) (aCons (xTup (aCons (xC (.str (PySem.Str.ofString "read"))) (aCons (xVar 3) (aCons (xOp oMod (xApp f_l_mixed (aCons (xVar 0) (aCons (xC (.int 9)) aNil))) (xApp f_l_size_to (aCons (xVar 1) (aCons (xVar 2) aNil)))) aNil)))) aNil)))))))
def f_l_wrong : List D → An D := runDef 4 2 b_l_wrong
def b_law_12 : SX := (sSeq (sSet 1 (xApp f_l_most_by (aCons (xApp f_l_cell_at (aCons (xVar 0) (aCons (xC (.int 0)) aNil))) aNil))) (sSeq (sSet 2 (xApp f_l_history_by (aCons (xVar 0) (aCons (xOp oMod (xApp f_l_cell_at (aCons (xVar 0) (aCons (xC (.int 4)) aNil))) (xC (.int 9))) (aCons (xVar 1) aNil))))) (sSeq (sSet 3 (xApp oTuple (aCons (xL (nErr (xLc (iT (xVar 2)) [14] (bName 14) tYesX (xApp f_l_unstruck (aCons (xVar 14) aNil))))) aNil))) (sSeq (sSet 4 (xApp f_l_tariffs_by (aCons (xVar 0) (aCons (xC (.int 100)) (aCons (xOp oMod (xApp f_l_cell_at (aCons (xVar 0) (aCons (xC (.int 6)) aNil))) (xC (.int 6))) aNil))))) (sSeq (sOwn 5 (nErr (xLc (iT (xVar 4)) [14] (bName 14) tYesX (xOp oAdd (xTup (aCons (xC (.str (PySem.Str.ofString "tariff"))) aNil)) (xVar 14))))) (sSeq (sSet 6 (xOp oMod (xApp f_l_cell_at (aCons (xVar 0) (aCons (xC (.int 7)) aNil))) (xOp oAdd (xLenO 5) (xC (.int 1))))) (sSeq (sOwn 7 (nErr (xLc (iT (xVar 3)) [14] (bName 14) tYesX (xApp f_l_deed_of (aCons (xVar 14) aNil))))) (sFrz 5 (sFrz 7 (sSeq (sSet 8 (xL (xOpL oCat (xVar 5) (xVar 7)))) (sSeq (sAsg (bTup [16, 17]) (xApp f_l_wrong (aCons (xVar 0) (aCons (xVar 3) aNil)))) (sSeq (sOwn 9 (xOpL oCat (xSl (xVar 5) pNo (pAt (xVar 6))) (xSl (xVar 7) pNo (pAt (xOp oAdd (xVar 16) (xC (.int 1))))))) (sSeq (sIf (tOf (xOp oIsnN (xVar 17) (xC .none))) (sApp 9 (xVar 17)) sSkip) (sFrz 9 (sSeq (sAsgO 9 18 f_l_with_bills (aCons (xVar 0) (aCons (xL (xOpL oCat (xL (xOpL oCat (xVar 9) (xSl (xVar 7) (pAt (xOp oAdd (xVar 16) (xC (.int 1)))) pNo))) (xSl (xVar 5) (pAt (xVar 6)) pNo))) aNil))) (sSeq (sIf (tOf (xOp oIsnN (xVar 17) (xC .none))) (sApp 9 (xTup (aCons (xC (.str (PySem.Str.ofString "strike"))) (aCons (xOp oIdx (xVar 17) (xC (.int 1))) aNil)))) sSkip) (sSeq (sSet 10 (xOp oAdd (xVar 18) (xOp oMod (xApp f_l_cell_at (aCons (xVar 0) (aCons (xC (.int 8)) aNil))) (xC (.int 20))))) (sFrz 9 (sSeq (sAsg (bTup [19, 20]) (xApp f_p_play (aCons (xVar 1) (aCons (xL (xOpL oCat (xVar 9) (xL (aCons (xTup (aCons (xC (.str (PySem.Str.ofString "bill"))) (aCons (xVar 10) aNil))) aNil)))) aNil)))) (sSeq (sSet 11 (xApp f_p_play (aCons (xVar 1) (aCons (xL (xOpL oCat (xVar 8) (xL (aCons (xTup (aCons (xC (.str (PySem.Str.ofString "bill"))) (aCons (xVar 10) aNil))) aNil)))) aNil)))) (sSeq (sSet 12 (xApp f_l_owed (aCons (xVar 3) (aCons (xOp oIdx (xApp f_l_account (aCons (xVar 3) (aCons (xVar 1) aNil))) (xC (.int 1))) (aCons (xVar 4) (aCons (xVar 10) aNil)))))) (sSeq (sOwn 13 (nErr (xLc (iT (xOp oIdx (xVar 20) (xC (.int 2)))) [14] (bName 14) tYesX (xOp oIdx (xVar 14) (xC (.int 1)))))) (sFrz 13 (sSeq (sFor (iL (xL (xOpL oCat (xVar 13) (xL (aCons (xOp oIdx (xOp oIdx (xVar 11) (xC (.int 0))) (xUn oNeg (xC (.int 1)))) aNil))))) (bName 14) (sIf (tNotX (tOf (xApp f_l_whole (aCons (xVar 14) aNil)))) (sRet (xC (.bool false))) sSkip)) (sSeq (sSet 15 (xApp oLen (aCons (xL (nErr (xLc (iL (xVar 9)) [14] (bName 14) (tOf (xOp oEq (xOp oIdx (xVar 14) (xC (.int 0))) (xC (.str (PySem.Str.ofString "bill"))))) (xVar 14)))) aNil))) (sSeq (sIf (tOrX (tOf (xOp oNe (xOp oIdx (xVar 19) (xUn oNeg (xC (.int 1)))) (xOp oIdx (xVar 13) (xUn oNeg (xC (.int 1)))))) (tOf (xOp oNe (xApp oLen (aCons (xVar 13) aNil)) (xOp oSub (xOp oAdd (xVar 15) (xC (.int 1))) (xMt oCount (xVar 19) (xC (.str (PySem.Str.ofString "no meter")))))))) (sRet (xC (.bool false))) sSkip) (sRet (xAnd (xOp oEq (xApp oSum (aCons (xVar 13) aNil)) (xVar 12)) (xOp oEq (xOp oIdx (xOp oIdx (xVar 11) (xC (.int 0))) (xUn oNeg (xC (.int 1)))) (xVar 12))))))))))))))))))))))))))))))
def f_law_12 : List D → An D := runDef 21 1 b_law_12
end Mg
namespace Mg
open PySem PySem.Spec PyProof.Rows L2
/-! ### deeds, and what is done with them -/
inductive Deed where
  | start (d s v : Int)
  | read (d v : Int)
  | change (d l s f : Int)
  | strike (d : Int)
  | tariff (t : Tar)
  | bill (d : Int)
  | use (d : Int)
  | owed (d : Int)
def encDd : Deed → D
  | .start d s v => .tuple [.str "start", .int d, .int s, .int v]
  | .read d v => .tuple [.str "read", .int d, .int v]
  | .change d l s f => .tuple [.str "change", .int d, .int l, .int s, .int f]
  | .strike d => .tuple [.str "strike", .int d]
  | .tariff t => .tuple [.str "tariff", .int t.d, .int t.st, .int t.lo, .int t.li, .int t.hi]
  | .bill d => .tuple [.str "bill", .int d]
  | .use d => .tuple [.str "use", .int d]
  | .owed d => .tuple [.str "owed", .int d]
structure PSt where
  h : List Ent
  ts : List Tar
  bs : List I2
def encS (S : PSt) : D := .tuple [encH S.h, tarsT S.ts, encB S.bs]
/-- the first reading of that day, not struck, is struck -/
def strikeT (day : Int) : List Ent → Option (List Ent)
  | [] => none
  | e :: r => if isOpen day e = true then (match e with
    | .rd d v _ => some (.rd d v true :: r)
    | _ => none) else (strikeT day r).map (e :: ·)
structure OkS (S : PSt) : Prop where
  h : HW S.h
  hl : S.h.length < 200
  ts : ∀ t ∈ S.ts, GoodT2 t
  tl : S.ts.length ≤ 900
  bl : S.bs.length ≤ 900
theorem q_start_tariff : (("start" : Str) = "tariff") = False := by simp; decide +kernel
theorem q_start_bill : (("start" : Str) = "bill") = False := by simp; decide +kernel
theorem q_start_use : (("start" : Str) = "use") = False := by simp; decide +kernel
theorem q_start_owed : (("start" : Str) = "owed") = False := by simp; decide +kernel
theorem q_start_read : (("start" : Str) = "read") = False := by simp; decide +kernel
theorem q_start_change : (("start" : Str) = "change") = False := by simp; decide +kernel
theorem q_read_tariff : (("read" : Str) = "tariff") = False := by simp; decide +kernel
theorem q_read_bill : (("read" : Str) = "bill") = False := by simp; decide +kernel
theorem q_read_use : (("read" : Str) = "use") = False := by simp; decide +kernel
theorem q_read_owed : (("read" : Str) = "owed") = False := by simp; decide +kernel
theorem q_read_start : (("read" : Str) = "start") = False := by simp; decide +kernel
theorem q_read_change : (("read" : Str) = "change") = False := by simp; decide +kernel
theorem q_change_tariff : (("change" : Str) = "tariff") = False := by simp; decide +kernel
theorem q_change_bill : (("change" : Str) = "bill") = False := by simp; decide +kernel
theorem q_change_use : (("change" : Str) = "use") = False := by simp; decide +kernel
theorem q_change_owed : (("change" : Str) = "owed") = False := by simp; decide +kernel
theorem q_change_start : (("change" : Str) = "start") = False := by simp; decide +kernel
theorem q_change_read : (("change" : Str) = "read") = False := by simp; decide +kernel
theorem q_strike_tariff : (("strike" : Str) = "tariff") = False := by simp; decide +kernel
theorem q_strike_bill : (("strike" : Str) = "bill") = False := by simp; decide +kernel
theorem q_strike_use : (("strike" : Str) = "use") = False := by simp; decide +kernel
theorem q_strike_owed : (("strike" : Str) = "owed") = False := by simp; decide +kernel
theorem q_strike_start : (("strike" : Str) = "start") = False := by simp; decide +kernel
theorem q_strike_read : (("strike" : Str) = "read") = False := by simp; decide +kernel
theorem q_strike_change : (("strike" : Str) = "change") = False := by simp; decide +kernel
theorem q_tariff_bill : (("tariff" : Str) = "bill") = False := by simp; decide +kernel
theorem q_tariff_use : (("tariff" : Str) = "use") = False := by simp; decide +kernel
theorem q_tariff_owed : (("tariff" : Str) = "owed") = False := by simp; decide +kernel
theorem q_tariff_start : (("tariff" : Str) = "start") = False := by simp; decide +kernel
theorem q_tariff_read : (("tariff" : Str) = "read") = False := by simp; decide +kernel
theorem q_tariff_change : (("tariff" : Str) = "change") = False := by simp; decide +kernel
theorem q_bill_tariff : (("bill" : Str) = "tariff") = False := by simp; decide +kernel
theorem q_bill_use : (("bill" : Str) = "use") = False := by simp; decide +kernel
theorem q_bill_owed : (("bill" : Str) = "owed") = False := by simp; decide +kernel
theorem q_bill_start : (("bill" : Str) = "start") = False := by simp; decide +kernel
theorem q_bill_read : (("bill" : Str) = "read") = False := by simp; decide +kernel
theorem q_bill_change : (("bill" : Str) = "change") = False := by simp; decide +kernel
theorem q_use_tariff : (("use" : Str) = "tariff") = False := by simp; decide +kernel
theorem q_use_bill : (("use" : Str) = "bill") = False := by simp; decide +kernel
theorem q_use_owed : (("use" : Str) = "owed") = False := by simp; decide +kernel
theorem q_use_start : (("use" : Str) = "start") = False := by simp; decide +kernel
theorem q_use_read : (("use" : Str) = "read") = False := by simp; decide +kernel
theorem q_use_change : (("use" : Str) = "change") = False := by simp; decide +kernel
theorem q_owed_tariff : (("owed" : Str) = "tariff") = False := by simp; decide +kernel
theorem q_owed_bill : (("owed" : Str) = "bill") = False := by simp; decide +kernel
theorem q_owed_use : (("owed" : Str) = "use") = False := by simp; decide +kernel
theorem q_owed_start : (("owed" : Str) = "start") = False := by simp; decide +kernel
theorem q_owed_read : (("owed" : Str) = "read") = False := by simp; decide +kernel
theorem q_owed_change : (("owed" : Str) = "change") = False := by simp; decide +kernel
theorem HW.vh {h : List Ent} (H : HW h) : VH h := ⟨fun z => by
  obtain ⟨d, s, v, e, h1, _⟩ := H.first z
  exact ⟨d, s, v, e, h1⟩, fun i hi => by
  rcases H.rest i hi with ⟨d, v, k, e, _⟩ | ⟨d, l, s, f, e, h1, _⟩
  · exact .inl ⟨d, v, k, e⟩
  · exact .inr ⟨d, l, s, f, e, h1⟩⟩
theorem strikeT_some {day : Int} : ∀ {h : List Ent} {j : Nat} {v : Int}, h[j]? = some (.rd day v false) → (∀ (i : Nat), i < j → ∀ e, h[i]? = some e → isOpen day e = false) → strikeT day h = some (h.set j (.rd day v true))
  | [], j, v, hj, _ => by simp at hj
  | e :: r, 0, v, hj, _ => by
    cases hj
    have ho : isOpen day (.rd day v false) = true := (by simp : (decide (day = day) && !false) = true)
    unfold strikeT
    rw [if_pos ho]
    rfl
  | e :: r, j + 1, v, hj, hn => by
    have ho : isOpen day e = false := hn 0 (by omega) e rfl
    unfold strikeT
    rw [if_neg (by rw [ho]; exact Bool.false_ne_true), strikeT_some (h := r) (j := j) (v := v) hj fun i hi e he => hn (i + 1) (by omega) e he]
    rfl
theorem strikeT_none {day : Int} : ∀ {h : List Ent}, (∀ (j : Nat) e, h[j]? = some e → isOpen day e = false) → strikeT day h = none
  | [], _ => rfl
  | e :: r, hn => by
    have ho : isOpen day e = false := hn 0 e rfl
    unfold strikeT
    rw [if_neg (by rw [ho]; exact Bool.false_ne_true), strikeT_none (h := r) fun j e he => hn (j + 1) e he]
    rfl
theorem struck_spec {h : List Ent} {day : Int} (hl : h.length ≤ 1000) : f_p_struck [encH h, .int day] = (match strikeT day h with | some h' => .ok (encH h') | none => .exc .noReading) := by
  rcases first_of (isOpen day) h with ⟨_, f2⟩ | ⟨j, e, r, f1, f2, f3, _⟩
  · rw [strikeT_none f2]
    exact struck_no hl f2
  · obtain ⟨v, rfl⟩ := isOpen_rd f2
    rw [strikeT_some f1 f3]
    exact struck_yes hl f1 f3
theorem in_nl (a : Nat) (l : List Nat) : oIn (.int (a : Int)) (.list (nl l)) = .ok (.bool (decide (a ∈ l))) := by
  have e : nl l = (l.map fun n : Nat => (n : Int)).map .int := by rw [List.map_map]; rfl
  rw [e, in_ints]
  congr 2
  rw [Bool.eq_iff_iff, decide_eq_true_iff, decide_eq_true_iff, List.mem_map]
  constructor
  · rintro ⟨b, hb, e⟩
    rw [← Int.ofNat.inj e]
    exact hb
  · exact fun h => ⟨a, h, rfl⟩
theorem read_answer_spec {h : List Ent} (H : HW h) (h0 : 0 < h.length) {mo : Int} (mo0 : 0 ≤ mo) (mo1 : mo ≤ 1000000000000) : f_p_read_answer [encH h, .int mo] = .ok (if h.length - 1 ∈ pts h mo then .str "counts" else .str "doubted") := by
  refine wp_run rfl ?_
  show Wp b_p_read_answer [.val (encH h), .val (.int mo)] _
  unfold b_p_read_answer
  have hl := encH_len h
  have hp := points_spec H mo0 mo1
  have hi := in_nl (h.length - 1) (pts h mo)
  rw [show ((h.length - 1 : Nat) : Int) = (h.length : Int) - 1 by omega] at hi
  by_cases q : h.length - 1 ∈ pts h mo
  · rw [decide_eq_true q] at hi
    rw [if_pos q]
    refine wp_yes (by walk_at "ev") ?_
    exact wp_valS rfl
  · rw [decide_eq_false q] at hi
    rw [if_neg q]
    refine wp_no (by walk_at "ev") (wp_skip ?_)
    exact wp_val rfl
end Mg
namespace Mg
open PySem PySem.Spec PyProof.Rows L2
theorem wp_retX {f : EX} {env : Env} {c : Xc} (h : f env = .exc c) : Wp (sRet f) env (isOut (.exc c)) := by
  show outAn ((f env).thn env _) = _
  rw [h]
  rfl
theorem wp_retSX {f : EX} {t : SX} {env : Env} {c : Xc} (h : f env = .exc c) : Wp (sSeq (sRet f) t) env (isOut (.exc c)) := by
  show outAn (((f env).thn env _).thn t) = _
  rw [h]
  rfl
/-- what begun, read_on, changed_on, struck make of a history -/
def entryT (h : List Ent) : Deed → An (List Ent)
  | .start d s v => if 0 < h.length then .exc .stands else if s ≤ v then .exc .noValue else .ok [.st d s v]
  | .read d v => if h.length = 0 then .exc .noMeter else if d ≤ lastDay h then .exc .notLater else if lastSize h ≤ v then .exc .noValue else .ok (h ++ [.rd d v false])
  | .change d l s f => if h.length = 0 then .exc .noMeter else if d ≤ lastDay h then .exc .notLater else if lastSize h ≤ l ∨ s ≤ f then .exc .noValue else .ok (h ++ [.ch d l s f])
  | .strike d => (match strikeT d h with
    | some h => .ok h
    | none => .exc .noReading)
  | _ => .bad
theorem entryT_start {h : List Ent} {d s v : Int} : entryT h (.start d s v) = if 0 < h.length then .exc .stands else if s ≤ v then .exc .noValue else .ok [.st d s v] := rfl
theorem entryT_read {h : List Ent} {d v : Int} : entryT h (.read d v) = if h.length = 0 then .exc .noMeter else if d ≤ lastDay h then .exc .notLater else if lastSize h ≤ v then .exc .noValue else .ok (h ++ [.rd d v false]) := rfl
theorem entryT_change {h : List Ent} {d l s f : Int} : entryT h (.change d l s f) = if h.length = 0 then .exc .noMeter else if d ≤ lastDay h then .exc .notLater else if lastSize h ≤ l ∨ s ≤ f then .exc .noValue else .ok (h ++ [.ch d l s f]) := rfl
theorem entryT_strike {h : List Ent} {d : Int} : entryT h (.strike d) = (match strikeT d h with
    | some h => .ok h
    | none => .exc .noReading) := rfl
def encHA : An (List Ent) → An D
  | .ok h => .ok (encH h)
  | .exc c => .exc c
  | .bad => .bad
theorem encHA_ne {a : An (List Ent)} (h : a ≠ .bad) : (∃ x, a = .ok x ∧ encHA a = .ok (encH x)) ∨ ∃ c, a = .exc c ∧ encHA a = .exc c := by
  cases a with
  | bad => exact absurd rfl h
  | ok x => exact .inl ⟨x, rfl, rfl⟩
  | exc c => exact .inr ⟨c, rfl, rfl⟩
theorem begun_spec {h : List Ent} {d s v : Int} : f_p_begun [encH h, .int d, .int s, .int v] = encHA (entryT h (.start d s v)) := by
  rw [entryT_start]
  by_cases h1 : 0 < h.length
  · rw [if_pos h1]
    exact begun_stands h1
  · rw [if_neg h1]
    by_cases h2 : s ≤ v
    · rw [if_pos h2]
      exact begun_value (by omega) h2
    · rw [if_neg h2]
      exact begun_ok (by omega) h2
theorem read_spec {h : List Ent} {d v : Int} (hl : h.length ≤ 1000) : f_p_read_on [encH h, .int d, .int v] = encHA (entryT h (.read d v)) := by
  rw [entryT_read]
  by_cases h1 : h.length = 0
  · rw [if_pos h1]
    exact read_exc (later_none h1)
  · rw [if_neg h1]
    by_cases h2 : d ≤ lastDay h
    · rw [if_pos h2]
      exact read_exc (later_not (by omega) h2)
    · rw [if_neg h2]
      by_cases h3 : lastSize h ≤ v
      · rw [if_pos h3]
        exact read_value (by omega) h2 h3
      · rw [if_neg h3]
        exact read_ok hl (by omega) h2 h3
theorem changed_spec {h : List Ent} {d l s f : Int} (hl : h.length ≤ 1000) : f_p_changed_on [encH h, .int d, .int l, .int s, .int f] = encHA (entryT h (.change d l s f)) := by
  rw [entryT_change]
  by_cases h1 : h.length = 0
  · rw [if_pos h1]
    exact changed_exc (later_none h1)
  · rw [if_neg h1]
    by_cases h2 : d ≤ lastDay h
    · rw [if_pos h2]
      exact changed_exc (later_not (by omega) h2)
    · rw [if_neg h2]
      by_cases h3 : lastSize h ≤ l ∨ s ≤ f
      · rw [if_pos h3]
        exact changed_value (by omega) h2 h3
      · rw [if_neg h3]
        exact changed_ok hl (by omega) h2 (fun z => h3 (.inl z)) (fun z => h3 (.inr z))
theorem struck_spec2 {h : List Ent} {d : Int} (hl : h.length ≤ 1000) : f_p_struck [encH h, .int d] = encHA (entryT h (.strike d)) := by
  rw [struck_spec hl]
  rw [entryT_strike]
  cases strikeT d h <;> rfl
def isEnt : Deed → Prop
  | .start _ _ _ => True
  | .read _ _ => True
  | .change _ _ _ _ => True
  | .strike _ => True
  | _ => False
theorem wp_retA {f : EX} {env : Env} {a : An D} (h : f env = a) (hn : a ≠ .bad) : Wp (sRet f) env (isOut a) := by
  cases a with
  | bad => exact absurd rfl hn
  | ok d => exact wp_val h
  | exc c => exact wp_retX h
theorem wp_retSA {f : EX} {t : SX} {env : Env} {a : An D} (h : f env = a) (hn : a ≠ .bad) : Wp (sSeq (sRet f) t) env (isOut a) := by
  cases a with
  | bad => exact absurd rfl hn
  | ok d => exact wp_valS h
  | exc c => exact wp_retSX h
theorem entryT_nb {h : List Ent} {dd : Deed} (he : isEnt dd) : entryT h dd ≠ .bad := by
  cases dd with
  | start d s v =>
    rw [entryT_start]
    split
    · exact fun z => nomatch z
    · split <;> exact fun z => nomatch z
  | read d v =>
    rw [entryT_read]
    split
    · exact fun z => nomatch z
    · split
      · exact fun z => nomatch z
      · split <;> exact fun z => nomatch z
  | change d l s f =>
    rw [entryT_change]
    split
    · exact fun z => nomatch z
    · split
      · exact fun z => nomatch z
      · split <;> exact fun z => nomatch z
  | strike d =>
    show (match strikeT d h with | some h => An.ok h | none => .exc .noReading) ≠ .bad
    cases strikeT d h <;> exact fun z => nomatch z
  | _ => exact he.elim
theorem encHA_nb {a : An (List Ent)} (h : a ≠ .bad) : encHA a ≠ .bad := by
  cases a with
  | bad => exact absurd rfl h
  | ok x => exact fun z => nomatch z
  | exc c => exact fun z => nomatch z
theorem entry_done_spec {h : List Ent} {dd : Deed} (he : isEnt dd) (hl : h.length ≤ 1000) : f_p_entry_done [encH h, encDd dd] = encHA (entryT h dd) := by
  have nb := encHA_nb (entryT_nb (h := h) he)
  refine wp_run rfl ?_
  show Wp b_p_entry_done [.val (encH h), .val (encDd dd)] _
  unfold b_p_entry_done
  cases dd with
  | start d s v =>
    have i0 : oIdx (encDd (.start d s v)) (.int 0) = .ok (.str "start") := idxT_at (by decide) rfl
    have i1 : oIdx (encDd (.start d s v)) (.int 1) = .ok (.int d) := idxT_at (by decide) rfl
    have i2 : oIdx (encDd (.start d s v)) (.int 2) = .ok (.int s) := idxT_at (by decide) rfl
    have i3 : oIdx (encDd (.start d s v)) (.int 3) = .ok (.int v) := idxT_at (by decide) rfl
    have hs := begun_spec (h := h) (d := d) (s := s) (v := v)
    refine wp_yes (by walk_at "ev") ?_
    exact wp_retSA (by walk_at "ev") nb
  | read d v =>
    have i0 : oIdx (encDd (.read d v)) (.int 0) = .ok (.str "read") := idxT_at (by decide) rfl
    have i1 : oIdx (encDd (.read d v)) (.int 1) = .ok (.int d) := idxT_at (by decide) rfl
    have i2 : oIdx (encDd (.read d v)) (.int 2) = .ok (.int v) := idxT_at (by decide) rfl
    have q1 := q_read_start
    have hs := read_spec (h := h) (d := d) (v := v) hl
    refine wp_no (by walk_at "ev") (wp_skip ?_)
    refine wp_yes (by walk_at "ev") ?_
    exact wp_retSA (by walk_at "ev") nb
  | change d l s f =>
    have i0 : oIdx (encDd (.change d l s f)) (.int 0) = .ok (.str "change") := idxT_at (by decide) rfl
    have i1 : oIdx (encDd (.change d l s f)) (.int 1) = .ok (.int d) := idxT_at (by decide) rfl
    have i2 : oIdx (encDd (.change d l s f)) (.int 2) = .ok (.int l) := idxT_at (by decide) rfl
    have i3 : oIdx (encDd (.change d l s f)) (.int 3) = .ok (.int s) := idxT_at (by decide) rfl
    have i4 : oIdx (encDd (.change d l s f)) (.int 4) = .ok (.int f) := idxT_at (by decide) rfl
    have q1 := q_change_start
    have q2 := q_change_read
    have hs := changed_spec (h := h) (d := d) (l := l) (s := s) (f := f) hl
    refine wp_no (by walk_at "ev") (wp_skip ?_)
    refine wp_no (by walk_at "ev") (wp_skip ?_)
    refine wp_yes (by walk_at "ev") ?_
    exact wp_retSA (by walk_at "ev") nb
  | strike d =>
    have i0 : oIdx (encDd (.strike d)) (.int 0) = .ok (.str "strike") := idxT_at (by decide) rfl
    have i1 : oIdx (encDd (.strike d)) (.int 1) = .ok (.int d) := idxT_at (by decide) rfl
    have q1 := q_strike_start
    have q2 := q_strike_read
    have q3 := q_strike_change
    have hs := struck_spec2 (h := h) (d := d) hl
    refine wp_no (by walk_at "ev") (wp_skip ?_)
    refine wp_no (by walk_at "ev") (wp_skip ?_)
    refine wp_no (by walk_at "ev") (wp_skip ?_)
    exact wp_retA (by walk_at "ev") nb
  | _ => exact he.elim
end Mg
namespace Mg
open PySem PySem.Spec PyProof.Rows L2
def ansT (mo : Int) (h : List Ent) : Deed → D
  | .read _ _ => if h.length - 1 ∈ pts h mo then .str "counts" else .str "doubted"
  | _ => .str "done"
def doneT (mo : Int) (S : PSt) : Deed → An (D × PSt)
  | .tariff t => if t.d ∈ S.ts.map (·.d) then .exc .stands else .ok (.str "done", ⟨S.h, insT S.ts t, S.bs⟩)
  | .bill d => if S.h.length = 0 then .exc .noMeter else if 0 < S.bs.length ∧ d < (lastB S.bs).1 then .exc .notLater else .ok (.int (owedT S.h mo S.ts d - sumB S.bs), ⟨S.h, S.ts, S.bs ++ [(d, owedT S.h mo S.ts d - sumB S.bs)]⟩)
  | .use d => .ok (.int (useIn (spL S.h (pts S.h mo)) d), S)
  | .owed d => if S.h.length = 0 then .exc .noMeter else .ok (.int (owedT S.h mo S.ts d), S)
  | .start d s v => (entryT S.h (.start d s v)).bnd fun h => .ok (ansT mo h (.start d s v), ⟨h, S.ts, S.bs⟩)
  | .read d v => (entryT S.h (.read d v)).bnd fun h => .ok (ansT mo h (.read d v), ⟨h, S.ts, S.bs⟩)
  | .change d l s f => (entryT S.h (.change d l s f)).bnd fun h => .ok (ansT mo h (.change d l s f), ⟨h, S.ts, S.bs⟩)
  | .strike d => (entryT S.h (.strike d)).bnd fun h => .ok (ansT mo h (.strike d), ⟨h, S.ts, S.bs⟩)
theorem doneT_tariff {mo : Int} {S : PSt} {t : Tar} : doneT mo S (.tariff t) = if t.d ∈ S.ts.map (·.d) then .exc .stands else .ok (.str "done", ⟨S.h, insT S.ts t, S.bs⟩) := rfl
theorem doneT_bill {mo : Int} {S : PSt} {d : Int} : doneT mo S (.bill d) = if S.h.length = 0 then .exc .noMeter else if 0 < S.bs.length ∧ d < (lastB S.bs).1 then .exc .notLater else .ok (.int (owedT S.h mo S.ts d - sumB S.bs), ⟨S.h, S.ts, S.bs ++ [(d, owedT S.h mo S.ts d - sumB S.bs)]⟩) := rfl
theorem doneT_use {mo : Int} {S : PSt} {d : Int} : doneT mo S (.use d) = .ok (.int (useIn (spL S.h (pts S.h mo)) d), S) := rfl
theorem doneT_owed {mo : Int} {S : PSt} {d : Int} : doneT mo S (.owed d) = if S.h.length = 0 then .exc .noMeter else .ok (.int (owedT S.h mo S.ts d), S) := rfl
theorem doneT_ent {mo : Int} {S : PSt} {dd : Deed} (he : isEnt dd) : doneT mo S dd = (entryT S.h dd).bnd fun h => .ok (ansT mo h dd, ⟨h, S.ts, S.bs⟩) := by
  cases dd <;> first | rfl | exact he.elim
/-- the days of bills, uses, debts -/
def OkD : Deed → Prop
  | .bill d => 0 ≤ d ∧ d ≤ 20000
  | .use d => 0 ≤ d ∧ d ≤ 20000
  | .owed d => 0 ≤ d ∧ d ≤ 20000
  | _ => True
def encA : An (D × PSt) → An D
  | .ok x => .ok (.tuple [x.1, encS x.2])
  | .exc c => .exc c
  | .bad => .bad
theorem done_spec {mo : Int} (mo0 : 0 ≤ mo) (mo1 : mo ≤ 1000000000000) {S : PSt} (K : OkS S) {dd : Deed} (kd : OkD dd) (hN : ∀ h', entryT S.h dd = .ok h' → HW h') : f_p_done [encS S, .int mo, encDd dd] = encA (doneT mo S dd) := by
  refine wp_run rfl ?_
  show Wp b_p_done [.val (encS S), .val (.int mo), .val (encDd dd), .un, .un, .un, .un, .un, .un] _
  unfold b_p_done
  refine wp_asg (encS S) [.val (encS S), .val (.int mo), .val (encDd dd), .un, .un, .val (encH S.h), .val (tarsT S.ts), .val (encB S.bs), .un] rfl rfl ?_
  obtain ⟨KH, Khl, Kts, Ktl, Kbl⟩ := K
  cases dd with
  | tariff t =>
    have i0 : oIdx (encDd (.tariff t)) (.int 0) = .ok (.str "tariff") := idxT_at (by decide) rfl
    have sl : oSl (encDd (.tariff t)) (some 1) none = .ok (encT t) := rfl
    rw [doneT_tariff]
    refine wp_yes (by walk_at "ev") ?_
    by_cases q : t.d ∈ S.ts.map (·.d)
    · rw [if_pos q]
      have hw := with_no (show S.ts.length ≤ 1000 by omega) q
      exact wp_retSX (by walk_at "ev")
    · rw [if_neg q]
      have hw : f_p_with_tariff [tarsT S.ts, encT t] = .ok (tarsT (insT S.ts t)) := with_yes (show S.ts.length ≤ 1000 by omega) q
      exact wp_valS (by unfold encS; walk_at "ev")
  | bill d =>
    have i0 : oIdx (encDd (.bill d)) (.int 0) = .ok (.str "bill") := idxT_at (by decide) rfl
    have i1 : oIdx (encDd (.bill d)) (.int 1) = .ok (.int d) := idxT_at (by decide) rfl
    have q1 := q_bill_tariff
    obtain ⟨d0, d1⟩ := kd
    rw [doneT_bill]
    refine wp_no (by walk_at "ev") (wp_skip ?_)
    by_cases hz : S.h.length = 0
    · rw [if_pos hz]
      have hb : f_p_with_bill [encH S.h, .int mo, tarsT S.ts, encB S.bs, .int d] = .exc .noMeter := by
        rw [List.length_eq_zero_iff.mp hz]
        exact bill_none
      refine wp_yes (by walk_at "ev") (wp_assoc ?_)
      exact wp_setX (by walk_at "ev")
    · rw [if_neg hz]
      by_cases q : 0 < S.bs.length ∧ d < (lastB S.bs).1
      · rw [if_pos q]
        have hb := bill_later KH (by omega) mo0 mo1 Kts d0 d1 (show S.bs.length ≤ 1000 by omega) q.1 q.2
        refine wp_yes (by walk_at "ev") (wp_assoc ?_)
        exact wp_setX (by walk_at "ev")
      · rw [if_neg q]
        have hb := bill_ok KH (by omega) mo0 mo1 Kts d0 d1 (show S.bs.length ≤ 1000 by omega) (fun z z2 => q ⟨z, z2⟩)
        have hlb := encB_last (bs := S.bs ++ [(d, owedT S.h mo S.ts d - sumB S.bs)]) (by simp)
        rw [lastB_snoc] at hlb
        have b1 := enc2_1 (d, owedT S.h mo S.ts d - sumB S.bs)
        dsimp only at b1
        generalize hB : S.bs ++ [(d, owedT S.h mo S.ts d - sumB S.bs)] = bs2 at *
        generalize owedT S.h mo S.ts d - sumB S.bs = am at *
        refine wp_yes (by walk_at "ev") (wp_assoc ?_)
        refine wp_set (encB bs2) (by walk_at "ev") ?_
        clear hb
        exact wp_valS (by unfold encS; walk_at "ev")
  | use d =>
    have i0 : oIdx (encDd (.use d)) (.int 0) = .ok (.str "use") := idxT_at (by decide) rfl
    have i1 : oIdx (encDd (.use d)) (.int 1) = .ok (.int d) := idxT_at (by decide) rfl
    have q1 := q_use_tariff
    have q2 := q_use_bill
    obtain ⟨d0, d1⟩ := kd
    have hu := use_on_spec KH mo0 mo1 d0 d1
    rw [doneT_use]
    refine wp_no (by walk_at "ev") (wp_skip ?_)
    refine wp_no (by walk_at "ev") (wp_skip ?_)
    refine wp_yes (by walk_at "ev") ?_
    exact wp_valS (by unfold encS; walk_at "ev")
  | owed d =>
    have i0 : oIdx (encDd (.owed d)) (.int 0) = .ok (.str "owed") := idxT_at (by decide) rfl
    have i1 : oIdx (encDd (.owed d)) (.int 1) = .ok (.int d) := idxT_at (by decide) rfl
    have q1 := q_owed_tariff
    have q2 := q_owed_bill
    have q3 := q_owed_use
    obtain ⟨d0, d1⟩ := kd
    rw [doneT_owed]
    refine wp_no (by walk_at "ev") (wp_skip ?_)
    refine wp_no (by walk_at "ev") (wp_skip ?_)
    refine wp_no (by walk_at "ev") (wp_skip ?_)
    by_cases hz : S.h.length = 0
    · rw [if_pos hz]
      have hb : f_p_owed [encH S.h, .int mo, tarsT S.ts, .int d] = .exc .noMeter := by
        rw [List.length_eq_zero_iff.mp hz]
        exact owed_none
      refine wp_yes (by walk_at "ev") ?_
      exact wp_retSX (by walk_at "ev")
    · rw [if_neg hz]
      have hb := owed_spec KH (by omega) mo0 mo1 Kts d0 d1
      refine wp_yes (by walk_at "ev") ?_
      exact wp_valS (by unfold encS; walk_at "ev")
  | start d s v =>
    have i0 : oIdx (encDd (.start d s v)) (.int 0) = .ok (.str "start") := idxT_at (by decide) rfl
    have q1 := q_start_tariff
    have q2 := q_start_bill
    have q3 := q_start_use
    have q4 := q_start_owed
    have q5 := q_start_read
    have he := entry_done_spec (h := S.h) (dd := .start d s v) trivial (by omega)
    rw [doneT_ent (dd := (.start d s v)) trivial]
    refine wp_no (by walk_at "ev") (wp_skip ?_)
    refine wp_no (by walk_at "ev") (wp_skip ?_)
    refine wp_no (by walk_at "ev") (wp_skip ?_)
    refine wp_no (by walk_at "ev") (wp_skip ?_)
    rcases encHA_ne (entryT_nb (h := S.h) (dd := .start d s v) trivial) with ⟨h', e1, e2⟩ | ⟨c, e1, e2⟩
    · rw [e2] at he
      rw [e1]
      refine wp_set (encH h') (by walk_at "ev") ?_
      refine wp_set (.str "done") rfl ?_
      refine wp_no (by walk_at "ev") (wp_skip ?_)
      exact wp_val rfl
    · rw [e2] at he
      rw [e1]
      exact wp_setX (by walk_at "ev")
  | change d l s f =>
    have i0 : oIdx (encDd (.change d l s f)) (.int 0) = .ok (.str "change") := idxT_at (by decide) rfl
    have q1 := q_change_tariff
    have q2 := q_change_bill
    have q3 := q_change_use
    have q4 := q_change_owed
    have q5 := q_change_read
    have he := entry_done_spec (h := S.h) (dd := .change d l s f) trivial (by omega)
    rw [doneT_ent (dd := (.change d l s f)) trivial]
    refine wp_no (by walk_at "ev") (wp_skip ?_)
    refine wp_no (by walk_at "ev") (wp_skip ?_)
    refine wp_no (by walk_at "ev") (wp_skip ?_)
    refine wp_no (by walk_at "ev") (wp_skip ?_)
    rcases encHA_ne (entryT_nb (h := S.h) (dd := .change d l s f) trivial) with ⟨h', e1, e2⟩ | ⟨c, e1, e2⟩
    · rw [e2] at he
      rw [e1]
      refine wp_set (encH h') (by walk_at "ev") ?_
      refine wp_set (.str "done") rfl ?_
      refine wp_no (by walk_at "ev") (wp_skip ?_)
      exact wp_val rfl
    · rw [e2] at he
      rw [e1]
      exact wp_setX (by walk_at "ev")
  | strike d =>
    have i0 : oIdx (encDd (.strike d)) (.int 0) = .ok (.str "strike") := idxT_at (by decide) rfl
    have q1 := q_strike_tariff
    have q2 := q_strike_bill
    have q3 := q_strike_use
    have q4 := q_strike_owed
    have q5 := q_strike_read
    have he := entry_done_spec (h := S.h) (dd := .strike d) trivial (by omega)
    rw [doneT_ent (dd := (.strike d)) trivial]
    refine wp_no (by walk_at "ev") (wp_skip ?_)
    refine wp_no (by walk_at "ev") (wp_skip ?_)
    refine wp_no (by walk_at "ev") (wp_skip ?_)
    refine wp_no (by walk_at "ev") (wp_skip ?_)
    rcases encHA_ne (entryT_nb (h := S.h) (dd := .strike d) trivial) with ⟨h', e1, e2⟩ | ⟨c, e1, e2⟩
    · rw [e2] at he
      rw [e1]
      refine wp_set (encH h') (by walk_at "ev") ?_
      refine wp_set (.str "done") rfl ?_
      refine wp_no (by walk_at "ev") (wp_skip ?_)
      exact wp_val rfl
    · rw [e2] at he
      rw [e1]
      exact wp_setX (by walk_at "ev")
  | read d v =>
    have i0 : oIdx (encDd (.read d v)) (.int 0) = .ok (.str "read") := idxT_at (by decide) rfl
    have q1 := q_read_tariff
    have q2 := q_read_bill
    have q3 := q_read_use
    have q4 := q_read_owed
    have he := entry_done_spec (h := S.h) (dd := .read d v) trivial (by omega)
    rw [doneT_ent (dd := (.read d v)) trivial]
    refine wp_no (by walk_at "ev") (wp_skip ?_)
    refine wp_no (by walk_at "ev") (wp_skip ?_)
    refine wp_no (by walk_at "ev") (wp_skip ?_)
    refine wp_no (by walk_at "ev") (wp_skip ?_)
    rcases encHA_ne (entryT_nb (h := S.h) (dd := .read d v) trivial) with ⟨h', e1, e2⟩ | ⟨c, e1, e2⟩
    · rw [e2] at he
      have hw := hN h' e1
      have hp : 0 < h'.length := by
        rw [entryT_read] at e1
        split at e1
        · cases e1
        · split at e1
          · cases e1
          · split at e1
            · cases e1
            · cases e1
              simp
      have ha : f_p_read_answer [encH h', .int mo] = .ok (ansT mo h' (.read d v)) := read_answer_spec hw hp mo0 mo1
      rw [e1]
      refine wp_set (encH h') (by walk_at "ev") ?_
      refine wp_set (.str "done") rfl ?_
      refine wp_yes (by walk_at "ev") ?_
      clear he
      refine wp_set (ansT mo h' (.read d v)) (by walk_at "ev") ?_
      exact wp_val rfl
    · rw [e2] at he
      rw [e1]
      exact wp_setX (by walk_at "ev")
end Mg
namespace Mg
open PySem PySem.Spec PyProof.Rows L2
/-! ### play -/
def refT : Xc → Str
  | .noMeter => "no meter"
  | .notLater => "not later"
  | .noValue => "no value"
  | .noReading => "no reading"
  | .stands => "there already"
theorem refT_ok (c : Xc) : h_p_refused_as c = .str (refT c) := by cases c <;> rfl
def nextT (mo : Int) (S : PSt) (d : Deed) : PSt := match doneT mo S d with
  | .ok x => x.2
  | _ => S
def saysT (mo : Int) (S : PSt) (d : Deed) : D := match doneT mo S d with
  | .ok x => x.1
  | .exc c => .str (refT c)
  | .bad => .none
def RunOk (mo : Int) : PSt → List Deed → Prop
  | _, [] => True
  | S, d :: r => OkS S ∧ OkD d ∧ (∀ h', entryT S.h d = .ok h' → HW h') ∧ RunOk mo (nextT mo S d) r
/-- the state behind some deeds; the answers -/
def endT (mo : Int) : PSt → List Deed → PSt
  | S, [] => S
  | S, d :: r => endT mo (nextT mo S d) r
def answersT (mo : Int) : PSt → List Deed → List D
  | _, [] => []
  | S, d :: r => saysT mo S d :: answersT mo (nextT mo S d) r
theorem endT_app (mo : Int) : ∀ (a b : List Deed) (S : PSt), endT mo S (a ++ b) = endT mo (endT mo S a) b
  | [], _, _ => rfl
  | _ :: a, b, S => endT_app mo a b _
theorem answersT_app (mo : Int) : ∀ (a b : List Deed) (S : PSt), answersT mo S (a ++ b) = answersT mo S a ++ answersT mo (endT mo S a) b
  | [], _, _ => rfl
  | d :: a, b, S => by
    show saysT mo S d :: answersT mo (nextT mo S d) (a ++ b) = _
    rw [answersT_app mo a b _]
    rfl
theorem runOk_app (mo : Int) : ∀ (a b : List Deed) (S : PSt), RunOk mo S a → RunOk mo (endT mo S a) b → RunOk mo S (a ++ b)
  | [], _, _, _, h => h
  | d :: a, b, S, h, g => ⟨h.1, h.2.1, h.2.2.1, runOk_app mo a b _ h.2.2.2 g⟩
theorem answersT_len (mo : Int) : ∀ (a : List Deed) (S : PSt), (answersT mo S a).length = a.length
  | [], _ => rfl
  | _ :: a, S => congrArg (· + 1) (answersT_len mo a _)
theorem doneT_nb {mo : Int} {S : PSt} {d : Deed} : doneT mo S d ≠ .bad := by
  have ent : ∀ dd : Deed, isEnt dd → doneT mo S dd ≠ .bad := fun dd he => by
    rw [doneT_ent he]
    have := entryT_nb (h := S.h) he
    cases e : entryT S.h dd with
    | bad => exact absurd e this
    | ok x => exact fun z => nomatch z
    | exc c => exact fun z => nomatch z
  cases d with
  | tariff t =>
    rw [doneT_tariff]
    split <;> exact fun z => nomatch z
  | bill d =>
    rw [doneT_bill]
    split
    · exact fun z => nomatch z
    · split <;> exact fun z => nomatch z
  | use d => exact fun z => nomatch z
  | owed d =>
    rw [doneT_owed]
    split <;> exact fun z => nomatch z
  | start d s v => exact ent _ trivial
  | read d v => exact ent _ trivial
  | change d l s f => exact ent _ trivial
  | strike d => exact ent _ trivial
abbrev sTurn : SX := (sSeq (sTry 5 (sAsg (bTup [6, 2]) (xApp f_p_done (aCons (xVar 2) (aCons (xVar 0) (aCons (xVar 4) aNil))))) (fun e => (sSet 6 (xHot 5 (h_p_refused_as e))))) (sApp 3 (xVar 6)))
theorem play_turn {mo : Int} (mo0 : 0 ≤ mo) (mo1 : mo ≤ 1000000000000) {S : PSt} {d : Deed} (K : OkS S) (kd : OkD d) (hN : ∀ h', entryT S.h d = .ok h' → HW h') {G : D} {ans : List D} (hl : ans.length ≤ 100000) {x6 : Slot} (p6 : x6.plain = true) :
    sTurn [.val (.int mo), .val G, .val (encS S), .own ans, .val (encDd d), .un, x6] = .nx [.val (.int mo), .val G, .val (encS (nextT mo S d)), .own (ans ++ [saysT mo S d]), .val (encDd d), .un, .val (saysT mo S d)] := by
  have hd := done_spec mo0 mo1 K kd hN
  show Wp sTurn _ (fun o => o = _)
  unfold nextT saysT
  cases e : doneT mo S d with
  | bad => exact absurd e doneT_nb
  | ok x =>
    rw [e] at hd
    replace hd : f_p_done [encS S, .int mo, encDd d] = .ok (.tuple [x.1, encS x.2]) := hd
    have ha : sAsg (bTup [6, 2]) (xApp f_p_done (aCons (xVar 2) (aCons (xVar 0) (aCons (xVar 4) aNil)))) [.val (.int mo), .val G, .val (encS S), .own ans, .val (encDd d), .un, x6] = .nx [.val (.int mo), .val G, .val (encS x.2), .own ans, .val (encDd d), .un, .val x.1] := by
      have h2 : xApp f_p_done (aCons (xVar 2) (aCons (xVar 0) (aCons (xVar 4) aNil))) [.val (.int mo), .val G, .val (encS S), .own ans, .val (encDd d), .un, x6] = .ok (.tuple [x.1, encS x.2]) := by walk_at "ev"
      show (xApp _ _ _).thn _ _ = _
      rw [h2]
      rfl
    refine wp_trynx (by walk_at "plain") ha (by walk_at "plain") ?_
    exact wp_app0 ans x.1 rfl hl rfl rfl
  | exc c =>
    rw [e] at hd
    replace hd : f_p_done [encS S, .int mo, encDd d] = .exc c := hd
    have ha : sAsg (bTup [6, 2]) (xApp f_p_done (aCons (xVar 2) (aCons (xVar 0) (aCons (xVar 4) aNil)))) [.val (.int mo), .val G, .val (encS S), .own ans, .val (encDd d), .un, x6] = .exc c [.val (.int mo), .val G, .val (encS S), .own ans, .val (encDd d), .un, x6] := by
      have h2 : xApp f_p_done (aCons (xVar 2) (aCons (xVar 0) (aCons (xVar 4) aNil))) [.val (.int mo), .val G, .val (encS S), .own ans, .val (encDd d), .un, x6] = .exc c := by walk_at "ev"
      show (xApp _ _ _).thn _ _ = _
      rw [h2]
      rfl
    refine wp_tryex (x := c) (env2 := [.val (.int mo), .val G, .val (encS S), .own ans, .val (encDd d), .err, .val (.str (refT c))]) (by walk_at "plain") ha (by walk_at "plain") ?_ rfl ?_
    · rw [refT_ok]
      rfl
    · exact wp_app0 ans (.str (refT c)) rfl hl rfl rfl
theorem play_loop {mo : Int} (mo0 : 0 ≤ mo) (mo1 : mo ≤ 1000000000000) {G : D} : ∀ (ds : List Deed) (S : PSt) (ans : List D) (x4 x6 : Slot), RunOk mo S ds → ans.length + ds.length ≤ 10000 → x6.plain = true →
    ∃ y4 y6, sLoop (bName 4) sTurn (ds.map encDd) [.val (.int mo), .val G, .val (encS S), .own ans, x4, .un, x6] = .nx [.val (.int mo), .val G, .val (encS (endT mo S ds)), .own (ans ++ answersT mo S ds), y4, .un, y6]
  | [], S, ans, x4, x6, _, _, _ => ⟨x4, x6, by
    show Out.nx _ = _
    rw [show answersT mo S [] = [] from rfl, List.append_nil]
    rfl⟩
  | d :: r, S, ans, x4, x6, R, hl, p6 => by
    obtain ⟨K, kd, hN, R'⟩ := R
    rw [List.length_cons] at hl
    obtain ⟨y4, y6, e⟩ := play_loop mo0 mo1 (G := G) r (nextT mo S d) (ans ++ [saysT mo S d]) (.val (encDd d)) (.val (saysT mo S d)) R' (by simp; omega) rfl
    refine ⟨y4, y6, ?_⟩
    show sLoop (bName 4) sTurn (encDd d :: r.map encDd) _ = _
    rw [loop_cons (env1 := [.val (.int mo), .val G, .val (encS S), .own ans, .val (encDd d), .un, x6]) rfl (.inl (play_turn mo0 mo1 K kd hN (by omega) p6)), e, List.append_assoc]
    rfl
def S0 : PSt := ⟨[], [], []⟩
theorem play_spec {mo : Int} (mo0 : 0 ≤ mo) (mo1 : mo ≤ 1000000000000) {ds : List Deed} (R : RunOk mo S0 ds) (hl : ds.length ≤ 10000) : f_p_play [.int mo, .list (ds.map encDd)] = .ok (.tuple [.list (answersT mo S0 ds), encS (endT mo S0 ds)]) := by
  refine wp_run rfl ?_
  show Wp b_p_play [.val (.int mo), .val (.list (ds.map encDd)), .un, .un, .un, .un, .un] _
  unfold b_p_play
  refine wp_set (encS S0) rfl ?_
  refine wp_own [] rfl ?_
  obtain ⟨y4, y6, e⟩ := play_loop mo0 mo1 (G := .list (ds.map encDd)) ds S0 [] .un .un R (by simpa using hl) rfl
  refine wp_seq (for_go (ev_itL rfl) e) ?_
  rw [List.nil_append]
  exact wp_frz (answersT mo S0 ds) rfl (wp_val rfl)
end Mg
namespace Mg
open PySem PySem.Spec PyProof.Rows L2
/-! ### the law's account kept alongside: k11 -/
def encFs (h : List Ent) (tl : List Tar) (bs : List I2) : Flds := [(.inr "history", .d (encH h)), (.inr "tariffs", .l (tl.map encT)), (.inr "bills", .l (bs.map enc2))]
theorem size_now_spec {h : List Ent} (H : VH h) : f_l_size_now [encH h] = .ok (.int (if h.length = 0 then 10 else lastSize h)) := by
  refine wp_run rfl ?_
  show Wp b_l_size_now [.val (encH h), .un, .un] _
  unfold b_l_size_now
  refine wp_set (.int 10) rfl ?_
  refine wp_fold (enc := encE) szStep (fun s env => ∃ x, env = [.val (encH h), .val (.int s), x]) h 10 (ev_itT rfl) ⟨_, rfl⟩ ?_ ?_
  · rintro s e _ _ ⟨x, rfl⟩
    refine ⟨_, rfl, ?_⟩
    show Wp _ [.val (encH h), .val (.int s), .val (encE e)] _
    have a1 := k_sr
    have a2 := k_cr
    have a3 := k_sc
    cases e with
    | st d z v =>
      have h0 := st_0 (d := d) (s := z) (v := v)
      exact wp_yes0 (by walk_at "ev") (wp_set0 (.int z) rfl (turn_nx ⟨_, rfl⟩))
    | rd d v k =>
      have h0 := rd_0 (d := d) (v := v) (k := k)
      have hr : decide (("read" : Str) = "read") = true := decide_eq_true rfl
      exact wp_no0 (by walk_at "ev") (wp_skip0 (turn_nx ⟨_, rfl⟩))
    | ch d l z f =>
      have h0 := ch_0 (d := d) (l := l) (s := z) (f := f)
      exact wp_yes0 (by walk_at "ev") (wp_set0 (.int z) rfl (turn_nx ⟨_, rfl⟩))
  · rintro _ ⟨x, rfl⟩
    have e : h.foldl szStep 10 = if h.length = 0 then 10 else lastSize h := by
      cases h with
      | nil => rfl
      | cons a r =>
        obtain ⟨d, s, v, q, _⟩ := H.first (by simp)
        have q : a = .st d s v := q
        subst q
        rw [if_neg (by simp)]
        unfold lastSize sizeAt
        rw [List.take_of_length_le (by simp)]
        rfl
    rw [← e]
    exact wp_val rfl
def shownT (h : List Ent) : Int := if h.length = 0 then 0 else (hat h (h.length - 1)).behind
theorem shown_now_spec {h : List Ent} : f_l_shown_now [encH h] = .ok (.int (shownT h)) := by
  refine wp_run rfl ?_
  show Wp b_l_shown_now [.val (encH h), .un] _
  unfold b_l_shown_now shownT
  have hl := encH_len h
  by_cases hz : h.length = 0
  · rw [if_pos hz]
    have hq : (h.length : Int) = 0 := by omega
    clear hz
    refine wp_yes (by walk_at "ev") ?_
    exact wp_valS rfl
  · rw [if_neg hz]
    have hq : ¬ (h.length : Int) = 0 := by omega
    have h1 := encH_last (h := h) (by omega)
    refine wp_no (by walk_at "ev") (wp_skip ?_)
    generalize hat h (h.length - 1) = e at *
    refine wp_set (encE e) (by walk_at "ev") ?_
    cases e <;> exact wp_val rfl
/-- the entry that a deed puts in -/
def entE : Deed → Ent
  | .start d s v => .st d s v
  | .read d v => .rd d v false
  | .change d l s f => .ch d l s f
  | _ => .st 0 0 0
def sayE (h : List Ent) (dd : Deed) : D := match entryT h dd with
  | .ok _ => encE (entE dd)
  | .exc c => .str (refT c)
  | .bad => .none
theorem entry_of_start {h : List Ent} {d s v : Int} : f_l_entry_of [encH h, encDd (.start d s v)] = .ok (sayE h (.start d s v)) := by
  have i0 : oIdx (encDd (.start d s v)) (.int 0) = .ok (.str "start") := idxT_at (by decide) rfl
  have i2 : oIdx (encDd (.start d s v)) (.int 2) = .ok (.int s) := idxT_at (by decide) rfl
  have i3 : oIdx (encDd (.start d s v)) (.int 3) = .ok (.int v) := idxT_at (by decide) rfl
  have hl := encH_len h
  refine wp_run rfl ?_
  show Wp b_l_entry_of [.val (encH h), .val (encDd (.start d s v))] _
  unfold b_l_entry_of sayE
  rw [entryT_start]
  refine wp_yes (by walk_at "ev") (wp_assoc ?_)
  by_cases h1 : 0 < h.length
  · rw [if_pos h1]
    have hq : 0 < (h.length : Int) := by omega
    refine wp_yes (by walk_at "ev") ?_
    exact wp_valS rfl
  · rw [if_neg h1]
    have hq : ¬ 0 < (h.length : Int) := by omega
    refine wp_no (by walk_at "ev") (wp_skip (wp_assoc ?_))
    by_cases h2 : s ≤ v
    · rw [if_pos h2]
      refine wp_yes (by walk_at "ev") ?_
      exact wp_valS rfl
    · rw [if_neg h2]
      refine wp_no (by walk_at "ev") (wp_skip ?_)
      exact wp_valS rfl
theorem entry_of_read {h : List Ent} (H : VH h) {d v : Int} : f_l_entry_of [encH h, encDd (.read d v)] = .ok (sayE h (.read d v)) := by
  have i0 : oIdx (encDd (.read d v)) (.int 0) = .ok (.str "read") := idxT_at (by decide) rfl
  have i1 : oIdx (encDd (.read d v)) (.int 1) = .ok (.int d) := idxT_at (by decide) rfl
  have i2 : oIdx (encDd (.read d v)) (.int 2) = .ok (.int v) := idxT_at (by decide) rfl
  have q1 := q_read_start
  have q2 := q_read_change
  have hl := encH_len h
  have hs := size_now_spec H
  refine wp_run rfl ?_
  show Wp b_l_entry_of [.val (encH h), .val (encDd (.read d v))] _
  unfold b_l_entry_of sayE
  rw [entryT_read]
  refine wp_no (by walk_at "ev") (wp_skip ?_)
  by_cases h1 : h.length = 0
  · rw [if_pos h1]
    have hq : (h.length : Int) = 0 := by omega
    clear hs h1
    refine wp_yes (by walk_at "ev") ?_
    exact wp_valS rfl
  · rw [if_neg h1]
    rw [if_neg h1] at hs
    have hq : ¬ (h.length : Int) = 0 := by omega
    have l1 := encH_last (h := h) (by omega)
    have l2 : oIdx (encE (hat h (h.length - 1))) (.int 1) = .ok (.int (lastDay h)) := encE_1 _
    refine wp_no (by walk_at "ev") (wp_skip ?_)
    by_cases h2 : d ≤ lastDay h
    · rw [if_pos h2]
      refine wp_yes (by walk_at "ev") ?_
      exact wp_valS rfl
    · rw [if_neg h2]
      refine wp_no (by walk_at "ev") (wp_skip ?_)
      by_cases h3 : lastSize h ≤ v
      · rw [if_pos h3]
        refine wp_yes (by walk_at "ev") ?_
        exact wp_valS rfl
      · rw [if_neg h3]
        refine wp_no (by walk_at "ev") (wp_skip ?_)
        refine wp_no (by walk_at "ev") (wp_skip ?_)
        exact wp_val rfl
theorem entry_of_change {h : List Ent} (H : VH h) {d l s f : Int} : f_l_entry_of [encH h, encDd (.change d l s f)] = .ok (sayE h (.change d l s f)) := by
  have i0 : oIdx (encDd (.change d l s f)) (.int 0) = .ok (.str "change") := idxT_at (by decide) rfl
  have i1 : oIdx (encDd (.change d l s f)) (.int 1) = .ok (.int d) := idxT_at (by decide) rfl
  have i2 : oIdx (encDd (.change d l s f)) (.int 2) = .ok (.int l) := idxT_at (by decide) rfl
  have i3 : oIdx (encDd (.change d l s f)) (.int 3) = .ok (.int s) := idxT_at (by decide) rfl
  have i4 : oIdx (encDd (.change d l s f)) (.int 4) = .ok (.int f) := idxT_at (by decide) rfl
  have q1 := q_change_start
  have hl := encH_len h
  have hs := size_now_spec H
  refine wp_run rfl ?_
  show Wp b_l_entry_of [.val (encH h), .val (encDd (.change d l s f))] _
  unfold b_l_entry_of sayE
  rw [entryT_change]
  refine wp_no (by walk_at "ev") (wp_skip ?_)
  by_cases h1 : h.length = 0
  · rw [if_pos h1]
    have hq : (h.length : Int) = 0 := by omega
    clear hs h1
    refine wp_yes (by walk_at "ev") ?_
    exact wp_valS rfl
  · rw [if_neg h1]
    rw [if_neg h1] at hs
    have hq : ¬ (h.length : Int) = 0 := by omega
    have l1 := encH_last (h := h) (by omega)
    have l2 : oIdx (encE (hat h (h.length - 1))) (.int 1) = .ok (.int (lastDay h)) := encE_1 _
    refine wp_no (by walk_at "ev") (wp_skip ?_)
    by_cases h2 : d ≤ lastDay h
    · rw [if_pos h2]
      refine wp_yes (by walk_at "ev") ?_
      exact wp_valS rfl
    · rw [if_neg h2]
      refine wp_no (by walk_at "ev") (wp_skip ?_)
      by_cases h3 : lastSize h ≤ l
      · rw [if_pos (.inl h3)]
        refine wp_yes (by walk_at "ev") ?_
        exact wp_valS rfl
      · refine wp_no (by walk_at "ev") (wp_skip ?_)
        refine wp_yes (by walk_at "ev") (wp_assoc ?_)
        by_cases h4 : s ≤ f
        · rw [if_pos (.inr h4)]
          refine wp_yes (by walk_at "ev") ?_
          exact wp_valS rfl
        · rw [if_neg (by rintro (z | z); exact h3 z; exact h4 z)]
          refine wp_no (by walk_at "ev") (wp_skip ?_)
          exact wp_valS rfl
/-- all readings of that day, not struck, are struck -/
def strkE (day : Int) (e : Ent) : Ent := match e with
  | .rd d v k => if isOpen day (.rd d v k) = true then .rd d v true else .rd d v k
  | e => e
theorem l_struck_spec {h : List Ent} {day : Int} (hl : h.length ≤ 1000) : f_l_struck [encH h, .int day] = .ok (encH (h.map (strkE day))) := by
  refine wp_run rfl ?_
  show Wp b_l_struck [.val (encH h), .val (.int day), .un, .un] _
  unfold b_l_struck
  refine wp_own [] rfl ?_
  refine wp_list (h.map encE) (fun i env => ∃ x, env = [.val (encH h), .val (.int day), .own (((h.take i).map (strkE day)).map encE), x]) (ev_itT rfl) ⟨_, rfl⟩ ?_ ?_
  · rintro i d _ hd ⟨x, rfl⟩
    have hi : i < h.length := by
      have := (List.getElem?_eq_some_iff.mp hd).1
      simpa using this
    rw [List.getElem?_map, hat_get hi] at hd
    cases hd
    refine ⟨_, rfl, ?_⟩
    have et : h.take (i + 1) = h.take i ++ [hat h i] := by
      rw [List.take_add_one, hat_get hi]
      rfl
    have hlen : (((h.take i).map (strkE day)).map encE).length ≤ 100000 := by simp; omega
    rw [et, List.map_append, List.map_append, List.map_cons, List.map_nil, List.map_cons, List.map_nil]
    generalize ((h.take i).map (strkE day)).map encE = acc at *
    generalize hat h i = e at *
    show Wp _ [.val (encH h), .val (.int day), .own acc, .val (encE e)] _
    have ht := open_test (f := xVar 3) (g := xVar 1) (env := [.val (encH h), .val (.int day), .own acc, .val (encE e)]) (e := e) (day := day) rfl rfl
    cases ho : isOpen day e with
    | true =>
      obtain ⟨v, rfl⟩ := isOpen_rd ho
      rw [ho] at ht
      have es : strkE day (.rd day v false) = .rd day v true := if_pos ho
      rw [es]
      refine wp_yes ht ?_
      refine wp_set (encE (.rd day v true)) rfl ?_
      exact wp_app0 acc (encE (.rd day v true)) rfl hlen rfl (turn_nx ⟨_, rfl⟩)
    | false =>
      rw [ho] at ht
      have es : strkE day e = e := by
        cases e with
        | rd d v k => exact if_neg (by rw [ho]; exact Bool.false_ne_true)
        | _ => rfl
      rw [es]
      refine wp_no ht (wp_skip ?_)
      exact wp_app0 acc (encE e) rfl hlen rfl (turn_nx ⟨_, rfl⟩)
  · rintro _ ⟨x, rfl⟩
    rw [List.length_map, List.take_length]
    exact wp_frz ((h.map (strkE day)).map encE) rfl (wp_val rfl)
end Mg
namespace Mg
open PySem PySem.Spec PyProof.Rows L2
/-! ### k11: a strike, told by all entries -/
theorem strkE_same {day : Int} {e : Ent} (h : isOpen day e = false) : strkE day e = e := by
  cases e with
  | rd d v k => exact if_neg (by rw [h]; exact Bool.false_ne_true)
  | _ => rfl
theorem strkE_day (day : Int) (e : Ent) : (strkE day e).day = e.day := by
  cases e with
  | rd d v k =>
    show (if isOpen day (.rd d v k) = true then Ent.rd d v true else .rd d v k).day = d
    split <;> rfl
  | _ => rfl
theorem strkE_sz (day : Int) (e : Ent) (s : Int) : szStep s (strkE day e) = szStep s e := by
  cases e with
  | rd d v k =>
    show szStep s (if isOpen day (.rd d v k) = true then Ent.rd d v true else .rd d v k) = s
    split <;> rfl
  | _ => rfl
theorem strk_none {day : Int} : ∀ {h : List Ent}, strikeT day h = none → h.map (strkE day) = h
  | [], _ => rfl
  | e :: r, q => by
    unfold strikeT at q
    cases ho : isOpen day e with
    | true =>
      obtain ⟨v, rfl⟩ := isOpen_rd ho
      rw [if_pos ho] at q
      cases q
    | false =>
      rw [if_neg (by rw [ho]; exact Bool.false_ne_true)] at q
      have q2 : strikeT day r = none := by
        cases z : strikeT day r with
        | none => rfl
        | some x =>
          rw [z] at q
          cases q
      rw [List.map_cons, strkE_same ho, strk_none q2]
theorem strk_some {day : Int} : ∀ {h h' : List Ent}, Days h → strikeT day h = some h' → h.map (strkE day) = h'
  | [], _, _, q => nomatch q
  | e :: r, h', D, q => by
    obtain ⟨D1, D2⟩ := List.pairwise_cons.mp D
    unfold strikeT at q
    cases ho : isOpen day e with
    | true =>
      obtain ⟨v, rfl⟩ := isOpen_rd ho
      rw [if_pos ho] at q
      cases q
      have hr : r.map (strkE day) = r := by
        refine (List.map_congr_left fun x hx => ?_).trans (List.map_id _)
        refine strkE_same ?_
        cases hx2 : isOpen day x with
        | false => rfl
        | true =>
          obtain ⟨v', rfl⟩ := isOpen_rd hx2
          have : day < day := D1 _ hx
          omega
      rw [List.map_cons, hr]
      exact congrArg (· :: r) (if_pos ho)
    | false =>
      rw [if_neg (by rw [ho]; exact Bool.false_ne_true)] at q
      cases z : strikeT day r with
      | none =>
        rw [z] at q
        cases q
      | some x =>
        rw [z] at q
        cases q
        rw [List.map_cons, strkE_same ho, strk_some D2 z]
theorem encH_sh (h : List Ent) : Sh 2 (encH h) := sh_tup (hist_sh h)
theorem eqv_self (d : D) {n : Nat} (h : Sh n d) (hn : n ≤ 64) : PyData.eqv d d = true := SeqAt.eqv_refl d (SeqAt.canLay_of_shaped (h.ok hn))
theorem strk_eqv {day : Int} : ∀ {h h' : List Ent}, strikeT day h = some h' → PyData.eqvAll (h'.map encE) (h.map encE) = false
  | [], _, q => nomatch q
  | e :: r, h', q => by
    unfold strikeT at q
    cases ho : isOpen day e with
    | true =>
      obtain ⟨v, rfl⟩ := isOpen_rd ho
      rw [if_pos ho] at q
      cases q
      simp [encE, PyData.eqv, PyData.eqvAll]
    | false =>
      rw [if_neg (by rw [ho]; exact Bool.false_ne_true)] at q
      cases z : strikeT day r with
      | none =>
        rw [z] at q
        cases q
      | some x =>
        rw [z] at q
        cases q
        have ih := strk_eqv z
        simp [PyData.eqvAll, ih]
theorem strk_eq_no (h : List Ent) : oEq (encH h) (encH h) = .ok (.bool true) := eqT_sh (hist_sh h) (by decide)
theorem strk_eq_yes {day : Int} {h h' : List Ent} (q : strikeT day h = some h') : oEq (encH h') (encH h) = .ok (.bool false) := by
  show (if (SeqAt.shaped (encH h') && SeqAt.shaped (encH h)) = true then An.ok (PyData.bool (PyData.eqv (encH h') (encH h))) else .bad) = _
  rw [(encH_sh h').ok (by decide), (encH_sh h).ok (by decide), if_pos (by rfl)]
  have e : PyData.eqv (encH h') (encH h) = false := by
    show PyData.eqv (.tuple (h'.map encE)) (.tuple (h.map encE)) = false
    simp [PyData.eqv, strk_eqv q]
  rw [e]
theorem hat_map (day : Int) (h : List Ent) (i : Nat) : hat (h.map (strkE day)) i = strkE day (hat h i) := by
  unfold hat
  rw [List.getD_eq_getElem?_getD, List.getD_eq_getElem?_getD, List.getElem?_map]
  cases h[i]? <;> rfl
theorem sizeAt_map (day : Int) (h : List Ent) (i : Nat) : sizeAt (h.map (strkE day)) i = sizeAt h i := by
  unfold sizeAt
  rw [← List.map_take, List.foldl_map]
  congr 1
  funext s e
  exact strkE_sz day e s
theorem HW.strk {h : List Ent} (H : HW h) (day : Int) : HW (h.map (strkE day)) := by
  refine ⟨by rw [List.length_map]; exact H.len, fun hp => ?_, fun i hi => ?_, fun i j hij hj => ?_, fun i hi => ?_⟩
  · rw [List.length_map] at hp
    obtain ⟨d, s, v, e, q⟩ := H.first hp
    exact ⟨d, s, v, by rw [hat_map, e]; rfl, q⟩
  · rw [List.length_map] at hi
    rw [sizeAt_map, hat_map]
    rcases H.rest i hi with ⟨d, v, k, e, q⟩ | ⟨d, l, s, f, e, q⟩
    · refine .inl ?_
      rw [e]
      show ∃ d' v' k', (if isOpen day (.rd d v k) = true then Ent.rd d v true else .rd d v k) = .rd d' v' k' ∧ _
      split
      · exact ⟨d, v, true, rfl, q⟩
      · exact ⟨d, v, k, rfl, q⟩
    · exact .inr ⟨d, l, s, f, by rw [e]; rfl, q⟩
  · rw [List.length_map] at hj
    rw [hat_map, hat_map, strkE_day, strkE_day]
    exact H.days i j hij hj
  · rw [List.length_map] at hi
    rw [hat_map, strkE_day]
    exact H.day0 i hi
theorem HW.Days {h : List Ent} (H : HW h) : Mg.Days h := by
  refine List.pairwise_iff_getElem.mpr fun i j hi hj hij => ?_
  have e := H.days i j hij hj
  have e1 := hat_get hi
  have e2 := hat_get hj
  rw [List.getElem?_eq_getElem hi] at e1
  rw [List.getElem?_eq_getElem hj] at e2
  rw [Option.some.inj e1, Option.some.inj e2]
  exact e
theorem HW.start {d s v : Int} (d0 : 0 ≤ d) (d1 : d ≤ 12000) (s0 : 2 ≤ s) (s1 : s ≤ 1000000000000) (v0 : 0 ≤ v) (v1 : v < s) : HW [.st d s v] := by
  refine ⟨by simp, fun _ => ⟨d, s, v, rfl, s0, s1, v0, v1⟩, fun i hi => ?_, fun i j hij hj => ?_, fun i hi => ?_⟩
  · simp at hi
  · simp at hj
    omega
  · simp at hi
    subst hi
    exact ⟨d0, d1⟩
theorem HW.snoc {h : List Ent} (H : HW h) (hp : 0 < h.length) (hl : h.length < 200) {e : Ent} (he : (∃ d v k, e = .rd d v k ∧ 0 ≤ v ∧ v < lastSize h) ∨ ∃ d l s f, e = .ch d l s f ∧ 2 ≤ s ∧ s ≤ 1000000000000 ∧ 0 ≤ f ∧ f < s ∧ 0 ≤ l ∧ l < lastSize h) (hd : lastDay h < e.day) (h1 : e.day ≤ 12000) : HW (h ++ [e]) := by
  have d0 := (H.day0 (h.length - 1) (by omega)).1
  have hd' : (hat h (h.length - 1)).day < e.day := hd
  refine ⟨by simp; omega, fun _ => ?_, fun i hi => ?_, fun i j hij hj => ?_, fun i hi => ?_⟩
  · rw [hat_app hp]
    exact H.first hp
  · rw [List.length_append, List.length_singleton] at hi
    by_cases q : i + 1 < h.length
    · rw [hat_app q, sizeAt_app (by omega)]
      exact H.rest i q
    · have ei : i = h.length - 1 := by omega
      rw [show i + 1 = h.length by omega, hat_app_last, ei, sizeAt_app (by omega)]
      exact he
  · rw [List.length_append, List.length_singleton] at hj
    by_cases q : j < h.length
    · rw [hat_app q, hat_app (by omega)]
      exact H.days i j hij q
    · rw [show j = h.length by omega, hat_app_last, hat_app (by omega)]
      by_cases q2 : i = h.length - 1
      · rw [q2]
        exact hd'
      · have := H.days i (h.length - 1) (by omega) (by omega)
        omega
  · rw [List.length_append, List.length_singleton] at hi
    by_cases q : i < h.length
    · rw [hat_app q]
      exact H.day0 i q
    · rw [show i = h.length by omega, hat_app_last]
      exact ⟨by omega, h1⟩
/-! ### what is owed, by tariffs in no order -/
theorem nodup_of {tl ts : List Tar} (hp : ts.Perm tl) (ris : Ris ts) : (tl.map (·.d)).Nodup := by
  refine (hp.map (·.d)).nodup_iff.mp ?_
  unfold List.Nodup
  rw [List.pairwise_map]
  exact ris.imp fun q => by omega
theorem tars_sorted {tl ts : List Tar} (hp : ts.Perm tl) (ris : Ris ts) (hl : tl.length ≤ 1000) : oSorted [tarsL tl] = .ok (ts.map encT) :=
  sorted_key (key := Tar.d) (ris_key (nodup_of hp ris)) hp ris (by omega) (by rw [tars_int, Bool.or_true])
theorem l_cost_11_spec {tl ts : List Tar} (hp : ts.Perm tl) (ris : Ris ts) (hl : tl.length ≤ 1000) (g : ∀ t ∈ ts, GoodT2 t) (day u : Int) : f_l_cost_11 [tarsL tl, .int day, .int u] = .ok (.int (costO u (lastT day ts))) := by
  have hs := tars_sorted hp ris hl
  refine wp_run rfl ?_
  show Wp b_l_cost_11 [.val (tarsL tl), .val (.int day), .val (.int u), .un, .un] _
  unfold b_l_cost_11
  refine wp_set (.int 0) rfl ?_
  have hsrc : iL (xL (xAppL oSorted (aCons (xVar 0) aNil))) [.val (tarsL tl), .val (.int day), .val (.int u), .val (.int 0), .un] = .ok (ts.map encT) := by
    have e : xL (xAppL oSorted (aCons (xVar 0) aNil)) [.val (tarsL tl), .val (.int day), .val (.int u), .val (.int 0), .un] = .ok (.list (ts.map encT)) := by walk_at "ev"
    show (xL _ _).bnd oItemsL = _
    rw [e]
    rfl
  refine wp_fold (enc := encT) (fun o t => if t.d ≤ day then some t else o) (fun o env => ∃ x, env = [.val (tarsL tl), .val (.int day), .val (.int u), .val (.int (costO u o)), x]) ts none hsrc ⟨_, rfl⟩ ?_ ?_
  · rintro o t _ ht ⟨x, rfl⟩
    refine ⟨_, rfl, ?_⟩
    show Wp _ [.val (tarsL tl), .val (.int day), .val (.int u), .val (.int (costO u o)), .val (encT t)] _
    obtain ⟨⟨g1, g2, g3, g4, _, _⟩, _⟩ := g t ht
    have h0 := encT_0 t
    have h1 := encT_1 t
    have h2 := encT_2 t
    have h3 := encT_3 t
    have h4 := encT_4 t
    clear hs hsrc
    by_cases h : t.d ≤ day
    · rw [if_pos h]
      have e2 : (if t.li < u then t.li else u) = min u t.li := by omega
      have e3 : (if u - t.li > 0 then u - t.li else 0) = max 0 (u - t.li) := by omega
      have ec : costO u (some t) = t.st + t.lo * min u t.li + t.hi * max 0 (u - t.li) := rfl
      rw [ec]
      generalize min u t.li = mi at *
      generalize max 0 (u - t.li) = mx at *
      exact wp_yes0 (by walk_at "ev") (wp_set0 _ (by walk_at "ev") (turn_nx ⟨_, rfl⟩))
    · rw [if_neg h]
      exact wp_no0 (by walk_at "ev") (wp_skip0 (turn_nx ⟨_, rfl⟩))
  · rintro _ ⟨x, rfl⟩
    exact wp_val rfl
theorem l_owed_11_spec {h : List Ent} (H : HW h) (h0 : 0 < h.length) (mo : Int) {tl ts : List Tar} (hp : ts.Perm tl) (ris : Ris ts) (hl : tl.length ≤ 1000) (g : ∀ t ∈ ts, GoodT2 t) {day : Int} (d0 : 0 ≤ day) (d1 : day ≤ 20000) : f_l_owed_11 [encH h, .list ((spL h (pts h mo)).map enc3), tarsL tl, .int day] = .ok (.int (owedT h mo ts day)) := by
  refine wp_run rfl ?_
  show Wp b_l_owed_11 [.val (encH h), .val (.list ((spL h (pts h mo)).map enc3)), .val (tarsL tl), .val (.int day), .un, .un] _
  unfold b_l_owed_11
  have R := rows_ok H mo
  have hat0 : oIdx (encH h) (.int 0) = .ok (encE (hat h 0)) := hat_at h0
  have hd := encE_1 (hat h 0)
  obtain ⟨b0, b1⟩ := H.day0 0 h0
  unfold owedT
  generalize spL h (pts h mo) = rows at *
  generalize (hat h 0).day = bg at *
  refine wp_set (.int 0) rfl ?_
  refine wp_fold (enc := fun i : Nat => PyData.int (bg + (i : Int))) (fun s i => s + dayCost rows ts bg i) (fun s env => ∃ x, env = [.val (encH h), .val (.list (rows.map enc3)), .val (tarsL tl), .val (.int day), .val (.int s), x]) (List.range (day - bg).toNat) 0 (by
    refine (ev_r2 (m := bg) (n := day) (by walk_at "ev") rfl (by omega) (by omega) (by omega) (by omega)).trans rfl) ⟨_, rfl⟩ ?_ ?_
  · rintro s i _ hi ⟨x, rfl⟩
    rw [List.mem_range] at hi
    refine ⟨_, rfl, ?_⟩
    show Wp _ [.val (encH h), .val (.list (rows.map enc3)), .val (tarsL tl), .val (.int day), .val (.int s), .val (.int (bg + (i : Int)))] _
    have hu := luse_spec R (day := bg + (i : Int)) (by omega) (by omega)
    have hc := l_cost_11_spec hp ris hl g (bg + (i : Int)) (useIn rows (bg + (i : Int)))
    exact wp_set0 (.int (s + dayCost rows ts bg i)) (by unfold dayCost; walk_at "ev") (turn_nx ⟨_, rfl⟩)
  · rintro _ ⟨x, rfl⟩
    exact wp_val rfl
end Mg
namespace Mg
open PySem PySem.Spec PyProof.Rows L2
/-! ### k11: the law's dict -/
abbrev onRt (m : Option (Addr × List Addr)) (d : D) (fs : Flds) : Out → Prop := fun o => ∃ env, o = .rtE (.val d) env ∧ env[0]? = some (.dic m fs)
section
variable {f fk : EX} {c : TX} {t : SX} {fa : AX} {env : Env} {m : Option (Addr × List Addr)} {d kd : D} {fs : Flds} {i : Nat} {k : L2.Key} {ds es : List D} {Q : Out → Prop}
theorem wp_retE (h : f env = .ok d) (e : env[0]? = some (.dic m fs)) : Wp (sRetE f) env (onRt m d fs) := by
  refine ⟨env, ?_, e⟩
  show (f env).thn env _ = _
  rw [h]
  rfl
theorem wp_retES (h : f env = .ok d) (e : env[0]? = some (.dic m fs)) : Wp (sSeq (sRetE f) t) env (onRt m d fs) := by
  refine ⟨env, ?_, e⟩
  show ((f env).thn env _).thn t = _
  rw [h]
  rfl
theorem wp_retRS {spec : Flds → List D → An (D × Flds)} {x : D × Flds} (e : env[0]? = some (.dic m fs)) (ha : fa env = .ok ds) (hs : spec fs ds = .ok x) : Wp (sSeq (sRetR 0 spec fa) t) env (onRt m x.1 x.2) := by
  have hl : 0 < env.length := (List.getElem?_eq_some_iff.mp e).1
  refine ⟨env.set 0 (.dic m x.2), ?_, List.getElem?_set_self hl⟩
  show (sRetR 0 spec fa env).thn t = _
  unfold sRetR
  rw [e]
  show Out.thn ((fa env).thn env _) t = _
  rw [ha]
  show Out.thn (match spec fs ds with | .ok x => .rtE (.val x.1) (env.set 0 (.dic m x.2)) | _ => .bad) t = _
  rw [hs]
  rfl
theorem wp_appF (e : env[i]? = some (.dic m fs)) (hg : getL fs k = some ds) (hl : ds.length ≤ 100000) (h : f env = .ok d) (q : Wp t (env.set i (.dic m (appF fs k d))) Q) : Wp (sSeq (sAppF i k f) t) env Q := by
  refine wp_seq ?_ q
  unfold sAppF
  rw [e]
  show (match getL fs k with | some ds => (f env).thn env fun d => if ds.length ≤ 100000 then .nx (env.set i (.dic m (appF fs k d))) else .bad | none => .bad) = _
  rw [hg]
  show (f env).thn env _ = _
  rw [h]
  exact if_pos hl
theorem wp_putD (e : env[i]? = some (.dic m fs)) (h : f env = .ok d) (hk : fk env = .ok kd) (hkd : keyOf kd = some k) (hc : canPut fs k = true) (hl : fs.length < 100000) (q : Wp t (env.set i (.dic m (putF fs k d))) Q) : Wp (sSeq (sPutD i fk f) t) env Q := by
  refine wp_seq ?_ q
  unfold sPutD
  rw [e]
  show (f env).thn env _ = _
  rw [h]
  show (fk env).thn env (oPutD i m fs d env) = _
  rw [hk]
  show oPutD i m fs d env kd = _
  unfold oPutD
  rw [hkd]
  exact if_pos ⟨hc, hl⟩
theorem get_at (e : env[i]? = some (.dic m fs)) (hf : f env = .ok kd) (hk : keyOf kd = some k) (hg : getF fs k = some d) : xGet i f env = .ok d := by
  unfold xGet
  rw [e]
  show (f env).bnd _ = _
  rw [hf]
  show (match (keyOf kd).bind (getF fs) with | some d => An.ok d | none => .bad) = _
  rw [hk]
  show (match getF fs k with | some d => An.ok d | none => .bad) = _
  rw [hg]
theorem bor_at (e : env[i]? = some (.dic m fs)) (h : f (env.set i (.dic none (frzFs fs))) = .ok d) (hf : flatD d = true) : xBor i f env = .ok d := by
  unfold xBor
  rw [e]
  show (match f (env.set i (.dic none (frzFs fs))) with | .ok d => if flatD d = true then An.ok d else .bad | _ => .bad) = _
  rw [h]
  exact if_pos hf
theorem tbor_at {b : Bool} (e : env[i]? = some (.dic m fs)) (h : c (env.set i (.dic none (frzFs fs))) = .ok b) : tBor i c env = .ok b := by
  unfold tBor
  rw [e]
  show (match c (env.set i (.dic none (frzFs fs))) with | .ok b => An.ok b | _ => .bad) = _
  rw [h]
theorem getF_pos {r : Flds} : getF ((k, .d d) :: r) k = some d := by
  unfold getF
  rw [List.find?_cons_of_pos (by simp)]
theorem getF_neg {k' : L2.Key} {x : Fld} {r : Flds} (h : k' ≠ k) : getF ((k', x) :: r) k = getF r k := by
  unfold getF
  rw [List.find?_cons_of_neg (by simpa using h)]
end
theorem q_ht : (("history" : Str) = "tariffs") = False := by simp; decide +kernel
theorem q_hb : (("history" : Str) = "bills") = False := by simp; decide +kernel
theorem q_tb : (("tariffs" : Str) = "bills") = False := by simp; decide +kernel
theorem q_th : (("tariffs" : Str) = "history") = False := by simp; decide +kernel
theorem q_bh : (("bills" : Str) = "history") = False := by simp; decide +kernel
theorem inr_ne {a b : Str} (h : (a = b) = False) : (Sum.inr a : L2.Key) ≠ .inr b := fun z => h.mp (Sum.inr.inj z)
section
variable {m : Option (Addr × List Addr)} {h h' : List Ent} {tl : List Tar} {bs : List I2} {r : Env} {x y : Slot}
theorem getF_h : getF (encFs h tl bs) (.inr "history") = some (encH h) := getF_pos
theorem getF_vh : getF (frzFs (encFs h tl bs)) (.inr "history") = some (encH h) := getF_pos
theorem getF_vt : getF (frzFs (encFs h tl bs)) (.inr "tariffs") = some (tarsL tl) := (getF_neg (inr_ne q_ht)).trans getF_pos
theorem getF_vb : getF (frzFs (encFs h tl bs)) (.inr "bills") = some (.list (bs.map enc2)) := (getF_neg (inr_ne q_hb)).trans ((getF_neg (inr_ne q_tb)).trans getF_pos)
theorem xget_h : xGet 0 (xC (.str (PySem.Str.ofString "history"))) (.dic m (encFs h tl bs) :: r) = .ok (encH h) := get_at rfl rfl rfl getF_h
theorem xget_vh : xGet 0 (xC (.str (PySem.Str.ofString "history"))) (.dic none (frzFs (encFs h tl bs)) :: r) = .ok (encH h) := get_at rfl rfl rfl getF_vh
theorem xget_vt : xGet 0 (xC (.str (PySem.Str.ofString "tariffs"))) (.dic none (frzFs (encFs h tl bs)) :: r) = .ok (tarsL tl) := get_at rfl rfl rfl getF_vt
theorem xget_vb : xGet 0 (xC (.str (PySem.Str.ofString "bills"))) (.dic none (frzFs (encFs h tl bs)) :: r) = .ok (.list (bs.map enc2)) := get_at rfl rfl rfl getF_vb
theorem xget2_h : xGet 2 (xC (.str (PySem.Str.ofString "history"))) (x :: y :: .dic m (encFs h tl bs) :: r) = .ok (encH h) := get_at rfl rfl rfl getF_h
theorem xget2_vh : xGet 2 (xC (.str (PySem.Str.ofString "history"))) (x :: y :: .dic none (frzFs (encFs h tl bs)) :: r) = .ok (encH h) := get_at rfl rfl rfl getF_vh
theorem xget2_vt : xGet 2 (xC (.str (PySem.Str.ofString "tariffs"))) (x :: y :: .dic none (frzFs (encFs h tl bs)) :: r) = .ok (tarsL tl) := get_at rfl rfl rfl getF_vt
theorem xget2_vb : xGet 2 (xC (.str (PySem.Str.ofString "bills"))) (x :: y :: .dic none (frzFs (encFs h tl bs)) :: r) = .ok (.list (bs.map enc2)) := get_at rfl rfl rfl getF_vb
theorem getL_t : getL (encFs h tl bs) (.inr "tariffs") = some (tl.map encT) := by
  show (if (Sum.inr "history" : L2.Key) = .inr "tariffs" then none else (if (Sum.inr "tariffs" : L2.Key) = .inr "tariffs" then some (tl.map encT) else getL _ _)) = _
  rw [if_neg (inr_ne q_ht), if_pos rfl]
theorem getL_b : getL (encFs h tl bs) (.inr "bills") = some (bs.map enc2) := by
  show (if (Sum.inr "history" : L2.Key) = .inr "bills" then none else (if (Sum.inr "tariffs" : L2.Key) = .inr "bills" then some (tl.map encT) else (if (Sum.inr "bills" : L2.Key) = .inr "bills" then some (bs.map enc2) else getL _ _))) = _
  rw [if_neg (inr_ne q_hb), if_neg (inr_ne q_tb), if_pos rfl]
theorem appF_t (t : Tar) : appF (encFs h tl bs) (.inr "tariffs") (encT t) = encFs h (tl ++ [t]) bs := by
  show (if (Sum.inr "history" : L2.Key) = .inr "tariffs" then ((Sum.inr "history" : L2.Key), Fld.d (encH h)) :: _ else ((Sum.inr "history" : L2.Key), Fld.d (encH h)) :: (if (Sum.inr "tariffs" : L2.Key) = .inr "tariffs" then ((Sum.inr "tariffs" : L2.Key), Fld.l (tl.map encT ++ [encT t])) :: _ else _)) = _
  rw [if_neg (inr_ne q_ht), if_pos rfl]
  unfold encFs
  rw [List.map_append]
  rfl
theorem appF_b (b : I2) : appF (encFs h tl bs) (.inr "bills") (enc2 b) = encFs h tl (bs ++ [b]) := by
  show (if (Sum.inr "history" : L2.Key) = .inr "bills" then ((Sum.inr "history" : L2.Key), Fld.d (encH h)) :: _ else ((Sum.inr "history" : L2.Key), Fld.d (encH h)) :: (if (Sum.inr "tariffs" : L2.Key) = .inr "bills" then ((Sum.inr "tariffs" : L2.Key), Fld.l (tl.map encT ++ [enc2 b])) :: _ else ((Sum.inr "tariffs" : L2.Key), Fld.l (tl.map encT)) :: (if (Sum.inr "bills" : L2.Key) = .inr "bills" then ((Sum.inr "bills" : L2.Key), Fld.l (bs.map enc2 ++ [enc2 b])) :: _ else _))) = _
  rw [if_neg (inr_ne q_hb), if_neg (inr_ne q_tb), if_pos rfl]
  unfold encFs
  rw [List.map_append]
  rfl
theorem canPut_h : canPut (encFs h tl bs) (.inr "history") = true := by
  show ((!decide ((Sum.inr "history" : L2.Key) = .inr "history") || true) && ((!decide ((Sum.inr "tariffs" : L2.Key) = .inr "history") || false) && ((!decide ((Sum.inr "bills" : L2.Key) = .inr "history") || false) && true))) = true
  rw [decide_eq_false (inr_ne q_th), decide_eq_false (inr_ne q_bh), Bool.or_true]
  rfl
theorem putF_h : putF (encFs h tl bs) (.inr "history") (encH h') = encFs h' tl bs := by
  unfold putF
  rw [if_pos (by
    show (decide ((Sum.inr "history" : L2.Key) = .inr "history") || _) = true
    rw [decide_eq_true rfl, Bool.true_or])]
  show [(if (Sum.inr "history" : L2.Key) = .inr "history" then ((Sum.inr "history" : L2.Key), Fld.d (encH h')) else _), (if (Sum.inr "tariffs" : L2.Key) = .inr "history" then ((Sum.inr "tariffs" : L2.Key), Fld.d (encH h')) else ((Sum.inr "tariffs" : L2.Key), Fld.l (tl.map encT))), (if (Sum.inr "bills" : L2.Key) = .inr "history" then ((Sum.inr "bills" : L2.Key), Fld.d (encH h')) else ((Sum.inr "bills" : L2.Key), Fld.l (bs.map enc2)))] = _
  rw [if_pos rfl, if_neg (inr_ne q_th), if_neg (inr_ne q_bh)]
  rfl
end
theorem hist_emp (h : List Ent) : oEq (encH h) (.tuple []) = .ok (.bool (decide (h.length = 0))) := by
  show (if (SeqAt.shaped (encH h) && SeqAt.shaped (.tuple [])) = true then An.ok (PyData.bool (PyData.eqv (encH h) (.tuple []))) else .bad) = _
  rw [(encH_sh h).ok (by decide), if_pos (by rfl)]
  cases h with
  | nil => rfl
  | cons a r => rfl
theorem bills_ne (bs : List I2) : oNe (.list (bs.map enc2)) (.list []) = .ok (.bool (!decide (bs.length = 0))) := by
  show (if (SeqAt.shaped (.list (bs.map enc2)) && SeqAt.shaped (.list [])) = true then An.ok (PyData.bool (!PyData.eqv (.list (bs.map enc2)) (.list []))) else .bad) = _
  rw [(sh_list (bills_sh bs)).ok (by decide), if_pos (by rfl)]
  cases bs with
  | nil => rfl
  | cons a r => rfl
theorem bills_last {bs : List I2} (hp : 0 < bs.length) : oIdx (.list (bs.map enc2)) (.int (-1)) = .ok (enc2 (lastB bs)) := encB_last hp
/-- the state of the law's account is the program's: S, with the tariffs as they came in -/
structure Acc (S : PSt) (tl : List Tar) : Prop where
  p : S.ts.Perm tl
  r : Ris S.ts
theorem l_bill_rb {S : PSt} (K : OkS S) {tl : List Tar} (A : Acc S tl) {mo : Int} (mo0 : 0 ≤ mo) (mo1 : mo ≤ 1000000000000) {day : Int} (d0 : 0 ≤ day) (d1 : day ≤ 20000) :
    Rb 6 b_l_bill (encFs S.h tl S.bs) [.int mo, .int day] (saysT mo S (.bill day), encFs S.h tl (nextT mo S (.bill day)).bs) := by
  intro m
  show Wp b_l_bill [.dic m (encFs S.h tl S.bs), .val (.int mo), .val (.int day), .un, .un, .un] (onRt m (saysT mo S (.bill day)) (encFs S.h tl (nextT mo S (.bill day)).bs))
  obtain ⟨KH, Khl, Kts, Ktl, Kbl⟩ := K
  obtain ⟨Ap, Ar⟩ := A
  have tll := Ap.length_eq
  have g0 := @xget_h m
  have g1 := @xget_vh
  have g2 := @xget_vt
  have g3 := @xget_vb
  unfold b_l_bill saysT nextT
  rw [doneT_bill]
  have he := hist_emp S.h
  by_cases hz : S.h.length = 0
  · rw [if_pos hz]
    rw [decide_eq_true hz] at he
    refine wp_yes (by walk_at "ev") ?_
    exact wp_retES rfl rfl
  · rw [if_neg hz]
    rw [decide_eq_false hz] at he
    refine wp_no (by walk_at "ev") (wp_skip ?_)
    clear he
    have hn := bills_ne S.bs
    have hb : tBor 0 (tAndX (tOf (xOp oNe (xGet 0 (xC (.str (PySem.Str.ofString "bills")))) (xL aNil))) (tOf (xOp oLt (xVar 2) (xOp oIdx (xOp oIdx (xGet 0 (xC (.str (PySem.Str.ofString "bills")))) (xUn oNeg (xC (.int 1)))) (xC (.int 0)))))) [.dic m (encFs S.h tl S.bs), .val (.int mo), .val (.int day), .un, .un, .un] = .ok (decide (0 < S.bs.length ∧ day < (lastB S.bs).1)) := by
      refine tbor_at rfl ?_
      show tAndX _ _ [.dic none (frzFs (encFs S.h tl S.bs)), .val (.int mo), .val (.int day), .un, .un, .un] = _
      by_cases hz2 : S.bs.length = 0
      · rw [decide_eq_true hz2] at hn
        rw [decide_eq_false (by omega)]
        clear hz2
        walk_at "ev"
      · rw [decide_eq_false hz2] at hn
        have l1 := bills_last (bs := S.bs) (by omega)
        have l2 := enc2_0 (lastB S.bs)
        have e : decide (0 < S.bs.length ∧ day < (lastB S.bs).1) = decide (day < (lastB S.bs).1) := by
          congr 1
          exact propext ⟨fun z => z.2, fun z => ⟨by omega, z⟩⟩
        rw [e]
        clear hz2
        walk_at "ev"
    by_cases q : 0 < S.bs.length ∧ day < (lastB S.bs).1
    · rw [if_pos q]
      rw [decide_eq_true q] at hb
      refine wp_yes hb ?_
      exact wp_retES rfl rfl
    · rw [if_neg q]
      rw [decide_eq_false q] at hb
      refine wp_no hb (wp_skip ?_)
      clear hb hn
      have ha := account_spec KH mo0 mo1
      have hx : oIdx (.tuple [.list (nl (pts S.h mo)), .list ((spL S.h (pts S.h mo)).map enc3)]) (.int 1) = .ok (.list ((spL S.h (pts S.h mo)).map enc3)) := idxT_at (by decide) rfl
      have ho := l_owed_11_spec KH (by omega) mo Ap Ar (by omega) Kts d0 d1
      have sm := sum_ok (S.bs.map (·.2))
      show Wp _ _ (onRt m (.int (owedT S.h mo S.ts day - sumB S.bs)) (encFs S.h tl (S.bs ++ [(day, owedT S.h mo S.ts day - sumB S.bs)])))
      generalize owedT S.h mo S.ts day = ow at *
      refine wp_set (.int ow) (bor_at rfl (by
        show xApp f_l_owed_11 _ [.dic none (frzFs (encFs S.h tl S.bs)), .val (.int mo), .val (.int day), .un, .un, .un] = _
        walk_at "ev") rfl) ?_
      clear ha hx ho
      have am1 := lc_all (enc := enc2) (src := iL (xGet 0 (xC (.str (PySem.Str.ofString "bills"))))) (vs := [5]) (b := bName 5) (f := xOp oIdx (xVar 5) (xC (.int 1))) (env := [.dic none (frzFs (encFs S.h tl S.bs)), .val (.int mo), .val (.int day), .val (.int ow), .un, .un]) (fun b => PyData.int b.2) S.bs rfl (by
        show (xGet 0 _ _).bnd oItemsL = _
        rw [xget_vb]
        rfl) (by omega) (fun b _ => ⟨_, rfl, enc2_1 b⟩)
      have am2 : (S.bs.map fun b : I2 => PyData.int b.2) = (S.bs.map (·.2)).map .int := by
        rw [List.map_map]
        rfl
      rw [am2] at am1
      refine wp_set (.int (ow - sumB S.bs)) (bor_at rfl (by
        show xOp oSub _ _ [.dic none (frzFs (encFs S.h tl S.bs)), .val (.int mo), .val (.int day), .val (.int ow), .un, .un] = _
        unfold sumB
        walk_at "ev") rfl) ?_
      clear am1 am2 sm
      generalize ow - sumB S.bs = am at *
      refine wp_appF (ds := S.bs.map enc2) (d := enc2 (day, am)) rfl getL_b (by rw [List.length_map]; omega) rfl ?_
      rw [appF_b]
      exact wp_retE rfl rfl
end Mg
namespace Mg
open PySem PySem.Spec PyProof.Rows L2
/-! ### k11: the account's answer -/
theorem isA_st (z : Str) : oIsA "str" (.str z) = .ok (.bool true) := by
  have e : kitB "str" "str" = some true := by decide +kernel
  show (match kitB "str" "str" with | some b => An.ok (PyData.bool b) | none => .bad) = _
  rw [e]
theorem isA_st_tup {ds : List D} : oIsA "str" (.tuple ds) = .ok (.bool false) := by
  have e : kitB "tuple" "str" = some false := by decide +kernel
  show (match kitB "tuple" "str" with | some b => An.ok (PyData.bool b) | none => .bad) = _
  rw [e]
theorem isA_st_ent (e : Ent) : oIsA "str" (encE e) = .ok (.bool false) := by cases e <;> exact isA_st_tup
/-- a start, a reading, a change -/
def isNew : Deed → Prop
  | .start _ _ _ => True
  | .read _ _ => True
  | .change _ _ _ _ => True
  | _ => False
theorem entryT_new {h h' : List Ent} {dd : Deed} (hn : isNew dd) (e : entryT h dd = .ok h') : h' = h ++ [entE dd] := by
  cases dd with
  | start d s v =>
    rw [entryT_start] at e
    split at e
    · cases e
    · rename_i hz
      split at e
      · cases e
      · cases e
        rw [List.length_eq_zero_iff.mp (show h.length = 0 by omega)]
        rfl
  | read d v =>
    rw [entryT_read] at e
    split at e
    · cases e
    · split at e
      · cases e
      · split at e <;> cases e
        rfl
  | change d l s f =>
    rw [entryT_change] at e
    split at e
    · cases e
    · split at e
      · cases e
      · split at e <;> cases e
        rfl
  | _ => exact hn.elim
theorem isNew_ent {dd : Deed} (h : isNew dd) : isEnt dd := by
  cases dd <;> first | trivial | exact h.elim
theorem entry_of_spec {h : List Ent} (H : VH h) {dd : Deed} (hn : isNew dd) : f_l_entry_of [encH h, encDd dd] = .ok (sayE h dd) := by
  cases dd with
  | start d s v => exact entry_of_start
  | read d v => exact entry_of_read H
  | change d l s f => exact entry_of_change H
  | _ => exact hn.elim
def kindT : Deed → Str
  | .start _ _ _ => "start"
  | .read _ _ => "read"
  | .change _ _ _ _ => "change"
  | .strike _ => "strike"
  | .tariff _ => "tariff"
  | .bill _ => "bill"
  | .use _ => "use"
  | .owed _ => "owed"
theorem encDd_0 (dd : Deed) : oIdx (encDd dd) (.int 0) = .ok (.str (kindT dd)) := by cases dd <;> exact idxT_at (by decide) rfl
theorem in_map {tl ts : List Tar} (hp : ts.Perm tl) (d : Int) : decide (d ∈ tl.map (·.d)) = decide (d ∈ ts.map (·.d)) := by
  congr 1
  exact propext (hp.map (·.d)).mem_iff.symm
abbrev E11 (m : Option (Addr × List Addr)) (S : PSt) (tl : List Tar) (mo : Int) (dd : Deed) : Env := [.dic m (encFs S.h tl S.bs), .val (.int mo), .val (encDd dd), .un, .un, .un]
/-- what the account says, and its state behind it -/
def AnsOk (mo : Int) (S : PSt) (tl : List Tar) (dd : Deed) (tl' : List Tar) : Prop := Rb 6 b_l_answer (encFs S.h tl S.bs) [.int mo, encDd dd] (saysT mo S dd, encFs (nextT mo S dd).h tl' (nextT mo S dd).bs)
theorem answer_tariff {S : PSt} (K : OkS S) {tl : List Tar} (A : Acc S tl) {mo : Int} {t : Tar} : AnsOk mo S tl (.tariff t) (if t.d ∈ S.ts.map (·.d) then tl else tl ++ [t]) := by
  intro m
  show Wp b_l_answer (E11 m S tl mo (.tariff t)) (onRt m (saysT mo S (.tariff t)) (encFs (nextT mo S (.tariff t)).h _ (nextT mo S (.tariff t)).bs))
  obtain ⟨KH, Khl, Kts, Ktl, Kbl⟩ := K
  obtain ⟨Ap, Ar⟩ := A
  have tll := Ap.length_eq
  have i0 : oIdx (encDd (.tariff t)) (.int 0) = .ok (.str "tariff") := idxT_at (by decide) rfl
  have i1 : oIdx (encDd (.tariff t)) (.int 1) = .ok (.int t.d) := idxT_at (by decide) rfl
  have sl : oSl (encDd (.tariff t)) (some 1) none = .ok (encT t) := rfl
  unfold b_l_answer saysT nextT
  rw [doneT_tariff]
  refine wp_yes (by walk_at "ev") (wp_assoc ?_)
  have h1 : nErr (xLc (iL (xGet 0 (xC (.str (PySem.Str.ofString "tariffs"))))) [5] (bName 5) tYesX (xOp oIdx (xVar 5) (xC (.int 0)))) [.dic none (frzFs (encFs S.h tl S.bs)), .val (.int mo), .val (encDd (.tariff t)), .un, .un, .un] = .ok ((tl.map (·.d)).map .int) := by
    rw [List.map_map]
    exact lc_all (enc := encT) (fun a => .int a.d) tl rfl (by
      show (xGet 0 _ _).bnd oItemsL = _
      rw [xget_vt]
      rfl) (by omega) fun a _ => ⟨_, rfl, encT_0 a⟩
  have h2 := in_ints t.d (tl.map (·.d))
  rw [in_map Ap] at h2
  have hb : tBor 0 (tOf (xOp oIn (xOp oIdx (xVar 2) (xC (.int 1))) (xL (nErr (xLc (iL (xGet 0 (xC (.str (PySem.Str.ofString "tariffs"))))) [5] (bName 5) tYesX (xOp oIdx (xVar 5) (xC (.int 0)))))))) (E11 m S tl mo (.tariff t)) = .ok (decide (t.d ∈ S.ts.map (·.d))) := by
    refine tbor_at rfl ?_
    show tOf _ [.dic none (frzFs (encFs S.h tl S.bs)), .val (.int mo), .val (encDd (.tariff t)), .un, .un, .un] = _
    clear i0 sl
    generalize decide (t.d ∈ S.ts.map (·.d)) = bb at *
    walk_at "ev"
  clear h1 h2
  by_cases q : t.d ∈ S.ts.map (·.d)
  · rw [if_pos q, if_pos q]
    rw [decide_eq_true q] at hb
    refine wp_yes hb ?_
    exact wp_retES rfl rfl
  · rw [if_neg q, if_neg q]
    rw [decide_eq_false q] at hb
    refine wp_no hb (wp_skip (wp_assoc ?_))
    clear hb
    refine wp_appF (ds := tl.map encT) (d := encT t) rfl getL_t (by rw [List.length_map]; omega) (by walk_at "ev") ?_
    rw [appF_t]
    exact wp_retES rfl rfl
theorem answer_bill {S : PSt} (K : OkS S) {tl : List Tar} (A : Acc S tl) {mo : Int} (mo0 : 0 ≤ mo) (mo1 : mo ≤ 1000000000000) {d : Int} (d0 : 0 ≤ d) (d1 : d ≤ 20000) : AnsOk mo S tl (.bill d) tl := by
  intro m
  have hh : (nextT mo S (.bill d)).h = S.h := by
    unfold nextT
    rw [doneT_bill]
    by_cases h1 : S.h.length = 0
    · rw [if_pos h1]
    · rw [if_neg h1]
      by_cases h2 : 0 < S.bs.length ∧ d < (lastB S.bs).1
      · rw [if_pos h2]
      · rw [if_neg h2]
  show ∃ env, _ ∧ _ = some (Slot.dic m (encFs (nextT mo S (.bill d)).h tl _))
  rw [hh]
  show Wp b_l_answer (E11 m S tl mo (.bill d)) (onRt m (saysT mo S (.bill d)) (encFs S.h tl (nextT mo S (.bill d)).bs))
  have hb : f_l_bill (encFs S.h tl S.bs) [.int mo, .int d] = .ok (saysT mo S (.bill d), encFs S.h tl (nextT mo S (.bill d)).bs) := specR_ok rfl (l_bill_rb K A mo0 mo1 d0 d1)
  have i0 : oIdx (encDd (.bill d)) (.int 0) = .ok (.str "bill") := idxT_at (by decide) rfl
  have i1 : oIdx (encDd (.bill d)) (.int 1) = .ok (.int d) := idxT_at (by decide) rfl
  have q1 := q_bill_tariff
  unfold b_l_answer
  refine wp_no (by walk_at "ev") (wp_skip ?_)
  refine wp_yes (by walk_at "ev") ?_
  exact wp_retRS (ds := [.int mo, .int d]) rfl (by walk_at "ev") hb
theorem answer_use {S : PSt} (K : OkS S) {tl : List Tar} {mo : Int} (mo0 : 0 ≤ mo) (mo1 : mo ≤ 1000000000000) {d : Int} (d0 : 0 ≤ d) (d1 : d ≤ 20000) : AnsOk mo S tl (.use d) tl := by
  intro m
  show Wp b_l_answer (E11 m S tl mo (.use d)) (onRt m (.int (useIn (spL S.h (pts S.h mo)) d)) (encFs S.h tl S.bs))
  obtain ⟨KH, Khl, Kts, Ktl, Kbl⟩ := K
  have i0 : oIdx (encDd (.use d)) (.int 0) = .ok (.str "use") := idxT_at (by decide) rfl
  have i1 : oIdx (encDd (.use d)) (.int 1) = .ok (.int d) := idxT_at (by decide) rfl
  have q1 := q_use_tariff
  have q2 := q_use_bill
  have g0 := @xget_h m
  have ha := account_spec KH mo0 mo1
  have hx : oIdx (.tuple [.list (nl (pts S.h mo)), .list ((spL S.h (pts S.h mo)).map enc3)]) (.int 1) = .ok (.list ((spL S.h (pts S.h mo)).map enc3)) := idxT_at (by decide) rfl
  have hu := luse_spec (rows_ok KH mo) d0 d1
  unfold b_l_answer
  refine wp_no (by walk_at "ev") (wp_skip ?_)
  refine wp_no (by walk_at "ev") (wp_skip ?_)
  refine wp_yes (by walk_at "ev") ?_
  exact wp_retES (by walk_at "ev") rfl
theorem answer_owed {S : PSt} (K : OkS S) {tl : List Tar} (A : Acc S tl) {mo : Int} (mo0 : 0 ≤ mo) (mo1 : mo ≤ 1000000000000) {d : Int} (d0 : 0 ≤ d) (d1 : d ≤ 20000) : AnsOk mo S tl (.owed d) tl := by
  intro m
  show Wp b_l_answer (E11 m S tl mo (.owed d)) (onRt m (saysT mo S (.owed d)) (encFs (nextT mo S (.owed d)).h tl (nextT mo S (.owed d)).bs))
  obtain ⟨KH, Khl, Kts, Ktl, Kbl⟩ := K
  obtain ⟨Ap, Ar⟩ := A
  have tll := Ap.length_eq
  have i0 : oIdx (encDd (.owed d)) (.int 0) = .ok (.str "owed") := idxT_at (by decide) rfl
  have i1 : oIdx (encDd (.owed d)) (.int 1) = .ok (.int d) := idxT_at (by decide) rfl
  have q1 := q_owed_tariff
  have q2 := q_owed_bill
  have q3 := q_owed_use
  have g0 := @xget_h m
  have he := hist_emp S.h
  unfold b_l_answer saysT nextT
  rw [doneT_owed]
  refine wp_no (by walk_at "ev") (wp_skip ?_)
  refine wp_no (by walk_at "ev") (wp_skip ?_)
  refine wp_no (by walk_at "ev") (wp_skip ?_)
  refine wp_yes (by walk_at "ev") (wp_assoc ?_)
  by_cases hz : S.h.length = 0
  · rw [if_pos hz]
    rw [decide_eq_true hz] at he
    refine wp_yes (by walk_at "ev") ?_
    exact wp_retES rfl rfl
  · rw [if_neg hz]
    rw [decide_eq_false hz] at he
    refine wp_no (by walk_at "ev") (wp_skip ?_)
    clear he g0
    have g1 := @xget_vh
    have g2 := @xget_vt
    have ha := account_spec KH mo0 mo1
    have hx : oIdx (.tuple [.list (nl (pts S.h mo)), .list ((spL S.h (pts S.h mo)).map enc3)]) (.int 1) = .ok (.list ((spL S.h (pts S.h mo)).map enc3)) := idxT_at (by decide) rfl
    have ho := l_owed_11_spec KH (by omega) mo Ap Ar (by omega) Kts d0 d1
    refine wp_retES (d := .int (owedT S.h mo S.ts d)) (bor_at rfl ?_ rfl) rfl
    show xApp f_l_owed_11 _ [.dic none (frzFs (encFs S.h tl S.bs)), .val (.int mo), .val (encDd (.owed d)), .un, .un, .un] = _
    walk_at "ev"
theorem answer_strike {S : PSt} (K : OkS S) {tl : List Tar} {mo : Int} {d : Int} : AnsOk mo S tl (.strike d) tl := by
  intro m
  show Wp b_l_answer (E11 m S tl mo (.strike d)) (onRt m (saysT mo S (.strike d)) (encFs (nextT mo S (.strike d)).h tl (nextT mo S (.strike d)).bs))
  obtain ⟨KH, Khl, Kts, Ktl, Kbl⟩ := K
  have i0 : oIdx (encDd (.strike d)) (.int 0) = .ok (.str "strike") := idxT_at (by decide) rfl
  have i1 : oIdx (encDd (.strike d)) (.int 1) = .ok (.int d) := idxT_at (by decide) rfl
  have q1 := q_strike_tariff
  have q2 := q_strike_bill
  have q3 := q_strike_use
  have q4 := q_strike_owed
  have g0 := @xget_h m
  have hs := l_struck_spec (h := S.h) (day := d) (by omega)
  unfold b_l_answer saysT nextT
  rw [doneT_ent (dd := .strike d) trivial, entryT_strike]
  refine wp_no (by walk_at "ev") (wp_skip ?_)
  refine wp_no (by walk_at "ev") (wp_skip ?_)
  refine wp_no (by walk_at "ev") (wp_skip ?_)
  refine wp_no (by walk_at "ev") (wp_skip ?_)
  refine wp_yes (by walk_at "ev") (wp_assoc ?_)
  cases e : strikeT d S.h with
  | none =>
    rw [strk_none e] at hs
    have hq := strk_eq_no S.h
    refine wp_set (encH S.h) (by walk_at "ev") (wp_assoc ?_)
    clear hs
    refine wp_yes (by walk_at "ev") ?_
    exact wp_retES rfl rfl
  | some h' =>
    rw [strk_some KH.Days e] at hs
    have hq := strk_eq_yes e
    refine wp_set (encH h') (by walk_at "ev") (wp_assoc ?_)
    clear hs
    refine wp_no (by walk_at "ev") (wp_skip (wp_assoc ?_))
    refine wp_putD (d := encH h') (k := .inr "history") rfl rfl rfl rfl canPut_h (show 3 < 100000 by decide) ?_
    rw [putF_h]
    exact wp_retES rfl rfl
theorem kind_new {dd : Deed} (hn : isNew dd) : (kindT dd = "tariff") = False ∧ (kindT dd = "bill") = False ∧ (kindT dd = "use") = False ∧ (kindT dd = "owed") = False ∧ (kindT dd = "strike") = False := by
  have q1 : (("start" : Str) = "strike") = False := by simp; decide +kernel
  have q2 : (("read" : Str) = "strike") = False := by simp; decide +kernel
  have q3 : (("change" : Str) = "strike") = False := by simp; decide +kernel
  cases dd with
  | start d s v => exact ⟨q_start_tariff, q_start_bill, q_start_use, q_start_owed, q1⟩
  | read d v => exact ⟨q_read_tariff, q_read_bill, q_read_use, q_read_owed, q2⟩
  | change d l s f => exact ⟨q_change_tariff, q_change_bill, q_change_use, q_change_owed, q3⟩
  | _ => exact hn.elim
theorem answer_new {S : PSt} (K : OkS S) {tl : List Tar} {mo : Int} (mo0 : 0 ≤ mo) (mo1 : mo ≤ 1000000000000) {dd : Deed} (hn : isNew dd) (hN : ∀ h', entryT S.h dd = .ok h' → HW h') : AnsOk mo S tl dd tl := by
  intro m
  show Wp b_l_answer (E11 m S tl mo dd) (onRt m (saysT mo S dd) (encFs (nextT mo S dd).h tl (nextT mo S dd).bs))
  obtain ⟨KH, Khl, Kts, Ktl, Kbl⟩ := K
  have i0 := encDd_0 dd
  obtain ⟨q1, q2, q3, q4, q5⟩ := kind_new hn
  have g0 := @xget_h m
  have hs := entry_of_spec KH.vh hn
  unfold b_l_answer saysT nextT
  rw [doneT_ent (isNew_ent hn)]
  refine wp_no (by walk_at "ev") (wp_skip ?_)
  refine wp_no (by walk_at "ev") (wp_skip ?_)
  refine wp_no (by walk_at "ev") (wp_skip ?_)
  refine wp_no (by walk_at "ev") (wp_skip ?_)
  refine wp_no (by walk_at "ev") (wp_skip ?_)
  unfold sayE at hs
  cases e : entryT S.h dd with
  | bad => exact absurd e (entryT_nb (isNew_ent hn))
  | exc c =>
    rw [e] at hs
    replace hs : f_l_entry_of [encH S.h, encDd dd] = .ok (.str (refT c)) := hs
    have hi := isA_st (refT c)
    refine wp_set (.str (refT c)) (by walk_at "ev") ?_
    clear hs
    refine wp_yes (by walk_at "ev") ?_
    exact wp_retES rfl rfl
  | ok h' =>
    have H' := hN h' e
    rw [e] at hs
    replace hs : f_l_entry_of [encH S.h, encDd dd] = .ok (encE (entE dd)) := hs
    have hi := isA_st_ent (entE dd)
    have he := entryT_new hn e
    have ha := add_ent (h := S.h) (e := entE dd) (by omega)
    rw [← he] at ha
    have hp : 0 < h'.length := by rw [he]; simp
    refine wp_set (encE (entE dd)) (by walk_at "ev") ?_
    clear hs
    refine wp_no (by walk_at "ev") (wp_skip ?_)
    clear hi he
    generalize encE (entE dd) = en at *
    refine wp_putD (d := encH h') (k := .inr "history") rfl (by walk_at "ev") rfl rfl canPut_h (show 3 < 100000 by decide) ?_
    rw [putF_h]
    clear ha
    show Wp _ [.dic m (encFs h' tl S.bs), .val (.int mo), .val (encDd dd), .val en, .un, .un] (onRt m (ansT mo h' dd) (encFs h' tl S.bs))
    have hc := account_spec H' mo0 mo1
    have hx : oIdx (.tuple [.list (nl (pts h' mo)), .list ((spL h' (pts h' mo)).map enc3)]) (.int 0) = .ok (.list (nl (pts h' mo))) := idxT_at (by decide) rfl
    have hL := encH_len h'
    have hin := in_nl (h'.length - 1) (pts h' mo)
    rw [show ((h'.length - 1 : Nat) : Int) = (h'.length : Int) - 1 by omega] at hin
    clear e hN q1 q2 q3 q4 q5 H'
    have dn : ∀ (f2 : EX), (kindT dd = "read") = False → ansT mo h' dd = .str "done" → Wp (sSeq (sIf (tOf (xOp oNe (xOp oIdx (xVar 2) (xC (.int 0))) (xC (.str (PySem.Str.ofString "read"))))) (sRetE (xC (.str (PySem.Str.ofString "done")))) sSkip) (sRetE f2)) [.dic m (encFs h' tl S.bs), .val (.int mo), .val (encDd dd), .val en, .un, .un] (onRt m (ansT mo h' dd) (encFs h' tl S.bs)) := by
      intro f2 q qa
      rw [qa]
      clear qa
      refine wp_yes (by walk_at "ev") ?_
      exact wp_retES rfl rfl
    cases dd with
    | start d s v => exact dn _ q_start_read rfl
    | change d l s f => exact dn _ q_change_read rfl
    | read d v =>
      clear dn
      show Wp _ _ (onRt m (if h'.length - 1 ∈ pts h' mo then .str "counts" else .str "doubted") (encFs h' tl S.bs))
      have hr : decide (("read" : Str) = "read") = true := decide_eq_true rfl
      replace i0 : oIdx (encDd (.read d v)) (.int 0) = .ok (.str "read") := i0
      refine wp_no (by walk_at "ev") (wp_skip ?_)
      by_cases q : h'.length - 1 ∈ pts h' mo
      · rw [decide_eq_true q] at hin
        rw [if_pos q]
        clear q
        have hj : oIdx (.list [.str "doubted", .str "counts"]) (.int 1) = .ok (.str "counts") := idx_at (by decide) rfl
        exact wp_retE (by walk_at "ev") rfl
      · rw [decide_eq_false q] at hin
        rw [if_neg q]
        clear q
        have hj : oIdx (.list [.str "doubted", .str "counts"]) (.int 0) = .ok (.str "doubted") := idx_at (by decide) rfl
        exact wp_retE (by walk_at "ev") rfl
    | _ => exact hn.elim
end Mg
namespace Mg
open PySem PySem.Spec PyProof.Rows L2
/-! ### k11: the deeds -/
def lastD (h : List Ent) : Int := if h.length = 0 then 0 else lastDay h
/-- a deed by the law's cells -/
def DeedOk (L : Int) : Deed → Prop
  | .start d s v => 0 ≤ d ∧ d ≤ 99 ∧ 2 ≤ s ∧ s ≤ 1000000000000 ∧ 0 ≤ v
  | .read d v => d ≤ L + 99 ∧ 0 ≤ v
  | .change d l s f => d ≤ L + 99 ∧ 0 ≤ l ∧ 2 ≤ s ∧ s ≤ 1000000000000 ∧ 0 ≤ f
  | .strike _ => True
  | .tariff t => GoodT2 t
  | .bill d => 0 ≤ d ∧ d ≤ L + 99
  | .use d => 0 ≤ d ∧ d ≤ L + 99
  | .owed d => 0 ≤ d ∧ d ≤ L + 99
abbrev onDeed (L : Int) : Out → Prop := fun o => ∃ dd, o = .ret (encDd dd) ∧ DeedOk L dd
theorem wp_deed {L : Int} {f : EX} {env : Env} (dd : Deed) (h : f env = .ok (encDd dd)) (q : DeedOk L dd) : Wp (sRet f) env (onDeed L) := wp_ret (encDd dd) h ⟨dd, rfl, q⟩
theorem wp_deedS {L : Int} {f : EX} {t : SX} {env : Env} (dd : Deed) (h : f env = .ok (encDd dd)) (q : DeedOk L dd) : Wp (sSeq (sRet f) t) env (onDeed L) := wp_retS (encDd dd) h ⟨dd, rfl, q⟩
theorem lastD_nn {h : List Ent} (H : HW h) : 0 ≤ lastD h ∧ lastD h ≤ 12000 := by
  unfold lastD
  by_cases z : h.length = 0
  · rw [if_pos z]
    omega
  · rw [if_neg z]
    exact H.day0 (h.length - 1) (by omega)
theorem deed_by_spec {h : List Ent} (H : HW h) {mo : Int} (mo0 : 0 ≤ mo) (mo1 : mo ≤ 1000000000000) {n m : Int} (n0 : 0 ≤ n) (n1 : n < 2147483647) (m0 : 0 ≤ m) (m1 : m < 2147483647) :
    ∃ dd, f_l_deed_by [encH h, .int mo, .int n, .int m] = .ok (encDd dd) ∧ DeedOk (lastD h) dd := by
  have key : Wp b_l_deed_by [.val (encH h), .val (.int mo), .val (.int n), .val (.int m), .un, .un, .un, .un, .un, .un, .un, .un, .un, .un] (onDeed (lastD h)) := by
    unfold b_l_deed_by
    have hL := encH_len h
    obtain ⟨L0, L1⟩ := lastD_nn H
    refine wp_set (.int 0) rfl ?_
    refine wp_P (fun env => env = [.val (encH h), .val (.int mo), .val (.int n), .val (.int m), .val (.int (lastD h)), .un, .un, .un, .un, .un, .un, .un, .un, .un]) ?_ ?_
    · unfold lastD
      by_cases z : h.length = 0
      · rw [if_pos z]
        have hq : ¬ 0 < (h.length : Int) := by omega
        exact wp_no0 (by clear z; walk_at "ev") (wp_skip0 (nx_nx rfl))
      · rw [if_neg z]
        have hq : 0 < (h.length : Int) := by omega
        have l1 := encH_last (h := h) (by omega)
        have l2 : oIdx (encE (hat h (h.length - 1))) (.int 1) = .ok (.int (lastDay h)) := encE_1 _
        exact wp_yes0 (by clear z; walk_at "ev") (wp_set0 (.int (lastDay h)) (by clear z; walk_at "ev") (nx_nx rfl))
    rintro _ rfl
    have hsz := size_now_spec H.vh
    have hsh := shown_now_spec (h := h)
    have sz0 : 2 ≤ (if h.length = 0 then 10 else lastSize h) := by
      by_cases z : h.length = 0
      · rw [if_pos z]
        decide
      · rw [if_neg z]
        exact (H.size (h.length - 1) (by omega)).1
    generalize (if h.length = 0 then (10 : Int) else lastSize h) = sz at *
    generalize shownT h = sh at *
    generalize lastD h = L at *
    obtain ⟨g, hg⟩ : ∃ g, 1 + n / 13 % 9 = g := ⟨_, rfl⟩
    have g0 : 1 ≤ g := by omega
    have g1 : g ≤ 9 := by omega
    refine wp_set (.int g) (by walk_at "ev") ?_
    clear hg
    obtain ⟨day, hday, dd1⟩ := pick (xs := [L + g, L + g, L + g, L, (if L - 1 > 0 then L - 1 else 0), n / 13 % 100]) (k := n / 117 % 6) (fun x => x ≤ L + 99) (by
      intro x hx
      simp only [List.mem_cons, List.not_mem_nil, or_false] at hx
      rcases hx with rfl | rfl | rfl | rfl | rfl | rfl <;> omega) (by omega) (by show n / 117 % 6 < 6; omega)
    simp only [List.map_cons, List.map_nil] at hday
    refine wp_set (.int day) (by walk_at "ev") ?_
    clear hday
    refine wp_set (.int sz) (by walk_at "ev") ?_
    clear hsz
    have hmg0 : 0 ≤ mo * g := Int.mul_nonneg mo0 (by omega)
    generalize hmg : mo * g = mg at *
    have hnr : 0 ≤ (sh + m % (mg + 2)) % sz := Int.emod_nonneg _ (by omega)
    obtain ⟨nr, enr⟩ : ∃ nr, (sh + m % (mg + 2)) % sz = nr := ⟨_, rfl⟩
    rw [enr] at hnr
    refine wp_set (.int nr) (by walk_at "ev") ?_
    clear enr hmg hsh
    obtain ⟨v, hv, v0⟩ := pick (xs := [nr, m % sz, sz, sz - 1]) (k := n / 702 % 4) (fun x => 0 ≤ x) (by
      simp
      exact ⟨hnr, Int.emod_nonneg _ (by omega), by omega, by omega⟩) (by omega) (by show n / 702 % 4 < 4; omega)
    simp only [List.map_cons, List.map_nil] at hv
    refine wp_set (.int v) (by walk_at "ev") ?_
    clear hv
    obtain ⟨kd, hkd⟩ : ∃ kd, n % 13 = kd := ⟨_, rfl⟩
    have kd0 : 0 ≤ kd := by omega
    have kd1 : kd < 13 := by omega
    refine wp_set (.int kd) (by walk_at "ev") ?_
    clear hkd
    show Wp _ [.val (encH h), .val (.int mo), .val (.int n), .val (.int m), .val (.int L), .val (.int g), .val (.int day), .val (.int sz), .val (.int nr), .val (.int v), .val (.int kd), .un, .un, .un] _
    obtain ⟨s2, hs2, s20, s21⟩ := size_spec (m / 3) (by omega) (by omega)
    by_cases k0 : kd = 0
    · refine wp_yes (by walk_at "ev") (wp_assoc ?_)
      refine wp_set (.int s2) (by walk_at "ev") ?_
      clear hs2 k0
      by_cases q : n / 5000 % 8 = 1
      · exact wp_deedS (.start (n / 13 % 20) s2 (m / 7 % (s2 + 1))) (by unfold encDd; walk_at "ev") ⟨by omega, by omega, s20, s21, Int.emod_nonneg _ (by omega)⟩
      · exact wp_deedS (.start (n / 13 % 20) s2 (m / 7 % (s2 + 0))) (by unfold encDd; walk_at "ev") ⟨by omega, by omega, s20, s21, Int.emod_nonneg _ (by omega)⟩
    refine wp_no (by walk_at "ev") (wp_skip ?_)
    by_cases k1 : kd = 1
    · refine wp_yes (by walk_at "ev") (wp_assoc ?_)
      refine wp_set (.int s2) (by walk_at "ev") ?_
      clear hs2 k0 k1
      by_cases q : n / 5000 % 8 = 1
      · exact wp_deedS (.change day v s2 (m / 7 % (s2 + 1))) (by unfold encDd; walk_at "ev") ⟨dd1, v0, s20, s21, Int.emod_nonneg _ (by omega)⟩
      · exact wp_deedS (.change day v s2 (m / 7 % (s2 + 0))) (by unfold encDd; walk_at "ev") ⟨dd1, v0, s20, s21, Int.emod_nonneg _ (by omega)⟩
    refine wp_no (by walk_at "ev") (wp_skip ?_)
    clear hs2
    by_cases k5 : kd < 6
    · refine wp_yes (by walk_at "ev") ?_
      exact wp_deedS (.read day v) rfl ⟨dd1, v0⟩
    refine wp_no (by walk_at "ev") (wp_skip ?_)
    by_cases k6 : kd = 6
    · by_cases z : 0 < (h.length : Int)
      · have pm := emod_mul_lt' m z
        obtain ⟨p, hp, hp2⟩ : ∃ p : Nat, m % (h.length : Int) = (p : Int) ∧ p < h.length := ⟨(m % (h.length : Int)).toNat, by omega, by omega⟩
        have h1 := hat_at hp2
        have h2 := encE_1 (hat h p)
        refine wp_yes (by clear k0 k1 k5 hp; walk_at "ev") ?_
        by_cases q : n / 13 % 4 = 1
        · exact wp_deedS (.strike ((hat h p).day + 1)) (by unfold encDd; walk_at "ev") trivial
        · exact wp_deedS (.strike ((hat h p).day + 0)) (by unfold encDd; walk_at "ev") trivial
      · refine wp_no (by clear k0 k1 k5; walk_at "ev") (wp_skip ?_)
        refine wp_yes (by clear k0 k1 k5; walk_at "ev") ?_
        exact wp_deedS (.strike (m % 5)) (by unfold encDd; walk_at "ev") trivial
    refine wp_no (by walk_at "ev") (wp_skip ?_)
    refine wp_no (by walk_at "ev") (wp_skip ?_)
    by_cases k7 : kd = 7
    · refine wp_yes (by clear k0 k1 k5 k6; walk_at "ev") (wp_assoc ?_)
      clear k0 k1 k5 k6 k7
      obtain ⟨lo, hlo, lo0, lo1⟩ := pick (xs := [0, 1, m / 5 % 1000000001]) (k := n / 13 % 3) (fun x => 0 ≤ x ∧ x ≤ 1000000000) (by simp; omega) (by omega) (by show n / 13 % 3 < 3; omega)
      obtain ⟨li, hli, li0, li1⟩ := pick (xs := [0, 3, m * 48271 % 1000000000001]) (k := m % 3) (fun x => 0 ≤ x ∧ x ≤ 1000000000000) (by simp; omega) (by omega) (by show m % 3 < 3; omega)
      simp only [List.map_cons, List.map_nil] at hlo hli
      refine wp_set (.int lo) (by walk_at "ev") (wp_assoc ?_)
      clear hlo
      refine wp_set (.int li) (by walk_at "ev") ?_
      clear hli
      exact wp_deedS (.tariff ⟨m % 70, m / 70 % 40, lo, li, m / 9 % 50⟩) (by unfold encDd; walk_at "ev") ⟨⟨lo0, lo1, by show 0 ≤ m / 9 % 50; omega, by show m / 9 % 50 ≤ _; omega, li0, li1⟩, by show 0 ≤ m % 70; omega, by show m % 70 ≤ 2000; omega⟩
    refine wp_no (by walk_at "ev") (wp_skip ?_)
    obtain ⟨x, hx, x0, x1⟩ := pick (xs := [m % 61, L + m % 7]) (k := m / 61 % 2) (fun x => 0 ≤ x ∧ x ≤ L + 99) (by simp; omega) (by omega) (by show m / 61 % 2 < 2; omega)
    simp only [List.map_cons, List.map_nil] at hx
    obtain ⟨y, hy, ym⟩ := idx_mem (ds := [.str "bill", .str "use", .str "owed", .str "bill", .str "bill"]) (k := kd - 8) (by omega) (by show kd - 8 < 5; omega)
    have hr : ∃ dd, encDd dd = .tuple [y, .int x] ∧ DeedOk L dd := by
      simp only [List.mem_cons, List.not_mem_nil, or_false] at ym
      rcases ym with rfl | rfl | rfl | rfl | rfl
      · exact ⟨.bill x, rfl, x0, x1⟩
      · exact ⟨.use x, rfl, x0, x1⟩
      · exact ⟨.owed x, rfl, x0, x1⟩
      · exact ⟨.bill x, rfl, x0, x1⟩
      · exact ⟨.bill x, rfl, x0, x1⟩
    obtain ⟨dd, e, ok⟩ := hr
    clear k0 k1 k5 k6 k7 ym
    exact wp_deed dd (by rw [e]; clear e; walk_at "ev") ok
  obtain ⟨dd, e, ok⟩ := key
  exact ⟨dd, wp_run rfl (congrArg outAn e), ok⟩
end Mg
namespace Mg
open PySem PySem.Spec PyProof.Rows L2
/-! ### k11: one deed more -/
structure Ok11 (mo : Int) (ds : List Deed) (S : PSt) (tl : List Tar) (k : Nat) : Prop where
  run : RunOk mo S0 ds
  en : endT mo S0 ds = S
  acc : Acc S tl
  h : HW S.h
  hl : S.h.length ≤ k
  gt : ∀ t ∈ S.ts, GoodT2 t
  tl : S.ts.length ≤ k
  bl : S.bs.length ≤ k
  ld : lastD S.h ≤ 99 * (k : Int)
  dl : ds.length ≤ k
theorem Ok11.le {mo : Int} {ds : List Deed} {S : PSt} {tl : List Tar} {k k' : Nat} (O : Ok11 mo ds S tl k) (h : k ≤ k') : Ok11 mo ds S tl k' := by
  obtain ⟨o1, o2, o3, o4, o5, o6, o7, o8, o9, o10⟩ := O
  exact ⟨o1, o2, o3, o4, by omega, o6, by omega, by omega, by omega, by omega⟩
theorem Ok11.start (mo : Int) : Ok11 mo [] S0 [] 0 := ⟨trivial, rfl, ⟨List.Perm.nil, List.Pairwise.nil⟩, HW.nil, Nat.le_refl _, fun t ht => (nomatch ht), Nat.le_refl _, Nat.le_refl _, by decide, Nat.le_refl _⟩
theorem lastDay_snoc (h : List Ent) (e : Ent) : lastDay (h ++ [e]) = e.day := by
  unfold lastDay
  rw [List.length_append, List.length_singleton, Nat.add_sub_cancel, hat_app_last]
theorem lastD_snoc (h : List Ent) (e : Ent) : lastD (h ++ [e]) = e.day := by
  unfold lastD
  rw [if_neg (by simp), lastDay_snoc]
theorem lastD_strk (day : Int) (h : List Ent) : lastD (h.map (strkE day)) = lastD h := by
  unfold lastD lastDay
  rw [List.length_map, hat_map, strkE_day]
/-- what is put in keeps the document's bounds -/
theorem entry_ok {h : List Ent} (H : HW h) (hl : h.length ≤ 110) {dd : Deed} (hd : DeedOk (lastD h) dd) (L1 : lastD h ≤ 11000) : ∀ h', entryT h dd = .ok h' → HW h' ∧ h'.length ≤ h.length + 1 ∧ lastD h' ≤ lastD h + 99 := by
  intro h' e
  obtain ⟨L0, _⟩ := lastD_nn H
  cases dd with
  | start d s v =>
    obtain ⟨d0, d1, s0, s1, v0⟩ := hd
    have hn := entryT_new (dd := .start d s v) trivial e
    rw [entryT_start] at e
    split at e
    · cases e
    · split at e
      · cases e
      · rename_i hz hv
        cases e
        refine ⟨HW.start d0 (by omega) s0 s1 v0 (by omega), by simp, ?_⟩
        show lastD ([] ++ [.st d s v]) ≤ _
        rw [lastD_snoc]
        show d ≤ _
        omega
  | read d v =>
    obtain ⟨d1, v0⟩ := hd
    rw [entryT_read] at e
    split at e
    · cases e
    · rename_i hz
      split at e
      · cases e
      · rename_i hd
        split at e
        · cases e
        · rename_i hv
          cases e
          refine ⟨H.snoc (by omega) (by omega) (.inl ⟨d, v, false, rfl, v0, by omega⟩) (show lastDay h < d by omega) (show d ≤ 12000 by omega), by simp, ?_⟩
          rw [lastD_snoc]
          exact d1
  | change d l s f =>
    obtain ⟨d1, l0, s0, s1, f0⟩ := hd
    rw [entryT_change] at e
    split at e
    · cases e
    · rename_i hz
      split at e
      · cases e
      · rename_i hd
        split at e
        · cases e
        · rename_i hv
          cases e
          refine ⟨H.snoc (by omega) (by omega) (.inr ⟨d, l, s, f, rfl, s0, s1, f0, by omega, l0, by omega⟩) (show lastDay h < d by omega) (show d ≤ 12000 by omega), by simp, ?_⟩
          rw [lastD_snoc]
          exact d1
  | strike d =>
    rw [entryT_strike] at e
    cases z : strikeT d h with
    | none =>
      rw [z] at e
      cases e
    | some x =>
      rw [z] at e
      cases e
      rw [← strk_some H.Days z]
      exact ⟨H.strk d, by simp, by rw [lastD_strk]; omega⟩
  | _ => cases e
theorem nextT_ent {mo : Int} {S : PSt} {dd : Deed} (he : isEnt dd) : (∃ h', entryT S.h dd = .ok h' ∧ nextT mo S dd = ⟨h', S.ts, S.bs⟩) ∨ nextT mo S dd = S := by
  unfold nextT
  rw [doneT_ent he]
  cases e : entryT S.h dd with
  | ok h' => exact .inl ⟨h', rfl, rfl⟩
  | exc c => exact .inr rfl
  | bad => exact .inr rfl
theorem turn_11 {mo : Int} (mo0 : 0 ≤ mo) (mo1 : mo ≤ 1000000000000) {ds : List Deed} {S : PSt} {tl : List Tar} {k : Nat} (O : Ok11 mo ds S tl k) (hk : k ≤ 100) {dd : Deed} (hd : DeedOk (lastD S.h) dd) :
    ∃ tl', Ok11 mo (ds ++ [dd]) (nextT mo S dd) tl' (k + 1) ∧ f_l_answer (encFs S.h tl S.bs) [.int mo, encDd dd] = .ok (saysT mo S dd, encFs (nextT mo S dd).h tl' (nextT mo S dd).bs) := by
  obtain ⟨o1, o2, o3, o4, o5, o6, o7, o8, o9, o10⟩ := O
  have K : OkS S := ⟨o4, by omega, o6, by omega, by omega⟩
  have hE := entry_ok o4 (by omega) hd (by omega)
  have hN : ∀ h', entryT S.h dd = .ok h' → HW h' := fun h' e => (hE h' e).1
  obtain ⟨L0, L1⟩ := lastD_nn o4
  have kd : OkD dd := by
    cases dd with
    | bill d => exact ⟨hd.1, by have := hd.2; omega⟩
    | use d => exact ⟨hd.1, by have := hd.2; omega⟩
    | owed d => exact ⟨hd.1, by have := hd.2; omega⟩
    | _ => trivial
  have run : RunOk mo S0 (ds ++ [dd]) := runOk_app mo ds [dd] S0 o1 (by rw [o2]; exact ⟨K, kd, hN, trivial⟩)
  have en : endT mo S0 (ds ++ [dd]) = nextT mo S dd := by
    rw [endT_app, o2]
    rfl
  have dl : (ds ++ [dd]).length ≤ k + 1 := by simp; omega
  have old : nextT mo S dd = S → Ok11 mo (ds ++ [dd]) (nextT mo S dd) tl (k + 1) := fun e => by
    rw [e] at en ⊢
    exact ⟨run, en, o3, o4, by omega, o6, by omega, by omega, by omega, dl⟩
  have ent : isEnt dd → Ok11 mo (ds ++ [dd]) (nextT mo S dd) tl (k + 1) := fun he => by
    rcases nextT_ent (mo := mo) (S := S) he with ⟨h', e1, e2⟩ | e
    · obtain ⟨h1, h2, h3⟩ := hE h' e1
      rw [e2] at en ⊢
      exact ⟨run, en, ⟨o3.p, o3.r⟩, h1, by show h'.length ≤ _; omega, o6, by show S.ts.length ≤ _; omega, by show S.bs.length ≤ _; omega, by show lastD h' ≤ _; omega, dl⟩
    · exact old e
  cases dd with
  | tariff t =>
    refine ⟨_, ?_, specR_ok rfl (answer_tariff K o3)⟩
    have e0 := doneT_tariff (mo := mo) (S := S) (t := t)
    by_cases q : t.d ∈ S.ts.map (·.d)
    · rw [if_pos q] at e0
      rw [if_pos q]
      refine old ?_
      unfold nextT
      rw [e0]
    · rw [if_neg q] at e0
      rw [if_neg q]
      have e : nextT mo S (.tariff t) = ⟨S.h, insT S.ts t, S.bs⟩ := by
        unfold nextT
        rw [e0]
      rw [e] at en ⊢
      refine ⟨run, en, ⟨(insT_perm q).trans (o3.p.append_right [t]), insT_ris o3.r⟩, o4, by show S.h.length ≤ _; omega, fun a ha => ?_, by show (insT S.ts t).length ≤ _; rw [insT_len _ _ q]; omega, by show S.bs.length ≤ _; omega, by show lastD S.h ≤ _; omega, dl⟩
      rcases insT_mem ha with ha | rfl
      · exact o6 a ha
      · exact hd
  | bill d =>
    refine ⟨tl, ?_, specR_ok rfl (answer_bill K o3 mo0 mo1 kd.1 kd.2)⟩
    have e0 := doneT_bill (mo := mo) (S := S) (d := d)
    by_cases h1 : S.h.length = 0
    · rw [if_pos h1] at e0
      refine old ?_
      unfold nextT
      rw [e0]
    · rw [if_neg h1] at e0
      by_cases h2 : 0 < S.bs.length ∧ d < (lastB S.bs).1
      · rw [if_pos h2] at e0
        refine old ?_
        unfold nextT
        rw [e0]
      · rw [if_neg h2] at e0
        have e : nextT mo S (.bill d) = ⟨S.h, S.ts, S.bs ++ [(d, owedT S.h mo S.ts d - sumB S.bs)]⟩ := by
          unfold nextT
          rw [e0]
        rw [e] at en ⊢
        exact ⟨run, en, ⟨o3.p, o3.r⟩, o4, by show S.h.length ≤ _; omega, o6, by show S.ts.length ≤ _; omega, by show (S.bs ++ [_]).length ≤ _; simp; omega, by show lastD S.h ≤ _; omega, dl⟩
  | use d => exact ⟨tl, old rfl, specR_ok rfl (answer_use K mo0 mo1 kd.1 kd.2)⟩
  | owed d =>
    refine ⟨tl, old ?_, specR_ok rfl (answer_owed K o3 mo0 mo1 kd.1 kd.2)⟩
    unfold nextT
    rw [doneT_owed]
    by_cases h1 : S.h.length = 0
    · rw [if_pos h1]
    · rw [if_neg h1]
  | start d s v => exact ⟨tl, ent trivial, specR_ok rfl (answer_new K mo0 mo1 trivial hN)⟩
  | read d v => exact ⟨tl, ent trivial, specR_ok rfl (answer_new K mo0 mo1 trivial hN)⟩
  | change d l s f => exact ⟨tl, ent trivial, specR_ok rfl (answer_new K mo0 mo1 trivial hN)⟩
  | strike d => exact ⟨tl, ent trivial, specR_ok rfl (answer_strike K)⟩
end Mg
namespace Mg
open PySem PySem.Spec PyProof.Rows L2
theorem wp_appR {i j : Nat} {fa : AX} {env : Env} {m : Option (Addr × List Addr)} {fl : Flds} {xs ds : List D} {x : D × Flds} {spec : Flds → List D → An (D × Flds)} {Q : Out → Prop} (h1 : env[j]? = some (.own xs)) (h2 : env[i]? = some (.dic m fl)) (ha : fa env = .ok ds) (hs : spec fl ds = .ok x) (hl : xs.length ≤ 100000) (q : Q (.nx ((env.set i (.dic m x.2)).set j (.own (xs ++ [x.1]))))) : Wp (sAppR j i spec fa) env Q := by
  refine wp_end ?_ q
  unfold sAppR
  rw [h1]
  show (match env[i]? with
    | some (.dic m fl) => (fa env).thn env fun ds => (match spec fl ds with
      | .ok x => if xs.length ≤ 100000 then .nx ((env.set i (.dic m x.2)).set j (.own (xs ++ [x.1]))) else .bad
      | _ => .bad)
    | _ => .bad) = _
  rw [h2]
  show (fa env).thn env _ = _
  rw [ha]
  show (match spec fl ds with
      | .ok x => if xs.length ≤ 100000 then Out.nx ((env.set i (.dic m x.2)).set j (.own (xs ++ [x.1]))) else .bad
      | _ => .bad) = _
  rw [hs]
  exact if_pos hl
theorem idxO_last (xs : List D) (d : D) : oIdxL (xs ++ [d]) (.int (-1)) = .ok d := by
  show (match atI (xs ++ [d]) (-1) with | some d => An.ok d | none => .bad) = _
  rw [atI_last (last_snoc xs d)]
theorem enum_get {xs : List D} {i : Nat} {d : D} (h : (enumD xs)[i]? = some d) : ∃ hi : i < xs.length, d = .tuple [.int (i : Int), xs[i]] := by
  unfold enumD at h
  rw [List.getElem?_map] at h
  by_cases hi : i < xs.length
  · rw [List.getElem?_range hi] at h
    cases h
    refine ⟨hi, ?_⟩
    show PyData.tuple [.int (i : Int), xs.getD i .none] = _
    rw [List.getD_eq_getElem?_getD, List.getElem?_eq_getElem hi]
    rfl
  · rw [List.getElem?_eq_none (by simpa using hi)] at h
    cases h
theorem cut_mem {xs : List D} {lo hi : Option Int} {d : D} (h : d ∈ cutD xs lo hi) : d ∈ xs := List.mem_of_mem_drop (List.mem_of_mem_take h)
theorem cut_len (xs : List D) (lo hi : Option Int) : (cutD xs lo hi).length ≤ xs.length := by
  unfold cutD
  rw [List.length_take, List.length_drop]
  omega
theorem encDd_sh (dd : Deed) : Sh 1 (encDd dd) := by
  have s1 : Sh 0 (.str "strike") := sh_str (by decide +kernel)
  have s2 : Sh 0 (.str "tariff") := sh_str (by decide +kernel)
  have s3 : Sh 0 (.str "bill") := sh_str (by decide +kernel)
  have s4 : Sh 0 (.str "use") := sh_str (by decide +kernel)
  have s5 : Sh 0 (.str "owed") := sh_str (by decide +kernel)
  cases dd with
  | start d s v => exact sh_tup (sh_cons sh_start (sh_cons sh_int (sh_cons sh_int (sh_cons sh_int sh_nil))))
  | read d v => exact sh_tup (sh_cons sh_read (sh_cons sh_int (sh_cons sh_int sh_nil)))
  | change d l s f => exact sh_tup (sh_cons sh_change (sh_cons sh_int (sh_cons sh_int (sh_cons sh_int (sh_cons sh_int sh_nil)))))
  | strike d => exact sh_tup (sh_cons s1 (sh_cons sh_int sh_nil))
  | tariff t => exact sh_tup (sh_cons s2 (sh_cons sh_int (sh_cons sh_int (sh_cons sh_int (sh_cons sh_int (sh_cons sh_int sh_nil))))))
  | bill d => exact sh_tup (sh_cons s3 (sh_cons sh_int sh_nil))
  | use d => exact sh_tup (sh_cons s4 (sh_cons sh_int sh_nil))
  | owed d => exact sh_tup (sh_cons s5 (sh_cons sh_int sh_nil))
theorem encS_sh (S : PSt) : ∀ d ∈ [encH S.h, tarsT S.ts, encB S.bs], Sh 2 d := sh_cons (encH_sh S.h) (sh_cons (sh_tup (tars_sh S.ts)) (sh_cons (sh_tup (bills_sh S.bs)) sh_nil))
/-- an answer: a word or a number -/
def isAns (d : D) : Prop := (∃ z, d = .str z) ∨ ∃ n, d = .int n
theorem says_ans (mo : Int) (S : PSt) (dd : Deed) : isAns (saysT mo S dd) := by
  have ent : ∀ dd : Deed, isEnt dd → isAns (saysT mo S dd) := fun dd he => by
    unfold saysT
    rw [doneT_ent he]
    cases e : entryT S.h dd with
    | bad => exact absurd e (entryT_nb he)
    | exc c => exact .inl ⟨_, rfl⟩
    | ok h' =>
      show isAns (ansT mo h' dd)
      cases dd with
      | read d v =>
        show isAns (if _ then _ else _)
        split <;> exact .inl ⟨_, rfl⟩
      | _ => exact .inl ⟨_, rfl⟩
  cases dd with
  | tariff t =>
    unfold saysT
    rw [doneT_tariff]
    by_cases h1 : t.d ∈ S.ts.map (·.d)
    · rw [if_pos h1]
      exact .inl ⟨_, rfl⟩
    · rw [if_neg h1]
      exact .inl ⟨_, rfl⟩
  | bill d =>
    unfold saysT
    rw [doneT_bill]
    by_cases h1 : S.h.length = 0
    · rw [if_pos h1]
      exact .inl ⟨_, rfl⟩
    · rw [if_neg h1]
      by_cases h2 : 0 < S.bs.length ∧ d < (lastB S.bs).1
      · rw [if_pos h2]
        exact .inl ⟨_, rfl⟩
      · rw [if_neg h2]
        exact .inr ⟨_, rfl⟩
  | use d => exact .inr ⟨_, rfl⟩
  | owed d =>
    unfold saysT
    rw [doneT_owed]
    by_cases h1 : S.h.length = 0
    · rw [if_pos h1]
      exact .inl ⟨_, rfl⟩
    · rw [if_neg h1]
      exact .inr ⟨_, rfl⟩
  | start d s v => exact ent _ trivial
  | read d v => exact ent _ trivial
  | change d l s f => exact ent _ trivial
  | strike d => exact ent _ trivial
theorem answers_ans (mo : Int) : ∀ (ds : List Deed) (S : PSt), ∀ d ∈ answersT mo S ds, isAns d
  | [], _, d, h => nomatch h
  | a :: r, S, d, h => by
    rcases List.mem_cons.mp (show d ∈ saysT mo S a :: answersT mo (nextT mo S a) r from h) with rfl | h
    · exact says_ans mo S a
    · exact answers_ans mo r _ d h
theorem zip_self : ∀ xs : List D, zipD xs xs = xs.map fun d => .tuple [d, d]
  | [] => rfl
  | x :: xs => by
    show PyData.tuple [x, x] :: zipD xs xs = _
    rw [zip_self xs]
    rfl
theorem isA_bool_str {z : Str} : oIsA "bool" (.str z) = .ok (.bool false) := by
  have e : kitB "str" "bool" = some false := by decide +kernel
  show (match kitB "str" "bool" with | some b => An.ok (PyData.bool b) | none => .bad) = _
  rw [e]
theorem isA_str_int {n : Int} : oIsA "str" (.int n) = .ok (.bool false) := by
  have e : kitB "int" "str" = some false := by decide +kernel
  show (match kitB "int" "str" with | some b => An.ok (PyData.bool b) | none => .bad) = _
  rw [e]
/-- the test of an answer against the account's -/
theorem ans_test {i j : Nat} {env : Env} {d : D} (ha : isAns d) (h1 : xVar i env = .ok d) (h2 : xVar j env = .ok d) : tOrX (tOf (xUn (oIsA "bool") (xVar i))) (tOrX (tOf (xOp oNe (xUn (oIsA "str") (xVar i)) (xUn (oIsA "str") (xVar j)))) (tOf (xOp oNe (xVar i) (xVar j)))) env = .ok false := by
  rcases ha with ⟨z, rfl⟩ | ⟨n, rfl⟩
  · have a1 := isA_bool_str (z := z)
    have a2 := isA_st z
    have a3 : oNe (.bool true) (.bool true) = .ok (.bool false) := rfl
    have a4 : oNe (.str z) (.str z) = .ok (.bool false) := by rw [ev_neSt, decide_eq_true rfl]; rfl
    walk_at "ev"
  · have a1 := isA_int_bool (n := n)
    have a2 := isA_str_int (n := n)
    have a3 : oNe (.bool false) (.bool false) = .ok (.bool false) := rfl
    have a4 : oNe (.int n) (.int n) = .ok (.bool false) := by rw [ev_neI, decide_eq_true rfl]; rfl
    walk_at "ev"
def EL (ns : List Int) (mo : Int) (ds : List Deed) (S : PSt) (tl : List Tar) (x8 x9 x10 x11 : Slot) : Env := [.val (intsD ns), .val (.int mo), .dic none (encFs S.h tl S.bs), .own (ds.map encDd), .own (answersT mo S0 ds), .un, .un, .un, x8, x9, x10, x11, .un, .un]
theorem answers_snoc (mo : Int) {ds : List Deed} {S : PSt} (e : endT mo S0 ds = S) (dd : Deed) : answersT mo S0 (ds ++ [dd]) = answersT mo S0 ds ++ [saysT mo S dd] := by
  rw [answersT_app, e]
  rfl
theorem law_true_11 : ∀ ns : List Int, ns.length ≤ 63 → f_law_11 [.list (ns.map .int)] = .ok (.bool true) := by
  intro ns hl
  refine wp_run rfl ?_
  show Wp b_law_11 [.val (intsD ns), .un, .un, .un, .un, .un, .un, .un, .un, .un, .un, .un, .un, .un] _
  unfold b_law_11
  obtain ⟨c0, e0⟩ := cell_spec ns 0 (by decide)
  obtain ⟨c1, e1⟩ := cell_spec ns 1 (by decide)
  obtain ⟨m2, e2, m20, m21⟩ := mixed_spec ns 2 (by decide)
  obtain ⟨mo, emo, mo0, mo1⟩ := most_spec c0
  obtain ⟨sz, esz, sz0, sz1⟩ := size_spec m2 m20 m21
  refine wp_set (.int mo) (by walk_at "ev") ?_
  clear emo e0
  refine wp_seq (show sNewS 2 "history" "tariffs" "bills" _ = .nx ([.val (intsD ns), .val (.int mo), .dic none (encFs [] [] []), .un, .un, .un, .un, .un, .un, .un, .un, .un, .un, .un]) from rfl) ?_
  refine wp_own [] rfl ?_
  refine wp_own [] rfl ?_
  refine wp_P (fun env => ∃ ds S tl, env = EL ns mo ds S tl .un .un .un .un ∧ Ok11 mo ds S tl 1) ?_ ?_
  · show Wp _ (EL ns mo [] S0 [] .un .un .un .un) _
    unfold EL
    have O := Ok11.start mo
    by_cases q : 0 < c1 % 3
    · refine wp_yes0 (by walk_at "ev") ?_
      obtain ⟨tl', O', ea⟩ := turn_11 mo0 mo1 O (by decide) (dd := .start 2 sz 1) ⟨by decide, by decide, sz0, sz1, by decide⟩
      refine wp_app [] (encDd (.start 2 sz 1)) rfl (by decide) (by unfold encDd; walk_at "ev") ?_
      refine wp_appR (ds := [.int mo, encDd (.start 2 sz 1)]) (xs := []) rfl rfl ?_ ea (by decide) (nx_nx ⟨[.start 2 sz 1], _, tl', rfl, O'⟩)
      have hx := idxO_last [] (encDd (.start 2 sz 1))
      clear ea O' O
      show aCons _ _ [.val (intsD ns), .val (.int mo), .dic none (encFs S0.h [] S0.bs), .own ([] ++ [encDd (.start 2 sz 1)]), .own [], .un, .un, .un, .un, .un, .un, .un, .un, .un] = _
      walk_at "ev"
    · refine wp_no0 (by walk_at "ev") (wp_skip0 (nx_nx ⟨[], S0, [], rfl, O.le (by decide)⟩))
  rintro _ ⟨ds, S, tl, rfl, O⟩
  clear e1 e2 esz
  have hxs : iE (xSl (xVar 0) (pAt (xC (.int 3))) (pAt (xC (.int 43)))) (EL ns mo ds S tl .un .un .un .un) = .ok (enumD (cutD (ns.map .int) (some 3) (some 43))) := rfl
  have hcl := cut_len (ns.map .int) (some 3) (some 43)
  rw [List.length_map] at hcl
  refine wp_list (enumD (cutD (ns.map .int) (some 3) (some 43))) (fun i env => ∃ ds S tl x8 x9 x10 x11, env = EL ns mo ds S tl x8 x9 x10 x11 ∧ Ok11 mo ds S tl (i + 1)) hxs ⟨ds, S, tl, _, _, _, _, rfl, O⟩ ?_ ?_
  · clear O hxs
    rintro i d _ hd ⟨ds, S, tl, x8, x9, x10, x11, rfl, O⟩
    obtain ⟨hi, rfl⟩ := enum_get hd
    obtain ⟨c, hc, ec⟩ : ∃ c : Int, True ∧ (cutD (ns.map .int) (some 3) (some 43))[i] = .int c := by
      obtain ⟨c, _, e⟩ := List.mem_map.mp (cut_mem (List.getElem_mem hi))
      exact ⟨c, trivial, e.symm⟩
    rw [ec]
    clear hd ec hc
    refine ⟨[.val (intsD ns), .val (.int mo), .dic none (encFs S.h tl S.bs), .own (ds.map encDd), .own (answersT mo S0 ds), .un, .un, .un, .val (.int i), .val (.int c), x10, x11, .un, .un], rfl, ?_⟩
    obtain ⟨a, ha⟩ : ∃ a, (c + 7919 * (i : Int)) * 48271 % 2147483647 = a := ⟨_, rfl⟩
    obtain ⟨b, hb⟩ : ∃ b, (c + 104729 * (i : Int)) * 69621 % 2147483629 = b := ⟨_, rfl⟩
    have a0 : 0 ≤ a := by omega
    have a1 : a < 2147483647 := by omega
    have b0 : 0 ≤ b := by omega
    have b1 : b < 2147483629 := by omega
    refine wp_set (.int a) (by clear hb; walk_at "ev") ?_
    clear ha
    refine wp_set (.int b) (by walk_at "ev") ?_
    clear hb
    obtain ⟨n, hn⟩ : ∃ n, a * a % 2147483647 = n := ⟨_, rfl⟩
    obtain ⟨m, hm⟩ : ∃ m, b * b % 2147483629 = m := ⟨_, rfl⟩
    have n0 : 0 ≤ n := by rw [← hn]; exact Int.emod_nonneg _ (by decide)
    have n1 : n < 2147483647 := by rw [← hn]; exact Int.emod_lt_of_pos _ (by decide)
    have p0 : 0 ≤ m := by rw [← hm]; exact Int.emod_nonneg _ (by decide)
    have p1 : m < 2147483629 := by rw [← hm]; exact Int.emod_lt_of_pos _ (by decide)
    refine wp_set (.int n) (by clear hm; walk_at "ev") ?_
    clear hn
    obtain ⟨dd, ed, dk⟩ := deed_by_spec O.h mo0 mo1 n0 n1 p0 (show m < 2147483647 by omega)
    obtain ⟨tl', O', ea⟩ := turn_11 mo0 mo1 O (by omega) dk
    have g0 := @xget2_h none
    have dl := O.dl
    have al : (answersT mo S0 ds).length ≤ 100000 := by rw [answersT_len]; omega
    refine wp_app (ds.map encDd) (encDd dd) rfl (by rw [List.length_map]; omega) (by
      show xApp f_l_deed_by _ [.val (intsD ns), .val (.int mo), .dic none (encFs S.h tl S.bs), .own (ds.map encDd), .own (answersT mo S0 ds), .un, .un, .un, .val (.int i), .val (.int c), .val (.int n), .val (.int b), .un, .un] = _
      clear ea al
      walk_at "ev") ?_
    clear ed hm g0
    have hx := idxO_last (ds.map encDd) (encDd dd)
    refine wp_appR (ds := [.int mo, encDd dd]) (xs := answersT mo S0 ds) rfl rfl (by
      show aCons _ _ [.val (intsD ns), .val (.int mo), .dic none (encFs S.h tl S.bs), .own (ds.map encDd ++ [encDd dd]), .own (answersT mo S0 ds), .un, .un, .un, .val (.int i), .val (.int c), .val (.int n), .val (.int b), .un, .un] = _
      clear ea al
      walk_at "ev") ea al (turn_nx ⟨ds ++ [dd], nextT mo S dd, tl', .val (.int i), .val (.int c), .val (.int n), .val (.int b), ?_, O'⟩)
    unfold EL
    rw [answers_snoc mo O.en, List.map_append]
    rfl
  rintro _ ⟨ds', S', tl', x8, x9, x10, x11, rfl, O'⟩
  clear O hxs
  clear ds S tl
  have elen : (enumD (cutD (ns.map PyData.int) (some 3) (some 43))).length ≤ 63 := by
    unfold enumD
    rw [List.length_map, List.length_range]
    omega
  obtain ⟨o1, o2, ⟨Ap, Ar⟩, o4, o5, o6, o7, o8, o9, o10⟩ := O'
  generalize (enumD (cutD (ns.map PyData.int) (some 3) (some 43))).length = kk at *
  have hp := play_spec mo0 mo1 o1 (by omega)
  rw [o2] at hp
  have hans := answers_ans mo ds' S0
  have alen := answersT_len mo ds' S0
  have tll := Ap.length_eq
  unfold EL
  generalize answersT mo S0 ds' = A at *
  have hne := neL_sh (ds := ds'.map encDd) (sh_map fun dd _ => encDd_sh dd) (by decide)
  have hdl : (ds'.map encDd).length = A.length := by rw [List.length_map, alen]
  generalize ds'.map encDd = Ds at *
  refine wp_frz Ds rfl ?_
  refine wp_set (.list Ds) rfl ?_
  refine wp_set (.tuple [.list A, encS S']) (by
    show xApp f_p_play _ [.val (intsD ns), .val (.int mo), .dic none (encFs S'.h tl' S'.bs), .val (.list Ds), .own A, .val (.list Ds), .un, .un, x8, x9, x10, x11, .un, .un] = _
    walk_at "ev") ?_
  clear hp
  have t0 : oIdx (.tuple [.list A, encS S']) (.int 0) = .ok (.list A) := idxT_at (by decide) rfl
  have t1 : oIdx (.tuple [.list A, encS S']) (.int 1) = .ok (encS S') := idxT_at (by decide) rfl
  have u0 : oIdx (encS S') (.int 0) = .ok (encH S'.h) := idxT_at (by decide) rfl
  have iT1 : oIsA "tuple" (.tuple [.list A, encS S']) = .ok (.bool true) := isA_tup
  have iL1 := isA_list (ds := A)
  have l2 : oLen [.tuple [.list A, encS S']] = .ok (.int 2) := rfl
  generalize hF : PyData.tuple [.list A, encS S'] = F at *
  refine wp_no (by
    show tOrX _ _ [.val (intsD ns), .val (.int mo), .dic none (encFs S'.h tl' S'.bs), .val (.list Ds), .own A, .val (.list Ds), .val F, .un, x8, x9, x10, x11, .un, .un] = _
    clear hF
    walk_at "ev") (wp_skip ?_)
  clear iT1 iL1 l2 hne
  refine wp_no (by
    show tOf _ [.val (intsD ns), .val (.int mo), .dic none (encFs S'.h tl' S'.bs), .val (.list Ds), .own A, .val (.list Ds), .val F, .un, x8, x9, x10, x11, .un, .un] = _
    clear hF
    walk_at "ev") (wp_skip ?_)
  refine wp_frz A rfl ?_
  have hz : iZ (xOp oIdx (xVar 6) (xC (.int 0))) (xVar 4) [.val (intsD ns), .val (.int mo), .dic none (encFs S'.h tl' S'.bs), .val (.list Ds), .val (.list A), .val (.list Ds), .val F, .un, x8, x9, x10, x11, .un, .un] = .ok (A.map fun d => PyData.tuple [d, d]) := by
    have e : aCons (xOp oIdx (xVar 6) (xC (.int 0))) (aCons (xVar 4) aNil) [.val (intsD ns), .val (.int mo), .dic none (encFs S'.h tl' S'.bs), .val (.list Ds), .val (.list A), .val (.list Ds), .val F, .un, x8, x9, x10, x11, .un, .un] = .ok [.list A, .list A] := by
      clear hF
      walk_at "ev"
    show (aCons _ _ _).bnd oZip = _
    rw [e, ← zip_self]
    rfl
  refine wp_fold (enc := fun d : D => PyData.tuple [d, d]) (fun s _ => s) (fun (_ : Unit) env => ∃ x12 x13, env = [.val (intsD ns), .val (.int mo), .dic none (encFs S'.h tl' S'.bs), .val (.list Ds), .val (.list A), .val (.list Ds), .val F, .un, x8, x9, x10, x11, x12, x13]) A () hz ⟨_, _, rfl⟩ ?_ ?_
  · rintro _ d _ hd ⟨x12, x13, rfl⟩
    refine ⟨[.val (intsD ns), .val (.int mo), .dic none (encFs S'.h tl' S'.bs), .val (.list Ds), .val (.list A), .val (.list Ds), .val F, .un, x8, x9, x10, x11, .val d, .val d], rfl, ?_⟩
    exact wp_no0 (ans_test (hans d hd) rfl rfl) (wp_skip0 (turn_nx ⟨_, _, rfl⟩))
  rintro _ ⟨x12, x13, rfl⟩
  clear hz hans
  have hh : iT (xOp oIdx (xOp oIdx (xVar 6) (xC (.int 1))) (xC (.int 0))) [.val (intsD ns), .val (.int mo), .dic none (encFs S'.h tl' S'.bs), .val (.list Ds), .val (.list A), .val (.list Ds), .val F, .un, x8, x9, x10, x11, x12, x13] = .ok (S'.h.map encE) := by
    have e : xOp oIdx (xOp oIdx (xVar 6) (xC (.int 1))) (xC (.int 0)) [.val (intsD ns), .val (.int mo), .dic none (encFs S'.h tl' S'.bs), .val (.list Ds), .val (.list A), .val (.list Ds), .val F, .un, x8, x9, x10, x11, x12, x13] = .ok (encH S'.h) := by
      clear hF
      walk_at "ev"
    show (xOp _ _ _ _).bnd oItemsT = _
    rw [e]
    rfl
  refine wp_fold (enc := encE) (fun s _ => s) (fun (_ : Unit) env => ∃ x7, env = [.val (intsD ns), .val (.int mo), .dic none (encFs S'.h tl' S'.bs), .val (.list Ds), .val (.list A), .val (.list Ds), .val F, x7, x8, x9, x10, x11, x12, x13]) S'.h () hh ⟨_, rfl⟩ ?_ ?_
  · rintro _ e _ _ ⟨x7, rfl⟩
    refine ⟨[.val (intsD ns), .val (.int mo), .dic none (encFs S'.h tl' S'.bs), .val (.list Ds), .val (.list A), .val (.list Ds), .val F, .val (encE e), x8, x9, x10, x11, x12, x13], rfl, ?_⟩
    have a1 := k_sr
    have a2 := k_cr
    clear hF hh
    refine wp_no0 ?_ (wp_skip0 (turn_nx ⟨_, rfl⟩))
    cases e with
    | st d s v =>
      have h0 := st_0 (d := d) (s := s) (v := v)
      walk_at "ev"
    | rd d v k =>
      have h0 := rd_0 (d := d) (v := v) (k := k)
      have h3 := rd_3 (d := d) (v := v) (k := k)
      have hb := isA_bool_bool (b := k)
      have hr : decide (("read" : Str) = "read") = true := decide_eq_true rfl
      walk_at "ev"
    | ch d l s f =>
      have h0 := ch_0 (d := d) (l := l) (s := s) (f := f)
      walk_at "ev"
  rintro _ ⟨x7, rfl⟩
  clear hh
  have hs := tars_sorted Ap Ar (by omega)
  have heq : oEq (encS S') (.tuple [encH S'.h, tarsT S'.ts, encB S'.bs]) = .ok (.bool true) := eqT_sh (encS_sh S') (by decide)
  refine wp_val (bor_at rfl ?_ rfl)
  show xOp oEq _ _ [.val (intsD ns), .val (.int mo), .dic none (frzFs (encFs S'.h tl' S'.bs)), .val (.list Ds), .val (.list A), .val (.list Ds), .val F, x7, x8, x9, x10, x11, x12, x13] = _
  have g1 := @xget2_vh
  have g2 := @xget2_vt
  have g3 := @xget2_vb
  have tT : oTuple [.list (S'.ts.map encT)] = .ok (tarsT S'.ts) := rfl
  have tB : oTuple [.list (S'.bs.map enc2)] = .ok (encB S'.bs) := rfl
  clear hF o1 o2
  walk_at "ev"
end Mg
namespace MgL
open PySem PySem.Spec PyProof.Rows L2 Mg
def topS (i : Nat) : Stmt := PySem.Challenge.pw_metergap_k11_whole_plays.main.body.getD i (.Pass ⟨0, 0, 0, 0⟩)
section
variable {P : Program} {w : World} {K : PySem.W.Frag} {mg : Str → Option Value} {base : Heap} {cl : Xc → Addr} {cM : Addr}
abbrev s_p_size_at : Stmt := topS 8
abbrev N_p_size_at : List Str := ["history", "place", "size", "entry"]
theorem sc_p_size_at : FnScope N_p_size_at ["history", "place"] (defScope s_p_size_at) := ⟨rfl, rfl, rfl, by decide +kernel, rfl, by decide +kernel, by decide +kernel⟩
theorem ok_p_size_at {f : Addr} {fd : FuncData} (Fn : Fun K "size_at" "size_at" s_p_size_at f fd) (hm : mg "size_at" = some (.ref f)) : FG P w K mg base cl "size_at" 1 2 f_p_size_at :=
  def_ok Fn hm (Fn.binds (ps := ["history", "place"]) fun _ _ _ _ _ _ us hl => match us, hl with | [_, _], _ => rfl) sc_p_size_at fun cdv A outer s H E hr => have hu := hr.units; (ss_cons (ss_set 2 sc_p_size_at.nd se_int) (ss_cons (ss_for (passes_of rfl) rfl (si_tup (se_slice (se_var 0) so_none (so_some (se_add (se_var 1) se_int)))) (pg_name (i := 3) sc_p_size_at.nd rfl (Or.inl rfl)) (gb_name 3) (ss_one (ss_if (st_cmp (op_eq.or (op_eqD hu)) og_eq (se_ix (se_var 3) se_int (fun _ _ => rfl)) se_str (nomark _)) (ss_one (ss_set 2 sc_p_size_at.nd (se_ix (se_var 3) se_int (fun _ _ => rfl)))) (ss_one (ss_if (st_cmp (op_eq.or (op_eqD hu)) og_eq (se_ix (se_var 3) se_int (fun _ _ => rfl)) se_str (nomark _)) (ss_one (ss_set 2 sc_p_size_at.nd (se_ix (se_var 3) se_int (fun _ _ => rfl)))) ss_nil))))) (ss_one (ss_ret (se_var 2)))))
abbrev s_p_begun : Stmt := topS 9
abbrev N_p_begun : List Str := ["history", "day", "size", "value"]
theorem sc_p_begun : FnScope N_p_begun ["history", "day", "size", "value"] (defScope s_p_begun) := ⟨rfl, rfl, rfl, by decide +kernel, rfl, by decide +kernel, by decide +kernel⟩
theorem ok_p_begun {f : Addr} {fd : FuncData} (Fn : Fun K "begun" "begun" s_p_begun f fd) (hm : mg "begun" = some (.ref f)) (z_len : mg "len" = none) (ET : Ex5 K mg cl cM xr_i) : FG P w K mg base cl "begun" 1 4 f_p_begun :=
  def_ok Fn hm (Fn.binds (ps := ["history", "day", "size", "value"]) fun _ _ _ _ _ _ us hl => match us, hl with | [_, _, _, _], _ => rfl) sc_p_begun fun cdv A outer s H E hr => have hu := hr.units; (ss_cons (ss_if (st_cmp op_gt og_gt (se_len z_len (se_var 0)) se_int (nomark _)) (ss_one (ss_raise .stands (ET.ok .stands) rfl (takes_def (L2N.takes_of rfl rfl rfl rfl)))) ss_nil) (ss_cons (ss_if (st_cmp op_ge og_ge (se_var 3) (se_var 2) (nomark _)) (ss_one (ss_raise .noValue (ET.ok .noValue) rfl (takes_def (L2N.takes_of rfl rfl rfl rfl)))) ss_nil) (ss_one (ss_ret (se_tup (sa_cons (se_tup (sa_cons se_str (sa_cons (se_var 1) (sa_cons (se_var 2) (sa_cons (se_var 3) sa_nil)))) (len_ok (aCons_len (aCons_len (aCons_len (aCons_len aNil_len)))) (by decide))) sa_nil) (len_ok (aCons_len aNil_len) (by decide)))))))
abbrev s_p_need_later : Stmt := topS 10
abbrev N_p_need_later : List Str := ["history", "day"]
theorem sc_p_need_later : FnScope N_p_need_later ["history", "day"] (defScope s_p_need_later) := ⟨rfl, rfl, rfl, by decide +kernel, rfl, by decide +kernel, by decide +kernel⟩
theorem ok_p_need_later {f : Addr} {fd : FuncData} (Fn : Fun K "need_later" "need_later" s_p_need_later f fd) (hm : mg "need_later" = some (.ref f)) (z_len : mg "len" = none) (ET : Ex5 K mg cl cM xr_i) : FG P w K mg base cl "need_later" 1 2 f_p_need_later :=
  def_ok Fn hm (Fn.binds (ps := ["history", "day"]) fun _ _ _ _ _ _ us hl => match us, hl with | [_, _], _ => rfl) sc_p_need_later fun cdv A outer s H E hr => have hu := hr.units; (ss_cons (ss_if (st_cmp (op_eq.or (op_eqD hu)) og_eq (se_len z_len (se_var 0)) se_int (nomark _)) (ss_one (ss_raise .noMeter (ET.ok .noMeter) rfl (takes_def (L2N.takes_of rfl rfl rfl rfl)))) ss_nil) (ss_one (ss_if (st_cmp op_le og_le (se_var 1) (se_ix (se_ix (se_var 0) (se_neg se_int) (fun _ _ => rfl)) se_int (fun _ _ => rfl)) (nomark _)) (ss_one (ss_raise .notLater (ET.ok .notLater) rfl (takes_def (L2N.takes_of rfl rfl rfl rfl)))) ss_nil)))
abbrev s_p_read_on : Stmt := topS 11
abbrev N_p_read_on : List Str := ["history", "day", "value"]
theorem sc_p_read_on : FnScope N_p_read_on ["history", "day", "value"] (defScope s_p_read_on) := ⟨rfl, rfl, rfl, by decide +kernel, rfl, by decide +kernel, by decide +kernel⟩
theorem ok_p_read_on {f : Addr} {fd : FuncData} (Fn : Fun K "read_on" "read_on" s_p_read_on f fd) (hm : mg "read_on" = some (.ref f)) (z_len : mg "len" = none) (g_p_need_later : FG P w K mg base cl "need_later" 1 2 f_p_need_later) (g_p_size_at : FG P w K mg base cl "size_at" 1 2 f_p_size_at) (ET : Ex5 K mg cl cM xr_i) : FG P w K mg base cl "read_on" 2 3 f_p_read_on :=
  def_ok Fn hm (Fn.binds (ps := ["history", "day", "value"]) fun _ _ _ _ _ _ us hl => match us, hl with | [_, _, _], _ => rfl) sc_p_read_on fun cdv A outer s H E hr => have hu := hr.units; (ss_cons (ss_drop (se_call g_p_need_later (hr.mono (by decide)) (takes_def (L2N.takes_of rfl rfl rfl rfl)) (sa_cons (se_var 0) (sa_cons (se_var 1) sa_nil)))) (ss_cons (ss_if (st_cmp op_ge og_ge (se_var 2) (se_call g_p_size_at (hr.mono (by decide)) (takes_def (L2N.takes_of rfl rfl rfl rfl)) (sa_cons (se_var 0) (sa_cons (se_sub (se_len z_len (se_var 0)) se_int) sa_nil))) (nomark _)) (ss_one (ss_raise .noValue (ET.ok .noValue) rfl (takes_def (L2N.takes_of rfl rfl rfl rfl)))) ss_nil) (ss_one (ss_ret (se_add (se_var 0) (se_tup (sa_cons (se_tup (sa_cons se_str (sa_cons (se_var 1) (sa_cons (se_var 2) (sa_cons se_bool sa_nil)))) (len_ok (aCons_len (aCons_len (aCons_len (aCons_len aNil_len)))) (by decide))) sa_nil) (len_ok (aCons_len aNil_len) (by decide))))))))
abbrev s_p_changed_on : Stmt := topS 12
abbrev N_p_changed_on : List Str := ["history", "day", "last", "size", "first"]
theorem sc_p_changed_on : FnScope N_p_changed_on ["history", "day", "last", "size", "first"] (defScope s_p_changed_on) := ⟨rfl, rfl, rfl, by decide +kernel, rfl, by decide +kernel, by decide +kernel⟩
theorem ok_p_changed_on {f : Addr} {fd : FuncData} (Fn : Fun K "changed_on" "changed_on" s_p_changed_on f fd) (hm : mg "changed_on" = some (.ref f)) (z_len : mg "len" = none) (g_p_need_later : FG P w K mg base cl "need_later" 1 2 f_p_need_later) (g_p_size_at : FG P w K mg base cl "size_at" 1 2 f_p_size_at) (ET : Ex5 K mg cl cM xr_i) : FG P w K mg base cl "changed_on" 2 5 f_p_changed_on :=
  def_ok Fn hm (Fn.binds (ps := ["history", "day", "last", "size", "first"]) fun _ _ _ _ _ _ us hl => match us, hl with | [_, _, _, _, _], _ => rfl) sc_p_changed_on fun cdv A outer s H E hr => have hu := hr.units; (ss_cons (ss_drop (se_call g_p_need_later (hr.mono (by decide)) (takes_def (L2N.takes_of rfl rfl rfl rfl)) (sa_cons (se_var 0) (sa_cons (se_var 1) sa_nil)))) (ss_cons (ss_if (SW.st (sw_or (st_cmp op_ge og_ge (se_var 2) (se_call g_p_size_at (hr.mono (by decide)) (takes_def (L2N.takes_of rfl rfl rfl rfl)) (sa_cons (se_var 0) (sa_cons (se_sub (se_len z_len (se_var 0)) se_int) sa_nil))) (nomark _)) (sw_or1 (st_cmp op_ge og_ge (se_var 4) (se_var 3) (nomark _))))) (ss_one (ss_raise .noValue (ET.ok .noValue) rfl (takes_def (L2N.takes_of rfl rfl rfl rfl)))) ss_nil) (ss_one (ss_ret (se_add (se_var 0) (se_tup (sa_cons (se_tup (sa_cons se_str (sa_cons (se_var 1) (sa_cons (se_var 2) (sa_cons (se_var 3) (sa_cons (se_var 4) sa_nil))))) (len_ok (aCons_len (aCons_len (aCons_len (aCons_len (aCons_len aNil_len))))) (by decide))) sa_nil) (len_ok (aCons_len aNil_len) (by decide))))))))
abbrev s_p_struck : Stmt := topS 13
abbrev N_p_struck : List Str := ["history", "day", "found", "k"]
theorem sc_p_struck : FnScope N_p_struck ["history", "day"] (defScope s_p_struck) := ⟨rfl, rfl, rfl, by decide +kernel, rfl, by decide +kernel, by decide +kernel⟩
theorem ok_p_struck {f : Addr} {fd : FuncData} (Fn : Fun K "struck" "struck" s_p_struck f fd) (hm : mg "struck" = some (.ref f)) (z_list : mg "list" = none) (z_len : mg "len" = none) (z_range : mg "range" = none) (z_tuple : mg "tuple" = none) (ET : Ex5 K mg cl cM xr_i) : FG P w K mg base cl "struck" 1 2 f_p_struck :=
  def_ok Fn hm (Fn.binds (ps := ["history", "day"]) fun _ _ _ _ _ _ us hl => match us, hl with | [_, _], _ => rfl) sc_p_struck fun cdv A outer s H E hr => have hu := hr.units; (ss_cons (ss_own 2 sc_p_struck.nd (sl_list z_list (se_var 0))) (ss_cons (ss_for (passes_of rfl) rfl (si_rng1 z_range (se_len z_len (se_var 0))) (pg_name (i := 3) sc_p_struck.nd rfl (Or.inl rfl)) (gb_name 3) (ss_one (ss_if (SW.st (sw_and (st_cmp (op_eq.or (op_eqD hu)) og_eq (se_ix (se_ix (se_var 0) (se_var 3) (fun _ _ => rfl)) se_int (fun _ _ => rfl)) se_str (nomark _)) (sw_and (st_cmp (op_eq.or (op_eqD hu)) og_eq (se_ix (se_ix (se_var 0) (se_var 3) (fun _ _ => rfl)) se_int (fun _ _ => rfl)) (se_var 1) (nomark _)) (sw_and1 (st_not (st_val (se_ix (se_ix (se_var 0) (se_var 3) (fun _ _ => rfl)) se_int (fun _ _ => rfl)))))))) (ss_cons (ss_setI 2 (se_tup (sa_cons se_str (sa_cons (se_var 1) (sa_cons (se_ix (se_ix (se_var 0) (se_var 3) (fun _ _ => rfl)) se_int (fun _ _ => rfl)) (sa_cons se_bool sa_nil)))) (len_ok (aCons_len (aCons_len (aCons_len (aCons_len aNil_len)))) (by decide))) (se_var 3)) (ss_frz 2 (ss_one (ss_ret (se_tuple z_tuple (se_var 2)))))) ss_nil))) (ss_one (ss_raise .noReading (ET.ok .noReading) rfl (takes_def (L2N.takes_of rfl rfl rfl rfl))))))
abbrev s_p_gone : Stmt := topS 15
abbrev N_p_gone : List Str := ["size", "one", "other"]
theorem sc_p_gone : FnScope N_p_gone ["size", "one", "other"] (defScope s_p_gone) := ⟨rfl, rfl, rfl, by decide +kernel, rfl, by decide +kernel, by decide +kernel⟩
theorem ok_p_gone {f : Addr} {fd : FuncData} (Fn : Fun K "gone" "gone" s_p_gone f fd) (hm : mg "gone" = some (.ref f)) : FG P w K mg base cl "gone" 1 3 f_p_gone :=
  def_ok Fn hm (Fn.binds (ps := ["size", "one", "other"]) fun _ _ _ _ _ _ us hl => match us, hl with | [_, _, _], _ => rfl) sc_p_gone fun cdv A outer s H E hr => have hu := hr.units; (ss_one (ss_ret (se_mod (se_sub (se_var 2) (se_var 1)) (se_var 0))))
abbrev s_p_share : Stmt := topS 16
abbrev N_p_share : List Str := ["use", "days", "at"]
theorem sc_p_share : FnScope N_p_share ["use", "days", "at"] (defScope s_p_share) := ⟨rfl, rfl, rfl, by decide +kernel, rfl, by decide +kernel, by decide +kernel⟩
theorem ok_p_share {f : Addr} {fd : FuncData} (Fn : Fun K "share" "share" s_p_share f fd) (hm : mg "share" = some (.ref f)) : FG P w K mg base cl "share" 1 3 f_p_share :=
  def_ok Fn hm (Fn.binds (ps := ["use", "days", "at"]) fun _ _ _ _ _ _ us hl => match us, hl with | [_, _, _], _ => rfl) sc_p_share fun cdv A outer s H E hr => have hu := hr.units; (ss_one (ss_ret (se_sub (se_fdiv (se_mul (se_add (se_var 2) se_int) (se_var 0)) (se_var 1)) (se_fdiv (se_mul (se_var 2) (se_var 0)) (se_var 1)))))
abbrev s_p_value_ahead : Stmt := topS 18
abbrev N_p_value_ahead : List Str := ["entry"]
theorem sc_p_value_ahead : FnScope N_p_value_ahead ["entry"] (defScope s_p_value_ahead) := ⟨rfl, rfl, rfl, by decide +kernel, rfl, by decide +kernel, by decide +kernel⟩
theorem ok_p_value_ahead {f : Addr} {fd : FuncData} (Fn : Fun K "value_ahead" "value_ahead" s_p_value_ahead f fd) (hm : mg "value_ahead" = some (.ref f)) : FG P w K mg base cl "value_ahead" 1 1 f_p_value_ahead :=
  def_ok Fn hm (Fn.binds (ps := ["entry"]) fun _ _ _ _ _ _ us hl => match us, hl with | [_], _ => rfl) sc_p_value_ahead fun cdv A outer s H E hr => have hu := hr.units; (ss_cons (ss_if (st_cmp (op_eq.or (op_eqD hu)) og_eq (se_ix (se_var 0) se_int (fun _ _ => rfl)) se_str (nomark _)) (ss_one (ss_ret (se_ix (se_var 0) se_int (fun _ _ => rfl)))) ss_nil) (ss_one (ss_ret (se_ix (se_var 0) se_int (fun _ _ => rfl)))))
abbrev s_p_value_behind : Stmt := topS 19
abbrev N_p_value_behind : List Str := ["entry"]
theorem sc_p_value_behind : FnScope N_p_value_behind ["entry"] (defScope s_p_value_behind) := ⟨rfl, rfl, rfl, by decide +kernel, rfl, by decide +kernel, by decide +kernel⟩
theorem ok_p_value_behind {f : Addr} {fd : FuncData} (Fn : Fun K "value_behind" "value_behind" s_p_value_behind f fd) (hm : mg "value_behind" = some (.ref f)) (g_p_value_ahead : FG P w K mg base cl "value_ahead" 1 1 f_p_value_ahead) : FG P w K mg base cl "value_behind" 2 1 f_p_value_behind :=
  def_ok Fn hm (Fn.binds (ps := ["entry"]) fun _ _ _ _ _ _ us hl => match us, hl with | [_], _ => rfl) sc_p_value_behind fun cdv A outer s H E hr => have hu := hr.units; (ss_cons (ss_if (st_cmp (op_eq.or (op_eqD hu)) og_eq (se_ix (se_var 0) se_int (fun _ _ => rfl)) se_str (nomark _)) (ss_one (ss_ret (se_ix (se_var 0) se_int (fun _ _ => rfl)))) ss_nil) (ss_one (ss_ret (se_call g_p_value_ahead (hr.mono (by decide)) (takes_def (L2N.takes_of rfl rfl rfl rfl)) (sa_cons (se_var 0) sa_nil)))))
abbrev s_p_use_between : Stmt := topS 20
abbrev N_p_use_between : List Str := ["history", "one", "other"]
theorem sc_p_use_between : FnScope N_p_use_between ["history", "one", "other"] (defScope s_p_use_between) := ⟨rfl, rfl, rfl, by decide +kernel, rfl, by decide +kernel, by decide +kernel⟩
theorem ok_p_use_between {f : Addr} {fd : FuncData} (Fn : Fun K "use_between" "use_between" s_p_use_between f fd) (hm : mg "use_between" = some (.ref f)) (g_p_value_ahead : FG P w K mg base cl "value_ahead" 1 1 f_p_value_ahead) (g_p_value_behind : FG P w K mg base cl "value_behind" 2 1 f_p_value_behind) (g_p_size_at : FG P w K mg base cl "size_at" 1 2 f_p_size_at) (g_p_gone : FG P w K mg base cl "gone" 1 3 f_p_gone) : FG P w K mg base cl "use_between" 3 3 f_p_use_between :=
  def_ok Fn hm (Fn.binds (ps := ["history", "one", "other"]) fun _ _ _ _ _ _ us hl => match us, hl with | [_, _, _], _ => rfl) sc_p_use_between fun cdv A outer s H E hr => have hu := hr.units; (ss_one (ss_ret (se_call g_p_gone (hr.mono (by decide)) (takes_def (L2N.takes_of rfl rfl rfl rfl)) (sa_cons (se_call g_p_size_at (hr.mono (by decide)) (takes_def (L2N.takes_of rfl rfl rfl rfl)) (sa_cons (se_var 0) (sa_cons (se_var 1) sa_nil))) (sa_cons (se_call g_p_value_behind (hr.mono (by decide)) (takes_def (L2N.takes_of rfl rfl rfl rfl)) (sa_cons (se_ix (se_var 0) (se_var 1) (fun _ _ => rfl)) sa_nil)) (sa_cons (se_call g_p_value_ahead (hr.mono (by decide)) (takes_def (L2N.takes_of rfl rfl rfl rfl)) (sa_cons (se_ix (se_var 0) (se_var 2) (fun _ _ => rfl)) sa_nil)) sa_nil))))))
abbrev s_p_counts : Stmt := topS 21
abbrev N_p_counts : List Str := ["history", "most", "last", "place", "entry"]
theorem sc_p_counts : FnScope N_p_counts ["history", "most", "last", "place"] (defScope s_p_counts) := ⟨rfl, rfl, rfl, by decide +kernel, rfl, by decide +kernel, by decide +kernel⟩
theorem ok_p_counts {f : Addr} {fd : FuncData} (Fn : Fun K "counts" "counts" s_p_counts f fd) (hm : mg "counts" = some (.ref f)) (g_p_use_between : FG P w K mg base cl "use_between" 3 3 f_p_use_between) : FG P w K mg base cl "counts" 4 4 f_p_counts :=
  def_ok Fn hm (Fn.binds (ps := ["history", "most", "last", "place"]) fun _ _ _ _ _ _ us hl => match us, hl with | [_, _, _, _], _ => rfl) sc_p_counts fun cdv A outer s H E hr => have hu := hr.units; (ss_cons (ss_set 4 sc_p_counts.nd (se_ix (se_var 0) (se_var 3) (fun _ _ => rfl))) (ss_cons (ss_if (st_cmp (op_eq.or (op_eqD hu)) og_eq (se_ix (se_var 4) se_int (fun _ _ => rfl)) se_str (nomark _)) (ss_one (ss_ret se_bool)) ss_nil) (ss_cons (ss_if (st_val (se_ix (se_var 4) se_int (fun _ _ => rfl))) (ss_one (ss_ret se_bool)) ss_nil) (ss_one (ss_ret (se_cmp op_le og_le (se_call g_p_use_between (hr.mono (by decide)) (takes_def (L2N.takes_of rfl rfl rfl rfl)) (sa_cons (se_var 0) (sa_cons (se_var 2) (sa_cons (se_var 3) sa_nil)))) (se_mul (se_var 1) (se_sub (se_ix (se_var 4) se_int (fun _ _ => rfl)) (se_ix (se_ix (se_var 0) (se_var 2) (fun _ _ => rfl)) se_int (fun _ _ => rfl)))) (nomark _)))))))
abbrev s_p_points : Stmt := topS 22
abbrev N_p_points : List Str := ["history", "most", "found", "place"]
theorem sc_p_points : FnScope N_p_points ["history", "most"] (defScope s_p_points) := ⟨rfl, rfl, rfl, by decide +kernel, rfl, by decide +kernel, by decide +kernel⟩
theorem ok_p_points {f : Addr} {fd : FuncData} (Fn : Fun K "points" "points" s_p_points f fd) (hm : mg "points" = some (.ref f)) (z_len : mg "len" = none) (z_range : mg "range" = none) (g_p_counts : FG P w K mg base cl "counts" 4 4 f_p_counts) : FG P w K mg base cl "points" 5 2 f_p_points :=
  def_ok Fn hm (Fn.binds (ps := ["history", "most"]) fun _ _ _ _ _ _ us hl => match us, hl with | [_, _], _ => rfl) sc_p_points fun cdv A outer s H E hr => have hu := hr.units; (ss_cons (ss_own 2 sc_p_points.nd (sl_lst sa_nil (len_ok aNil_len (by decide)))) (ss_cons (ss_for (passes_of rfl) rfl (si_rng1 z_range (se_len z_len (se_var 0))) (pg_name (i := 3) sc_p_points.nd rfl (Or.inl rfl)) (gb_name 3) (ss_one (ss_if (SW.st (sw_or (st_cmp (op_eq.or (op_eqD hu)) og_eq (se_var 3) se_int (nomark _)) (sw_or1 (st_val (se_call g_p_counts (hr.mono (by decide)) (takes_def (L2N.takes_of rfl rfl rfl rfl)) (sa_cons (se_var 0) (sa_cons (se_var 1) (sa_cons (se_ixO 2 (se_neg se_int) (fun _ _ => rfl)) (sa_cons (se_var 3) sa_nil))))))))) (ss_one (ss_app 2 (se_var 3))) ss_nil))) (ss_frz 2 (ss_one (ss_ret (se_var 2))))))
abbrev s_p_spans : Stmt := topS 23
abbrev N_p_spans : List Str := ["history", "most", "found", "places", "k", "one", "other"]
theorem sc_p_spans : FnScope N_p_spans ["history", "most"] (defScope s_p_spans) := ⟨rfl, rfl, rfl, by decide +kernel, rfl, by decide +kernel, by decide +kernel⟩
theorem ok_p_spans {f : Addr} {fd : FuncData} (Fn : Fun K "spans" "spans" s_p_spans f fd) (hm : mg "spans" = some (.ref f)) (z_len : mg "len" = none) (z_range : mg "range" = none) (g_p_points : FG P w K mg base cl "points" 5 2 f_p_points) (g_p_use_between : FG P w K mg base cl "use_between" 3 3 f_p_use_between) : FG P w K mg base cl "spans" 6 2 f_p_spans :=
  def_ok Fn hm (Fn.binds (ps := ["history", "most"]) fun _ _ _ _ _ _ us hl => match us, hl with | [_, _], _ => rfl) sc_p_spans fun cdv A outer s H E hr => have hu := hr.units; (ss_cons (ss_own 2 sc_p_spans.nd (sl_lst sa_nil (len_ok aNil_len (by decide)))) (ss_cons (ss_set 3 sc_p_spans.nd (se_call g_p_points (hr.mono (by decide)) (takes_def (L2N.takes_of rfl rfl rfl rfl)) (sa_cons (se_var 0) (sa_cons (se_var 1) sa_nil)))) (ss_cons (ss_for (passes_of rfl) rfl (si_rng2 z_range se_int (se_len z_len (se_var 3))) (pg_name (i := 4) sc_p_spans.nd rfl (Or.inl rfl)) (gb_name 4) (ss_cons (ss_set 5 sc_p_spans.nd (se_ix (se_var 3) (se_sub (se_var 4) se_int) (fun _ _ => rfl))) (ss_cons (ss_set 6 sc_p_spans.nd (se_ix (se_var 3) (se_var 4) (fun _ _ => rfl))) (ss_one (ss_app 2 (se_tup (sa_cons (se_ix (se_ix (se_var 0) (se_var 5) (fun _ _ => rfl)) se_int (fun _ _ => rfl)) (sa_cons (se_ix (se_ix (se_var 0) (se_var 6) (fun _ _ => rfl)) se_int (fun _ _ => rfl)) (sa_cons (se_call g_p_use_between (hr.mono (by decide)) (takes_def (L2N.takes_of rfl rfl rfl rfl)) (sa_cons (se_var 0) (sa_cons (se_var 5) (sa_cons (se_var 6) sa_nil)))) sa_nil))) (len_ok (aCons_len (aCons_len (aCons_len aNil_len))) (by decide)))))))) (ss_frz 2 (ss_one (ss_ret (se_var 2)))))))
abbrev s_p_use_in : Stmt := topS 25
abbrev N_p_use_in : List Str := ["rows", "day", "found", "low", "high", "use"]
theorem sc_p_use_in : FnScope N_p_use_in ["rows", "day"] (defScope s_p_use_in) := ⟨rfl, rfl, rfl, by decide +kernel, rfl, by decide +kernel, by decide +kernel⟩
theorem ok_p_use_in {f : Addr} {fd : FuncData} (Fn : Fun K "use_in" "use_in" s_p_use_in f fd) (hm : mg "use_in" = some (.ref f)) (g_p_share : FG P w K mg base cl "share" 1 3 f_p_share) : FG P w K mg base cl "use_in" 2 2 f_p_use_in :=
  def_ok Fn hm (Fn.binds (ps := ["rows", "day"]) fun _ _ _ _ _ _ us hl => match us, hl with | [_, _], _ => rfl) sc_p_use_in fun cdv A outer s H E hr => have hu := hr.units; (ss_cons (ss_set 2 sc_p_use_in.nd se_int) (ss_cons (ss_for (passes_of rfl) rfl (si_list (se_var 0)) (pg_tup rfl (pgs_names_cons (i := 3) sc_p_use_in.nd (pgs_names_cons (i := 4) sc_p_use_in.nd (pgs_names_cons (i := 5) sc_p_use_in.nd pgs_names_nil)))) (gb_tup [3, 4, 5] 3 rfl) (ss_one (ss_if (SW.st (sw_and (st_cmp op_le og_le (se_var 3) (se_var 1) (nomark _)) (sw_and1 (st_cmp op_lt og_lt (se_var 1) (se_var 4) (nomark _))))) (ss_one (ss_set 2 sc_p_use_in.nd (se_call g_p_share (hr.mono (by decide)) (takes_def (L2N.takes_of rfl rfl rfl rfl)) (sa_cons (se_var 5) (sa_cons (se_sub (se_var 4) (se_var 3)) (sa_cons (se_sub (se_var 1) (se_var 3)) sa_nil)))))) (ss_one (ss_if (st_cmp op_le og_le (se_var 4) (se_var 1) (nomark _)) (ss_one (ss_set 2 sc_p_use_in.nd (se_fdiv (se_var 5) (se_sub (se_var 4) (se_var 3))))) ss_nil))))) (ss_one (ss_ret (se_var 2)))))
abbrev s_p_use_on : Stmt := topS 26
abbrev N_p_use_on : List Str := ["history", "most", "day"]
theorem sc_p_use_on : FnScope N_p_use_on ["history", "most", "day"] (defScope s_p_use_on) := ⟨rfl, rfl, rfl, by decide +kernel, rfl, by decide +kernel, by decide +kernel⟩
theorem ok_p_use_on {f : Addr} {fd : FuncData} (Fn : Fun K "use_on" "use_on" s_p_use_on f fd) (hm : mg "use_on" = some (.ref f)) (g_p_spans : FG P w K mg base cl "spans" 6 2 f_p_spans) (g_p_use_in : FG P w K mg base cl "use_in" 2 2 f_p_use_in) : FG P w K mg base cl "use_on" 7 3 f_p_use_on :=
  def_ok Fn hm (Fn.binds (ps := ["history", "most", "day"]) fun _ _ _ _ _ _ us hl => match us, hl with | [_, _, _], _ => rfl) sc_p_use_on fun cdv A outer s H E hr => have hu := hr.units; (ss_one (ss_ret (se_call g_p_use_in (hr.mono (by decide)) (takes_def (L2N.takes_of rfl rfl rfl rfl)) (sa_cons (se_call g_p_spans (hr.mono (by decide)) (takes_def (L2N.takes_of rfl rfl rfl rfl)) (sa_cons (se_var 0) (sa_cons (se_var 1) sa_nil))) (sa_cons (se_var 2) sa_nil)))))
abbrev s_p_uses : Stmt := topS 27
abbrev N_p_uses : List Str := ["history", "most", "low", "high", "rows", "day"]
theorem sc_p_uses : FnScope N_p_uses ["history", "most", "low", "high"] (defScope s_p_uses) := ⟨rfl, rfl, rfl, by decide +kernel, rfl, by decide +kernel, by decide +kernel⟩
theorem ok_p_uses {f : Addr} {fd : FuncData} (Fn : Fun K "uses" "uses" s_p_uses f fd) (hm : mg "uses" = some (.ref f)) (z_range : mg "range" = none) (g_p_spans : FG P w K mg base cl "spans" 6 2 f_p_spans) (g_p_use_in : FG P w K mg base cl "use_in" 2 2 f_p_use_in) : FG P w K mg base cl "uses" 7 4 f_p_uses :=
  def_ok Fn hm (Fn.binds (ps := ["history", "most", "low", "high"]) fun _ _ _ _ _ _ us hl => match us, hl with | [_, _, _, _], _ => rfl) sc_p_uses fun cdv A outer s H E hr => have hu := hr.units; (ss_cons (ss_set 4 sc_p_uses.nd (se_call g_p_spans (hr.mono (by decide)) (takes_def (L2N.takes_of rfl rfl rfl rfl)) (sa_cons (se_var 0) (sa_cons (se_var 1) sa_nil)))) (ss_one (ss_ret (se_of_sl (sl_lcO rfl sc_p_uses.nd (si_rng2 z_range (se_var 2) (se_var 3)) (blkOk_by (own := [("day", 5)]) (N := N_p_uses) (sc := defScope s_p_uses) (by decide +kernel)) rfl (fun _ _ _ _ _ => (pg_name (i := 5) sc_p_uses.nd rfl (Or.inl rfl))) (gb_name 5) (by decide) (fun _ _ _ _ _ => sts_nil) (fun _ _ _ _ _ => (se_call g_p_use_in (hr.mono (by decide)) takes_none (sa_cons (se_var 4) (sa_cons (se_var 5) sa_nil)))))))))
abbrev s_p_with_tariff : Stmt := topS 29
abbrev N_p_with_tariff : List Str := ["tariffs", "tariff", "ahead", "behind", "one"]
theorem sc_p_with_tariff : FnScope N_p_with_tariff ["tariffs", "tariff"] (defScope s_p_with_tariff) := ⟨rfl, rfl, rfl, by decide +kernel, rfl, by decide +kernel, by decide +kernel⟩
theorem ok_p_with_tariff {f : Addr} {fd : FuncData} (Fn : Fun K "with_tariff" "with_tariff" s_p_with_tariff f fd) (hm : mg "with_tariff" = some (.ref f)) (z_tuple : mg "tuple" = none) (ET : Ex5 K mg cl cM xr_i) : FG P w K mg base cl "with_tariff" 1 2 f_p_with_tariff :=
  def_ok Fn hm (Fn.binds (ps := ["tariffs", "tariff"]) fun _ _ _ _ _ _ us hl => match us, hl with | [_, _], _ => rfl) sc_p_with_tariff fun cdv A outer s H E hr => have hu := hr.units; (ss_cons (ss_if (st_cmp op_in_seq og_in (se_ix (se_var 1) se_int (fun _ _ => rfl)) (se_of_sl (sl_lcO rfl sc_p_with_tariff.nd (si_tup (se_var 0)) (blkOk_by (own := [("one", 4)]) (N := N_p_with_tariff) (sc := defScope s_p_with_tariff) (by decide +kernel)) rfl (fun _ _ _ _ _ => (pg_name (i := 4) sc_p_with_tariff.nd rfl (Or.inl rfl))) (gb_name 4) (by decide) (fun _ _ _ _ _ => sts_nil) (fun _ _ _ _ _ => (se_ix (se_var 4) se_int (fun _ _ => rfl))))) rfl) (ss_one (ss_raise .stands (ET.ok .stands) rfl (takes_def (L2N.takes_of rfl rfl rfl rfl)))) ss_nil) (ss_cons (ss_set 2 sc_p_with_tariff.nd (se_tuple z_tuple (se_of_sl (sl_lcO rfl sc_p_with_tariff.nd (si_tup (se_var 0)) (blkOk_by (own := [("one", 4)]) (N := N_p_with_tariff) (sc := defScope s_p_with_tariff) (by decide +kernel)) rfl (fun _ _ _ _ _ => (pg_name (i := 4) sc_p_with_tariff.nd rfl (Or.inl rfl))) (gb_name 4) (by decide) (fun _ _ _ _ _ => (sts_one (st_cmp op_lt og_lt (se_ix (se_var 4) se_int (fun _ _ => rfl)) (se_ix (se_var 1) se_int (fun _ _ => rfl)) (nomark _)))) (fun _ _ _ _ _ => (se_var 4)))))) (ss_cons (ss_set 3 sc_p_with_tariff.nd (se_tuple z_tuple (se_of_sl (sl_lcO rfl sc_p_with_tariff.nd (si_tup (se_var 0)) (blkOk_by (own := [("one", 4)]) (N := N_p_with_tariff) (sc := defScope s_p_with_tariff) (by decide +kernel)) rfl (fun _ _ _ _ _ => (pg_name (i := 4) sc_p_with_tariff.nd rfl (Or.inl rfl))) (gb_name 4) (by decide) (fun _ _ _ _ _ => (sts_one (st_cmp op_gt og_gt (se_ix (se_var 4) se_int (fun _ _ => rfl)) (se_ix (se_var 1) se_int (fun _ _ => rfl)) (nomark _)))) (fun _ _ _ _ _ => (se_var 4)))))) (ss_one (ss_ret (se_add (se_add (se_var 2) (se_tup (sa_cons (se_var 1) sa_nil) (len_ok (aCons_len aNil_len) (by decide)))) (se_var 3)))))))
abbrev s_p_tariff_on : Stmt := topS 30
abbrev N_p_tariff_on : List Str := ["tariffs", "day", "found", "one"]
theorem sc_p_tariff_on : FnScope N_p_tariff_on ["tariffs", "day"] (defScope s_p_tariff_on) := ⟨rfl, rfl, rfl, by decide +kernel, rfl, by decide +kernel, by decide +kernel⟩
theorem ok_p_tariff_on {f : Addr} {fd : FuncData} (Fn : Fun K "tariff_on" "tariff_on" s_p_tariff_on f fd) (hm : mg "tariff_on" = some (.ref f)) : FG P w K mg base cl "tariff_on" 1 2 f_p_tariff_on :=
  def_ok Fn hm (Fn.binds (ps := ["tariffs", "day"]) fun _ _ _ _ _ _ us hl => match us, hl with | [_, _], _ => rfl) sc_p_tariff_on fun cdv A outer s H E hr => have hu := hr.units; (ss_cons (ss_set 2 sc_p_tariff_on.nd se_none) (ss_cons (ss_for (passes_of rfl) rfl (si_tup (se_var 0)) (pg_name (i := 3) sc_p_tariff_on.nd rfl (Or.inl rfl)) (gb_name 3) (ss_one (ss_if (st_cmp op_le og_le (se_ix (se_var 3) se_int (fun _ _ => rfl)) (se_var 1) (nomark _)) (ss_one (ss_set 2 sc_p_tariff_on.nd (se_var 3))) ss_nil))) (ss_one (ss_ret (se_var 2)))))
abbrev s_p_cost : Stmt := topS 31
abbrev N_p_cost : List Str := ["tariff", "use", "day", "standing", "low", "limit", "high"]
theorem sc_p_cost : FnScope N_p_cost ["tariff", "use"] (defScope s_p_cost) := ⟨rfl, rfl, rfl, by decide +kernel, rfl, by decide +kernel, by decide +kernel⟩
theorem ok_p_cost {f : Addr} {fd : FuncData} (Fn : Fun K "cost" "cost" s_p_cost f fd) (hm : mg "cost" = some (.ref f)) (z_min : mg "min" = none) (z_max : mg "max" = none) : FG P w K mg base cl "cost" 1 2 f_p_cost :=
  def_ok Fn hm (Fn.binds (ps := ["tariff", "use"]) fun _ _ _ _ _ _ us hl => match us, hl with | [_, _], _ => rfl) sc_p_cost fun cdv A outer s H E hr => have hu := hr.units; (ss_cons (ss_if (st_cmp op_isN og_isN (se_var 0) se_none (nomark _)) (ss_one (ss_ret se_int)) ss_nil) (ss_cons (ss_asg (se_var 0) (pg_tup rfl (pgs_names_cons (i := 2) sc_p_cost.nd (pgs_names_cons (i := 3) sc_p_cost.nd (pgs_names_cons (i := 4) sc_p_cost.nd (pgs_names_cons (i := 5) sc_p_cost.nd (pgs_names_cons (i := 6) sc_p_cost.nd pgs_names_nil)))))) (gb_tup [2, 3, 4, 5, 6] 5 rfl)) (ss_one (ss_ret (se_add (se_add (se_var 3) (se_mul (se_var 4) (se_callB (call_min2 rfl) cg_min z_min (sa_cons (se_var 1) (sa_cons (se_var 5) sa_nil))))) (se_mul (se_var 6) (se_callB (call_max2 rfl) cg_max z_max (sa_cons se_int (sa_cons (se_sub (se_var 1) (se_var 5)) sa_nil)))))))))
abbrev s_p_owed : Stmt := topS 33
abbrev N_p_owed : List Str := ["history", "most", "tariffs", "day", "begin", "total", "k", "use"]
theorem sc_p_owed : FnScope N_p_owed ["history", "most", "tariffs", "day"] (defScope s_p_owed) := ⟨rfl, rfl, rfl, by decide +kernel, rfl, by decide +kernel, by decide +kernel⟩
theorem ok_p_owed {f : Addr} {fd : FuncData} (Fn : Fun K "owed" "owed" s_p_owed f fd) (hm : mg "owed" = some (.ref f)) (z_len : mg "len" = none) (z_enumerate : mg "enumerate" = none) (g_p_uses : FG P w K mg base cl "uses" 7 4 f_p_uses) (g_p_tariff_on : FG P w K mg base cl "tariff_on" 1 2 f_p_tariff_on) (g_p_cost : FG P w K mg base cl "cost" 1 2 f_p_cost) (ET : Ex5 K mg cl cM xr_i) : FG P w K mg base cl "owed" 8 4 f_p_owed :=
  def_ok Fn hm (Fn.binds (ps := ["history", "most", "tariffs", "day"]) fun _ _ _ _ _ _ us hl => match us, hl with | [_, _, _, _], _ => rfl) sc_p_owed fun cdv A outer s H E hr => have hu := hr.units; (ss_cons (ss_if (st_cmp (op_eq.or (op_eqD hu)) og_eq (se_len z_len (se_var 0)) se_int (nomark _)) (ss_one (ss_raise .noMeter (ET.ok .noMeter) rfl (takes_def (L2N.takes_of rfl rfl rfl rfl)))) ss_nil) (ss_cons (ss_set 4 sc_p_owed.nd (se_ix (se_ix (se_var 0) se_int (fun _ _ => rfl)) se_int (fun _ _ => rfl))) (ss_cons (ss_set 5 sc_p_owed.nd se_int) (ss_cons (ss_for (passes_of rfl) rfl (si_enum z_enumerate (se_call g_p_uses (hr.mono (by decide)) (takes_def (L2N.takes_of rfl rfl rfl rfl)) (sa_cons (se_var 0) (sa_cons (se_var 1) (sa_cons (se_var 4) (sa_cons (se_var 3) sa_nil)))))) (pg_tup rfl (pgs_names_cons (i := 6) sc_p_owed.nd (pgs_names_cons (i := 7) sc_p_owed.nd pgs_names_nil))) (gb_tup [6, 7] 2 rfl) (ss_one (ss_set 5 sc_p_owed.nd (se_add (se_var 5) (se_call g_p_cost (hr.mono (by decide)) (takes_def (L2N.takes_of rfl rfl rfl rfl)) (sa_cons (se_call g_p_tariff_on (hr.mono (by decide)) (takes_def (L2N.takes_of rfl rfl rfl rfl)) (sa_cons (se_var 2) (sa_cons (se_add (se_var 4) (se_var 6)) sa_nil))) (sa_cons (se_var 7) sa_nil))))))) (ss_one (ss_ret (se_var 5)))))))
abbrev s_p_billed : Stmt := topS 34
abbrev N_p_billed : List Str := ["bills", "day", "amount"]
theorem sc_p_billed : FnScope N_p_billed ["bills"] (defScope s_p_billed) := ⟨rfl, rfl, rfl, by decide +kernel, rfl, by decide +kernel, by decide +kernel⟩
theorem ok_p_billed {f : Addr} {fd : FuncData} (Fn : Fun K "billed" "billed" s_p_billed f fd) (hm : mg "billed" = some (.ref f)) (z_sum : mg "sum" = none) : FG P w K mg base cl "billed" 1 1 f_p_billed :=
  def_ok Fn hm (Fn.binds (ps := ["bills"]) fun _ _ _ _ _ _ us hl => match us, hl with | [_], _ => rfl) sc_p_billed fun cdv A outer s H E hr => have hu := hr.units; (ss_one (ss_ret (se_callB (cr_sum rfl) cg_sum z_sum (sa_cons (se_of_sl (sl_lcO rfl sc_p_billed.nd (si_tup (se_var 0)) (blkOk_by (own := [("day", 1), ("amount", 2)]) (N := N_p_billed) (sc := defScope s_p_billed) (by decide +kernel)) rfl (fun _ _ _ _ _ => (pg_tup rfl (pgs_names_cons (i := 1) sc_p_billed.nd (pgs_names_cons (i := 2) sc_p_billed.nd pgs_names_nil)))) (gb_tup [1, 2] 2 rfl) (by decide) (fun _ _ _ _ _ => sts_nil) (fun _ _ _ _ _ => (se_var 2)))) sa_nil))))
abbrev s_p_with_bill : Stmt := topS 35
abbrev N_p_with_bill : List Str := ["history", "most", "tariffs", "bills", "day", "amount"]
theorem sc_p_with_bill : FnScope N_p_with_bill ["history", "most", "tariffs", "bills", "day"] (defScope s_p_with_bill) := ⟨rfl, rfl, rfl, by decide +kernel, rfl, by decide +kernel, by decide +kernel⟩
theorem ok_p_with_bill {f : Addr} {fd : FuncData} (Fn : Fun K "with_bill" "with_bill" s_p_with_bill f fd) (hm : mg "with_bill" = some (.ref f)) (z_len : mg "len" = none) (g_p_owed : FG P w K mg base cl "owed" 8 4 f_p_owed) (g_p_billed : FG P w K mg base cl "billed" 1 1 f_p_billed) (ET : Ex5 K mg cl cM xr_i) : FG P w K mg base cl "with_bill" 9 5 f_p_with_bill :=
  def_ok Fn hm (Fn.binds (ps := ["history", "most", "tariffs", "bills", "day"]) fun _ _ _ _ _ _ us hl => match us, hl with | [_, _, _, _, _], _ => rfl) sc_p_with_bill fun cdv A outer s H E hr => have hu := hr.units; (ss_cons (ss_set 5 sc_p_with_bill.nd (se_sub (se_call g_p_owed (hr.mono (by decide)) (takes_def (L2N.takes_of rfl rfl rfl rfl)) (sa_cons (se_var 0) (sa_cons (se_var 1) (sa_cons (se_var 2) (sa_cons (se_var 4) sa_nil))))) (se_call g_p_billed (hr.mono (by decide)) (takes_def (L2N.takes_of rfl rfl rfl rfl)) (sa_cons (se_var 3) sa_nil)))) (ss_cons (ss_if (SW.st (sw_and (st_cmp op_gt og_gt (se_len z_len (se_var 3)) se_int (nomark _)) (sw_and1 (st_cmp op_lt og_lt (se_var 4) (se_ix (se_ix (se_var 3) (se_neg se_int) (fun _ _ => rfl)) se_int (fun _ _ => rfl)) (nomark _))))) (ss_one (ss_raise .notLater (ET.ok .notLater) rfl (takes_def (L2N.takes_of rfl rfl rfl rfl)))) ss_nil) (ss_one (ss_ret (se_add (se_var 3) (se_tup (sa_cons (se_tup (sa_cons (se_var 4) (sa_cons (se_var 5) sa_nil)) (len_ok (aCons_len (aCons_len aNil_len)) (by decide))) sa_nil) (len_ok (aCons_len aNil_len) (by decide))))))))
abbrev s_p_refused_as : Stmt := topS 37
abbrev N_p_refused_as : List Str := ["error"]
theorem sc_p_refused_as : FnScope N_p_refused_as ["error"] (defScope s_p_refused_as) := ⟨rfl, rfl, rfl, by decide +kernel, rfl, by decide +kernel, by decide +kernel⟩
theorem ok_p_refused_as {f : Addr} {fd : FuncData} (Fn : Fun K "refused_as" "refused_as" s_p_refused_as f fd) (hm : mg "refused_as" = some (.ref f)) (z_isinstance : mg "isinstance" = none) (ET : Ex5 K mg cl cM xr_i) : FE P w K mg base cl "refused_as" 1 h_p_refused_as :=
  hot_ok Fn hm (Fn.binds (ps := ["error"]) fun _ _ _ _ _ _ us hl => match us, hl with | [_], _ => rfl) sc_p_refused_as (n := 0) rfl (body := b_p_refused_as) (fun c => by cases c <;> rfl) fun e cdv A outer s H E p hr hz hd => have hu := roomH_u hr; (ss_cons (ss_if (st_val (se_isE 0 rfl (ET.ec e) hz hd z_isinstance (pe_glob (v := .ref (cl .noMeter)) rfl (ET.ok .noMeter).g rfl) (fun _ q => q) (ET.kit e .noMeter rfl))) (ss_one (ss_ret se_str)) ss_nil) (ss_cons (ss_if (st_val (se_isE 0 rfl (ET.ec e) hz hd z_isinstance (pe_glob (v := .ref (cl .notLater)) rfl (ET.ok .notLater).g rfl) (fun _ q => q) (ET.kit e .notLater rfl))) (ss_one (ss_ret se_str)) ss_nil) (ss_cons (ss_if (st_val (se_isE 0 rfl (ET.ec e) hz hd z_isinstance (pe_glob (v := .ref (cl .noValue)) rfl (ET.ok .noValue).g rfl) (fun _ q => q) (ET.kit e .noValue rfl))) (ss_one (ss_ret se_str)) ss_nil) (ss_cons (ss_if (st_val (se_isE 0 rfl (ET.ec e) hz hd z_isinstance (pe_glob (v := .ref (cl .noReading)) rfl (ET.ok .noReading).g rfl) (fun _ q => q) (ET.kit e .noReading rfl))) (ss_one (ss_ret se_str)) ss_nil) (ss_one (ss_ret se_str))))))
abbrev s_p_entry_done : Stmt := topS 38
abbrev N_p_entry_done : List Str := ["history", "deed"]
theorem sc_p_entry_done : FnScope N_p_entry_done ["history", "deed"] (defScope s_p_entry_done) := ⟨rfl, rfl, rfl, by decide +kernel, rfl, by decide +kernel, by decide +kernel⟩
theorem ok_p_entry_done {f : Addr} {fd : FuncData} (Fn : Fun K "entry_done" "entry_done" s_p_entry_done f fd) (hm : mg "entry_done" = some (.ref f)) (g_p_begun : FG P w K mg base cl "begun" 1 4 f_p_begun) (g_p_read_on : FG P w K mg base cl "read_on" 2 3 f_p_read_on) (g_p_changed_on : FG P w K mg base cl "changed_on" 2 5 f_p_changed_on) (g_p_struck : FG P w K mg base cl "struck" 1 2 f_p_struck) : FG P w K mg base cl "entry_done" 3 2 f_p_entry_done :=
  def_ok Fn hm (Fn.binds (ps := ["history", "deed"]) fun _ _ _ _ _ _ us hl => match us, hl with | [_, _], _ => rfl) sc_p_entry_done fun cdv A outer s H E hr => have hu := hr.units; (ss_cons (ss_if (st_cmp (op_eq.or (op_eqD hu)) og_eq (se_ix (se_var 1) se_int (fun _ _ => rfl)) se_str (nomark _)) (ss_one (ss_ret (se_call g_p_begun (hr.mono (by decide)) (takes_def (L2N.takes_of rfl rfl rfl rfl)) (sa_cons (se_var 0) (sa_cons (se_ix (se_var 1) se_int (fun _ _ => rfl)) (sa_cons (se_ix (se_var 1) se_int (fun _ _ => rfl)) (sa_cons (se_ix (se_var 1) se_int (fun _ _ => rfl)) sa_nil))))))) ss_nil) (ss_cons (ss_if (st_cmp (op_eq.or (op_eqD hu)) og_eq (se_ix (se_var 1) se_int (fun _ _ => rfl)) se_str (nomark _)) (ss_one (ss_ret (se_call g_p_read_on (hr.mono (by decide)) (takes_def (L2N.takes_of rfl rfl rfl rfl)) (sa_cons (se_var 0) (sa_cons (se_ix (se_var 1) se_int (fun _ _ => rfl)) (sa_cons (se_ix (se_var 1) se_int (fun _ _ => rfl)) sa_nil)))))) ss_nil) (ss_cons (ss_if (st_cmp (op_eq.or (op_eqD hu)) og_eq (se_ix (se_var 1) se_int (fun _ _ => rfl)) se_str (nomark _)) (ss_one (ss_ret (se_call g_p_changed_on (hr.mono (by decide)) (takes_def (L2N.takes_of rfl rfl rfl rfl)) (sa_cons (se_var 0) (sa_cons (se_ix (se_var 1) se_int (fun _ _ => rfl)) (sa_cons (se_ix (se_var 1) se_int (fun _ _ => rfl)) (sa_cons (se_ix (se_var 1) se_int (fun _ _ => rfl)) (sa_cons (se_ix (se_var 1) se_int (fun _ _ => rfl)) sa_nil)))))))) ss_nil) (ss_one (ss_ret (se_call g_p_struck (hr.mono (by decide)) (takes_def (L2N.takes_of rfl rfl rfl rfl)) (sa_cons (se_var 0) (sa_cons (se_ix (se_var 1) se_int (fun _ _ => rfl)) sa_nil))))))))
abbrev s_p_read_answer : Stmt := topS 39
abbrev N_p_read_answer : List Str := ["history", "most"]
theorem sc_p_read_answer : FnScope N_p_read_answer ["history", "most"] (defScope s_p_read_answer) := ⟨rfl, rfl, rfl, by decide +kernel, rfl, by decide +kernel, by decide +kernel⟩
theorem ok_p_read_answer {f : Addr} {fd : FuncData} (Fn : Fun K "read_answer" "read_answer" s_p_read_answer f fd) (hm : mg "read_answer" = some (.ref f)) (z_len : mg "len" = none) (g_p_points : FG P w K mg base cl "points" 5 2 f_p_points) : FG P w K mg base cl "read_answer" 6 2 f_p_read_answer :=
  def_ok Fn hm (Fn.binds (ps := ["history", "most"]) fun _ _ _ _ _ _ us hl => match us, hl with | [_, _], _ => rfl) sc_p_read_answer fun cdv A outer s H E hr => have hu := hr.units; (ss_cons (ss_if (st_cmp op_in_seq og_in (se_sub (se_len z_len (se_var 0)) se_int) (se_call g_p_points (hr.mono (by decide)) (takes_def (L2N.takes_of rfl rfl rfl rfl)) (sa_cons (se_var 0) (sa_cons (se_var 1) sa_nil))) rfl) (ss_one (ss_ret se_str)) ss_nil) (ss_one (ss_ret se_str)))
abbrev s_p_done : Stmt := topS 40
abbrev N_p_done : List Str := ["state", "most", "deed", "found", "answer", "history", "tariffs", "bills", "more"]
theorem sc_p_done : FnScope N_p_done ["state", "most", "deed"] (defScope s_p_done) := ⟨rfl, rfl, rfl, by decide +kernel, rfl, by decide +kernel, by decide +kernel⟩
theorem ok_p_done {f : Addr} {fd : FuncData} (Fn : Fun K "done" "done" s_p_done f fd) (hm : mg "done" = some (.ref f)) (g_p_with_tariff : FG P w K mg base cl "with_tariff" 1 2 f_p_with_tariff) (g_p_with_bill : FG P w K mg base cl "with_bill" 9 5 f_p_with_bill) (g_p_use_on : FG P w K mg base cl "use_on" 7 3 f_p_use_on) (g_p_owed : FG P w K mg base cl "owed" 8 4 f_p_owed) (g_p_entry_done : FG P w K mg base cl "entry_done" 3 2 f_p_entry_done) (g_p_read_answer : FG P w K mg base cl "read_answer" 6 2 f_p_read_answer) : FG P w K mg base cl "done" 10 3 f_p_done :=
  def_ok Fn hm (Fn.binds (ps := ["state", "most", "deed"]) fun _ _ _ _ _ _ us hl => match us, hl with | [_, _, _], _ => rfl) sc_p_done fun cdv A outer s H E hr => have hu := hr.units; (ss_cons (ss_asg (se_var 0) (pg_tup rfl (pgs_names_cons (i := 5) sc_p_done.nd (pgs_names_cons (i := 6) sc_p_done.nd (pgs_names_cons (i := 7) sc_p_done.nd pgs_names_nil)))) (gb_tup [5, 6, 7] 3 rfl)) (ss_cons (ss_if (st_cmp (op_eq.or (op_eqD hu)) og_eq (se_ix (se_var 2) se_int (fun _ _ => rfl)) se_str (nomark _)) (ss_one (ss_ret (se_tup (sa_cons se_str (sa_cons (se_tup (sa_cons (se_var 5) (sa_cons (se_call g_p_with_tariff (hr.mono (by decide)) (takes_def (L2N.takes_of rfl rfl rfl rfl)) (sa_cons (se_var 6) (sa_cons (se_slice (se_var 2) (so_some se_int) so_none) sa_nil))) (sa_cons (se_var 7) sa_nil))) (len_ok (aCons_len (aCons_len (aCons_len aNil_len))) (by decide))) sa_nil)) (len_ok (aCons_len (aCons_len aNil_len)) (by decide))))) ss_nil) (ss_cons (ss_if (st_cmp (op_eq.or (op_eqD hu)) og_eq (se_ix (se_var 2) se_int (fun _ _ => rfl)) se_str (nomark _)) (ss_cons (ss_set 8 sc_p_done.nd (se_call g_p_with_bill (hr.mono (by decide)) (takes_def (L2N.takes_of rfl rfl rfl rfl)) (sa_cons (se_var 5) (sa_cons (se_var 1) (sa_cons (se_var 6) (sa_cons (se_var 7) (sa_cons (se_ix (se_var 2) se_int (fun _ _ => rfl)) sa_nil))))))) (ss_one (ss_ret (se_tup (sa_cons (se_ix (se_ix (se_var 8) (se_neg se_int) (fun _ _ => rfl)) se_int (fun _ _ => rfl)) (sa_cons (se_tup (sa_cons (se_var 5) (sa_cons (se_var 6) (sa_cons (se_var 8) sa_nil))) (len_ok (aCons_len (aCons_len (aCons_len aNil_len))) (by decide))) sa_nil)) (len_ok (aCons_len (aCons_len aNil_len)) (by decide)))))) ss_nil) (ss_cons (ss_if (st_cmp (op_eq.or (op_eqD hu)) og_eq (se_ix (se_var 2) se_int (fun _ _ => rfl)) se_str (nomark _)) (ss_one (ss_ret (se_tup (sa_cons (se_call g_p_use_on (hr.mono (by decide)) (takes_def (L2N.takes_of rfl rfl rfl rfl)) (sa_cons (se_var 5) (sa_cons (se_var 1) (sa_cons (se_ix (se_var 2) se_int (fun _ _ => rfl)) sa_nil)))) (sa_cons (se_var 0) sa_nil)) (len_ok (aCons_len (aCons_len aNil_len)) (by decide))))) ss_nil) (ss_cons (ss_if (st_cmp (op_eq.or (op_eqD hu)) og_eq (se_ix (se_var 2) se_int (fun _ _ => rfl)) se_str (nomark _)) (ss_one (ss_ret (se_tup (sa_cons (se_call g_p_owed (hr.mono (by decide)) (takes_def (L2N.takes_of rfl rfl rfl rfl)) (sa_cons (se_var 5) (sa_cons (se_var 1) (sa_cons (se_var 6) (sa_cons (se_ix (se_var 2) se_int (fun _ _ => rfl)) sa_nil))))) (sa_cons (se_var 0) sa_nil)) (len_ok (aCons_len (aCons_len aNil_len)) (by decide))))) ss_nil) (ss_cons (ss_set 3 sc_p_done.nd (se_call g_p_entry_done (hr.mono (by decide)) (takes_def (L2N.takes_of rfl rfl rfl rfl)) (sa_cons (se_var 5) (sa_cons (se_var 2) sa_nil)))) (ss_cons (ss_set 4 sc_p_done.nd se_str) (ss_cons (ss_if (st_cmp (op_eq.or (op_eqD hu)) og_eq (se_ix (se_var 2) se_int (fun _ _ => rfl)) se_str (nomark _)) (ss_one (ss_set 4 sc_p_done.nd (se_call g_p_read_answer (hr.mono (by decide)) (takes_def (L2N.takes_of rfl rfl rfl rfl)) (sa_cons (se_var 3) (sa_cons (se_var 1) sa_nil))))) ss_nil) (ss_one (ss_ret (se_tup (sa_cons (se_var 4) (sa_cons (se_tup (sa_cons (se_var 3) (sa_cons (se_var 6) (sa_cons (se_var 7) sa_nil))) (len_ok (aCons_len (aCons_len (aCons_len aNil_len))) (by decide))) sa_nil)) (len_ok (aCons_len (aCons_len aNil_len)) (by decide)))))))))))))
abbrev s_p_play : Stmt := topS 41
abbrev N_p_play : List Str := ["most", "deeds", "state", "answers", "deed", "error", "answer"]
theorem sc_p_play : FnScope N_p_play ["most", "deeds"] (defScope s_p_play) := ⟨rfl, rfl, rfl, by decide +kernel, rfl, by decide +kernel, by decide +kernel⟩
theorem ok_p_play {f : Addr} {fd : FuncData} (Fn : Fun K "play" "play" s_p_play f fd) (hm : mg "play" = some (.ref f)) (g_p_done : FG P w K mg base cl "done" 10 3 f_p_done) (g_p_refused_as : FE P w K mg base cl "refused_as" 1 h_p_refused_as) (ET : Ex5 K mg cl cM xr_i) : FG P w K mg base cl "play" 11 2 f_p_play :=
  def_ok Fn hm (Fn.binds (ps := ["most", "deeds"]) fun _ _ _ _ _ _ us hl => match us, hl with | [_, _], _ => rfl) sc_p_play fun cdv A outer s H E hr => have hu := hr.units; (ss_cons (ss_set 2 sc_p_play.nd (se_tup (sa_cons (se_tup sa_nil (len_ok aNil_len (by decide))) (sa_cons (se_tup sa_nil (len_ok aNil_len (by decide))) (sa_cons (se_tup sa_nil (len_ok aNil_len (by decide))) sa_nil))) (len_ok (aCons_len (aCons_len (aCons_len aNil_len))) (by decide)))) (ss_cons (ss_own 3 sc_p_play.nd (sl_lst sa_nil (len_ok aNil_len (by decide)))) (ss_cons (ss_for (passes_of rfl) rfl (si_list (se_var 1)) (pg_name (i := 4) sc_p_play.nd rfl (Or.inl rfl)) (gb_name 4) (ss_cons (ss_try 5 sc_p_play.nd ET.tk (takes_def (L2N.takes_of rfl rfl rfl rfl)) rfl rfl (fun W pn xe tk po => (ss_one (ss_asg (se_call g_p_done (hr.mono (by decide)) tk (sa_cons (se_var 2) (sa_cons (se_var 0) (sa_cons (se_var 4) sa_nil)))) (pg_tup rfl (pgs_names_cons (i := 6) sc_p_play.nd (pgs_names_cons (i := 2) sc_p_play.nd pgs_names_nil))) (gb_tup [6, 2] 2 rfl)))) (fun e a oe pn hz hd => (ss_one (ss_set 6 sc_p_play.nd (se_hot 5 g_p_refused_as (hr.mono (by decide)) hz hd))))) (ss_one (ss_app 3 (se_var 6))))) (ss_frz 3 (ss_one (ss_ret (se_tup (sa_cons (se_var 3) (sa_cons (se_var 2) sa_nil)) (len_ok (aCons_len (aCons_len aNil_len)) (by decide)))))))))
abbrev s_l_cell_at : Stmt := topS 43
abbrev N_l_cell_at : List Str := ["_law_script", "_law_k"]
theorem sc_l_cell_at : FnScope N_l_cell_at ["_law_script", "_law_k"] (defScope s_l_cell_at) := ⟨rfl, rfl, rfl, by decide +kernel, rfl, by decide +kernel, by decide +kernel⟩
theorem ok_l_cell_at {f : Addr} {fd : FuncData} (Fn : Fun K "_law_cell_at" "_law_cell_at" s_l_cell_at f fd) (hm : mg "_law_cell_at" = some (.ref f)) (z_len : mg "len" = none) : FG P w K mg base cl "_law_cell_at" 1 2 f_l_cell_at :=
  def_ok Fn hm (Fn.binds (ps := ["_law_script", "_law_k"]) fun _ _ _ _ _ _ us hl => match us, hl with | [_, _], _ => rfl) sc_l_cell_at fun cdv A outer s H E hr => have hu := hr.units; (ss_cons (ss_if (st_cmp op_lt og_lt (se_var 1) (se_len z_len (se_var 0)) (nomark _)) (ss_one (ss_ret (se_ix (se_var 0) (se_var 1) (fun _ _ => rfl)))) ss_nil) (ss_one (ss_ret se_int)))
abbrev s_l_mixed : Stmt := topS 44
abbrev N_l_mixed : List Str := ["_law_script", "_law_k", "_law_cell", "_law_number"]
theorem sc_l_mixed : FnScope N_l_mixed ["_law_script", "_law_k"] (defScope s_l_mixed) := ⟨rfl, rfl, rfl, by decide +kernel, rfl, by decide +kernel, by decide +kernel⟩
theorem ok_l_mixed {f : Addr} {fd : FuncData} (Fn : Fun K "_law_mixed" "_law_mixed" s_l_mixed f fd) (hm : mg "_law_mixed" = some (.ref f)) (z_len : mg "len" = none) : FG P w K mg base cl "_law_mixed" 1 2 f_l_mixed :=
  def_ok Fn hm (Fn.binds (ps := ["_law_script", "_law_k"]) fun _ _ _ _ _ _ us hl => match us, hl with | [_, _], _ => rfl) sc_l_mixed fun cdv A outer s H E hr => have hu := hr.units; (ss_cons (ss_set 2 sc_l_mixed.nd se_int) (ss_cons (ss_if (st_cmp op_gt og_gt (se_len z_len (se_var 0)) se_int (nomark _)) (ss_one (ss_set 2 sc_l_mixed.nd (se_ix (se_var 0) (se_mod (se_var 1) (se_len z_len (se_var 0))) (fun _ _ => rfl)))) ss_nil) (ss_cons (ss_set 3 sc_l_mixed.nd (se_mod (se_mul (se_add (se_var 2) (se_mul se_int (se_var 1))) se_int) se_int)) (ss_one (ss_ret (se_mod (se_mul (se_var 3) (se_var 3)) se_int))))))
abbrev s_l_size_by : Stmt := topS 45
abbrev N_l_size_by : List Str := ["_law_number"]
theorem sc_l_size_by : FnScope N_l_size_by ["_law_number"] (defScope s_l_size_by) := ⟨rfl, rfl, rfl, by decide +kernel, rfl, by decide +kernel, by decide +kernel⟩
theorem ok_l_size_by {f : Addr} {fd : FuncData} (Fn : Fun K "_law_size_by" "_law_size_by" s_l_size_by f fd) (hm : mg "_law_size_by" = some (.ref f)) : FG P w K mg base cl "_law_size_by" 1 1 f_l_size_by :=
  def_ok Fn hm (Fn.binds (ps := ["_law_number"]) fun _ _ _ _ _ _ us hl => match us, hl with | [_], _ => rfl) sc_l_size_by fun cdv A outer s H E hr => have hu := hr.units; (ss_cons (ss_if (st_cmp (op_eq.or (op_eqD hu)) og_eq (se_mod (se_var 0) se_int) se_int (nomark _)) (ss_one (ss_ret (se_add se_int (se_mod (se_mul (se_var 0) (se_var 0)) (se_sub (se_pow se_int se_int) se_int))))) ss_nil) (ss_one (ss_ret (se_ix (se_of_sl (sl_lst (sa_cons se_int (sa_cons se_int (sa_cons se_int (sa_cons se_int (sa_cons (se_pow se_int se_int) (sa_cons (se_pow se_int se_int) (sa_cons se_int (sa_cons se_int sa_nil)))))))) (len_ok (aCons_len (aCons_len (aCons_len (aCons_len (aCons_len (aCons_len (aCons_len (aCons_len aNil_len)))))))) (by decide)))) (se_mod (se_fdiv (se_var 0) se_int) se_int) (fun _ _ => rfl)))))
abbrev s_l_most_by : Stmt := topS 46
abbrev N_l_most_by : List Str := ["_law_cell"]
theorem sc_l_most_by : FnScope N_l_most_by ["_law_cell"] (defScope s_l_most_by) := ⟨rfl, rfl, rfl, by decide +kernel, rfl, by decide +kernel, by decide +kernel⟩
theorem ok_l_most_by {f : Addr} {fd : FuncData} (Fn : Fun K "_law_most_by" "_law_most_by" s_l_most_by f fd) (hm : mg "_law_most_by" = some (.ref f)) : FG P w K mg base cl "_law_most_by" 1 1 f_l_most_by :=
  def_ok Fn hm (Fn.binds (ps := ["_law_cell"]) fun _ _ _ _ _ _ us hl => match us, hl with | [_], _ => rfl) sc_l_most_by fun cdv A outer s H E hr => have hu := hr.units; (ss_cons (ss_if (st_cmp (op_eq.or (op_eqD hu)) og_eq (se_mod (se_var 0) se_int) se_int (nomark _)) (ss_one (ss_ret (se_mod (se_fdiv (se_var 0) se_int) (se_add (se_pow se_int se_int) se_int)))) ss_nil) (ss_one (ss_ret (se_ix (se_of_sl (sl_lst (sa_cons se_int (sa_cons se_int (sa_cons se_int (sa_cons se_int (sa_cons se_int (sa_cons (se_pow se_int se_int) (sa_cons se_int sa_nil))))))) (len_ok (aCons_len (aCons_len (aCons_len (aCons_len (aCons_len (aCons_len (aCons_len aNil_len))))))) (by decide)))) (se_mod (se_var 0) se_int) (fun _ _ => rfl)))))
abbrev s_l_account : Stmt := topS 47
abbrev N_l_account : List Str := ["_law_history", "_law_most", "_law_places", "_law_gaps", "_law_size", "_law_shown", "_law_day", "_law_k", "_law_entry", "_law_use_here"]
theorem sc_l_account : FnScope N_l_account ["_law_history", "_law_most"] (defScope s_l_account) := ⟨rfl, rfl, rfl, by decide +kernel, rfl, by decide +kernel, by decide +kernel⟩
theorem ok_l_account {f : Addr} {fd : FuncData} (Fn : Fun K "_law_account" "_law_account" s_l_account f fd) (hm : mg "_law_account" = some (.ref f)) (z_len : mg "len" = none) (z_range : mg "range" = none) : FG P w K mg base cl "_law_account" 1 2 f_l_account :=
  def_ok Fn hm (Fn.binds (ps := ["_law_history", "_law_most"]) fun _ _ _ _ _ _ us hl => match us, hl with | [_, _], _ => rfl) sc_l_account fun cdv A outer s H E hr => have hu := hr.units; (ss_cons (ss_own 2 sc_l_account.nd (sl_lst sa_nil (len_ok aNil_len (by decide)))) (ss_cons (ss_own 3 sc_l_account.nd (sl_lst sa_nil (len_ok aNil_len (by decide)))) (ss_cons (ss_set 4 sc_l_account.nd se_int) (ss_cons (ss_set 5 sc_l_account.nd se_int) (ss_cons (ss_set 6 sc_l_account.nd se_int) (ss_cons (ss_for (passes_of rfl) rfl (si_rng1 z_range (se_len z_len (se_var 0))) (pg_name (i := 7) sc_l_account.nd rfl (Or.inl rfl)) (gb_name 7) (ss_cons (ss_set 8 sc_l_account.nd (se_ix (se_var 0) (se_var 7) (fun _ _ => rfl))) (ss_cons (ss_if (st_cmp (op_eq.or (op_eqD hu)) og_eq (se_ix (se_var 8) se_int (fun _ _ => rfl)) se_str (nomark _)) (ss_cons (ss_set 4 sc_l_account.nd (se_ix (se_var 8) se_int (fun _ _ => rfl))) (ss_one (ss_set 5 sc_l_account.nd (se_ix (se_var 8) se_int (fun _ _ => rfl))))) (ss_cons (ss_set 9 sc_l_account.nd (se_mod (se_sub (se_ix (se_var 8) se_int (fun _ _ => rfl)) (se_var 5)) (se_var 4))) (ss_cons (ss_if (SW.st (sw_and (st_cmp (op_eq.or (op_eqD hu)) og_eq (se_ix (se_var 8) se_int (fun _ _ => rfl)) se_str (nomark _)) (sw_and1 (SW.st (sw_or (st_val (se_ix (se_var 8) se_int (fun _ _ => rfl))) (sw_or1 (st_cmp op_gt og_gt (se_var 9) (se_mul (se_var 1) (se_sub (se_ix (se_var 8) se_int (fun _ _ => rfl)) (se_var 6))) (nomark _)))))))) (ss_one ss_ct) ss_nil) (ss_cons (ss_app 3 (se_tup (sa_cons (se_var 6) (sa_cons (se_ix (se_var 8) se_int (fun _ _ => rfl)) (sa_cons (se_var 9) sa_nil))) (len_ok (aCons_len (aCons_len (aCons_len aNil_len))) (by decide)))) (ss_cons (ss_set 5 sc_l_account.nd (se_ix (se_var 8) se_int (fun _ _ => rfl))) (ss_one (ss_if (st_cmp (op_eq.or (op_eqD hu)) og_eq (se_ix (se_var 8) se_int (fun _ _ => rfl)) se_str (nomark _)) (ss_cons (ss_set 4 sc_l_account.nd (se_ix (se_var 8) se_int (fun _ _ => rfl))) (ss_one (ss_set 5 sc_l_account.nd (se_ix (se_var 8) se_int (fun _ _ => rfl))))) ss_nil))))))) (ss_cons (ss_set 6 sc_l_account.nd (se_ix (se_var 8) se_int (fun _ _ => rfl))) (ss_one (ss_app 2 (se_var 7))))))) (ss_frz 2 (ss_frz 3 (ss_one (ss_ret (se_tup (sa_cons (se_var 2) (sa_cons (se_var 3) sa_nil)) (len_ok (aCons_len (aCons_len aNil_len)) (by decide)))))))))))))
abbrev s_l_use : Stmt := topS 48
abbrev N_l_use : List Str := ["_law_gaps", "_law_day", "_law_found", "_law_low", "_law_high", "_law_use_here", "_law_many", "_law_at"]
theorem sc_l_use : FnScope N_l_use ["_law_gaps", "_law_day"] (defScope s_l_use) := ⟨rfl, rfl, rfl, by decide +kernel, rfl, by decide +kernel, by decide +kernel⟩
theorem ok_l_use {f : Addr} {fd : FuncData} (Fn : Fun K "_law_use" "_law_use" s_l_use f fd) (hm : mg "_law_use" = some (.ref f)) : FG P w K mg base cl "_law_use" 1 2 f_l_use :=
  def_ok Fn hm (Fn.binds (ps := ["_law_gaps", "_law_day"]) fun _ _ _ _ _ _ us hl => match us, hl with | [_, _], _ => rfl) sc_l_use fun cdv A outer s H E hr => have hu := hr.units; (ss_cons (ss_set 2 sc_l_use.nd se_int) (ss_cons (ss_for (passes_of rfl) rfl (si_list (se_var 0)) (pg_tup rfl (pgs_names_cons (i := 3) sc_l_use.nd (pgs_names_cons (i := 4) sc_l_use.nd (pgs_names_cons (i := 5) sc_l_use.nd pgs_names_nil)))) (gb_tup [3, 4, 5] 3 rfl) (ss_cons (ss_if (SW.st (sw_and (st_cmp op_le og_le (se_var 3) (se_var 1) (nomark _)) (sw_and1 (st_cmp op_lt og_lt (se_var 1) (se_var 4) (nomark _))))) (ss_cons (ss_set 6 sc_l_use.nd (se_sub (se_var 4) (se_var 3))) (ss_cons (ss_set 7 sc_l_use.nd (se_sub (se_var 1) (se_var 3))) (ss_one (ss_ret (se_sub (se_fdiv (se_mul (se_add (se_var 7) se_int) (se_var 5)) (se_var 6)) (se_fdiv (se_mul (se_var 7) (se_var 5)) (se_var 6))))))) ss_nil) (ss_one (ss_if (st_cmp op_le og_le (se_var 4) (se_var 1) (nomark _)) (ss_one (ss_set 2 sc_l_use.nd (se_fdiv (se_var 5) (se_sub (se_var 4) (se_var 3))))) ss_nil)))) (ss_one (ss_ret (se_var 2)))))
abbrev s_l_cost_11 : Stmt := topS 50
abbrev N_l_cost_11 : List Str := ["_law_tariffs", "_law_day", "_law_use_here", "_law_found", "_law_one"]
theorem sc_l_cost_11 : FnScope N_l_cost_11 ["_law_tariffs", "_law_day", "_law_use_here"] (defScope s_l_cost_11) := ⟨rfl, rfl, rfl, by decide +kernel, rfl, by decide +kernel, by decide +kernel⟩
theorem ok_l_cost_11 {f : Addr} {fd : FuncData} (Fn : Fun K "_law_cost" "_law_cost" s_l_cost_11 f fd) (hm : mg "_law_cost" = some (.ref f)) (z_sorted : mg "sorted" = none) (z_min : mg "min" = none) (z_max : mg "max" = none) : FG P w K mg base cl "_law_cost" 1 3 f_l_cost_11 :=
  def_ok Fn hm (Fn.binds (ps := ["_law_tariffs", "_law_day", "_law_use_here"]) fun _ _ _ _ _ _ us hl => match us, hl with | [_, _, _], _ => rfl) sc_l_cost_11 fun cdv A outer s H E hr => have hu := hr.units; (ss_cons (ss_set 3 sc_l_cost_11.nd se_int) (ss_cons (ss_for (passes_of rfl) rfl (si_list (se_of_sl (sl_sorted z_sorted hu (se_var 0)))) (pg_name (i := 4) sc_l_cost_11.nd rfl (Or.inl rfl)) (gb_name 4) (ss_one (ss_if (st_cmp op_le og_le (se_ix (se_var 4) se_int (fun _ _ => rfl)) (se_var 1) (nomark _)) (ss_one (ss_set 3 sc_l_cost_11.nd (se_add (se_add (se_ix (se_var 4) se_int (fun _ _ => rfl)) (se_mul (se_ix (se_var 4) se_int (fun _ _ => rfl)) (se_callB (call_min2 rfl) cg_min z_min (sa_cons (se_var 2) (sa_cons (se_ix (se_var 4) se_int (fun _ _ => rfl)) sa_nil))))) (se_mul (se_ix (se_var 4) se_int (fun _ _ => rfl)) (se_callB (call_max2 rfl) cg_max z_max (sa_cons se_int (sa_cons (se_sub (se_var 2) (se_ix (se_var 4) se_int (fun _ _ => rfl))) sa_nil))))))) ss_nil))) (ss_one (ss_ret (se_var 3)))))
abbrev s_l_owed_11 : Stmt := topS 49
abbrev N_l_owed_11 : List Str := ["_law_history", "_law_gaps", "_law_tariffs", "_law_day", "_law_total", "_law_one"]
theorem sc_l_owed_11 : FnScope N_l_owed_11 ["_law_history", "_law_gaps", "_law_tariffs", "_law_day"] (defScope s_l_owed_11) := ⟨rfl, rfl, rfl, by decide +kernel, rfl, by decide +kernel, by decide +kernel⟩
theorem ok_l_owed_11 {f : Addr} {fd : FuncData} (Fn : Fun K "_law_owed" "_law_owed" s_l_owed_11 f fd) (hm : mg "_law_owed" = some (.ref f)) (z_range : mg "range" = none) (g_l_use : FG P w K mg base cl "_law_use" 1 2 f_l_use) (g_l_cost_11 : FG P w K mg base cl "_law_cost" 1 3 f_l_cost_11) : FG P w K mg base cl "_law_owed" 2 4 f_l_owed_11 :=
  def_ok Fn hm (Fn.binds (ps := ["_law_history", "_law_gaps", "_law_tariffs", "_law_day"]) fun _ _ _ _ _ _ us hl => match us, hl with | [_, _, _, _], _ => rfl) sc_l_owed_11 fun cdv A outer s H E hr => have hu := hr.units; (ss_cons (ss_set 4 sc_l_owed_11.nd se_int) (ss_cons (ss_for (passes_of rfl) rfl (si_rng2 z_range (se_ix (se_ix (se_var 0) se_int (fun _ _ => rfl)) se_int (fun _ _ => rfl)) (se_var 3)) (pg_name (i := 5) sc_l_owed_11.nd rfl (Or.inl rfl)) (gb_name 5) (ss_one (ss_set 4 sc_l_owed_11.nd (se_add (se_var 4) (se_call g_l_cost_11 (hr.mono (by decide)) (takes_def (L2N.takes_of rfl rfl rfl rfl)) (sa_cons (se_var 2) (sa_cons (se_var 5) (sa_cons (se_call g_l_use (hr.mono (by decide)) (takes_def (L2N.takes_of rfl rfl rfl rfl)) (sa_cons (se_var 1) (sa_cons (se_var 5) sa_nil))) sa_nil)))))))) (ss_one (ss_ret (se_var 4)))))
abbrev s_l_size_now : Stmt := topS 51
abbrev N_l_size_now : List Str := ["_law_history", "_law_size", "_law_entry"]
theorem sc_l_size_now : FnScope N_l_size_now ["_law_history"] (defScope s_l_size_now) := ⟨rfl, rfl, rfl, by decide +kernel, rfl, by decide +kernel, by decide +kernel⟩
theorem ok_l_size_now {f : Addr} {fd : FuncData} (Fn : Fun K "_law_size_now" "_law_size_now" s_l_size_now f fd) (hm : mg "_law_size_now" = some (.ref f)) (z_int : mg "int" = none) : FG P w K mg base cl "_law_size_now" 1 1 f_l_size_now :=
  def_ok Fn hm (Fn.binds (ps := ["_law_history"]) fun _ _ _ _ _ _ us hl => match us, hl with | [_], _ => rfl) sc_l_size_now fun cdv A outer s H E hr => have hu := hr.units; (ss_cons (ss_set 1 sc_l_size_now.nd se_int) (ss_cons (ss_for (passes_of rfl) rfl (si_tup (se_var 0)) (pg_name (i := 2) sc_l_size_now.nd rfl (Or.inl rfl)) (gb_name 2) (ss_one (ss_if (st_cmp (op_ne.or (op_neD hu)) og_ne (se_ix (se_var 2) se_int (fun _ _ => rfl)) se_str (nomark _)) (ss_one (ss_set 1 sc_l_size_now.nd (se_ix (se_var 2) (se_add se_int (se_intOf z_int (se_cmp (op_eq.or (op_eqD hu)) og_eq (se_ix (se_var 2) se_int (fun _ _ => rfl)) se_str (nomark _)))) (fun _ _ => rfl)))) ss_nil))) (ss_one (ss_ret (se_var 1)))))
abbrev s_l_shown_now : Stmt := topS 52
abbrev N_l_shown_now : List Str := ["_law_history", "_law_entry"]
theorem sc_l_shown_now : FnScope N_l_shown_now ["_law_history"] (defScope s_l_shown_now) := ⟨rfl, rfl, rfl, by decide +kernel, rfl, by decide +kernel, by decide +kernel⟩
theorem ok_l_shown_now {f : Addr} {fd : FuncData} (Fn : Fun K "_law_shown_now" "_law_shown_now" s_l_shown_now f fd) (hm : mg "_law_shown_now" = some (.ref f)) (z_len : mg "len" = none) : FG P w K mg base cl "_law_shown_now" 1 1 f_l_shown_now :=
  def_ok Fn hm (Fn.binds (ps := ["_law_history"]) fun _ _ _ _ _ _ us hl => match us, hl with | [_], _ => rfl) sc_l_shown_now fun cdv A outer s H E hr => have hu := hr.units; (ss_cons (ss_if (st_cmp (op_eq.or (op_eqD hu)) og_eq (se_len z_len (se_var 0)) se_int (nomark _)) (ss_one (ss_ret se_int)) ss_nil) (ss_cons (ss_set 1 sc_l_shown_now.nd (se_ix (se_var 0) (se_neg se_int) (fun _ _ => rfl))) (ss_one (ss_ret (se_ix (se_var 1) (se_ix (se_of_sl (sl_lst (sa_cons se_int (sa_cons se_int (sa_cons se_int sa_nil))) (len_ok (aCons_len (aCons_len (aCons_len aNil_len))) (by decide)))) (se_index (se_of_sl (sl_lst (sa_cons se_str (sa_cons se_str (sa_cons se_str sa_nil))) (len_ok (aCons_len (aCons_len (aCons_len aNil_len))) (by decide)))) (se_ix (se_var 1) se_int (fun _ _ => rfl))) (fun _ _ => rfl)) (fun _ _ => rfl))))))
abbrev s_l_deed_by : Stmt := topS 53
abbrev N_l_deed_by : List Str := ["_law_history", "_law_most", "_law_number", "_law_more", "_law_last", "_law_gap", "_law_day", "_law_size", "_law_near", "_law_value", "_law_kind", "_law_other", "_law_low", "_law_limit"]
theorem sc_l_deed_by : FnScope N_l_deed_by ["_law_history", "_law_most", "_law_number", "_law_more"] (defScope s_l_deed_by) := ⟨rfl, rfl, rfl, by decide +kernel, rfl, by decide +kernel, by decide +kernel⟩
theorem ok_l_deed_by {f : Addr} {fd : FuncData} (Fn : Fun K "_law_deed_by" "_law_deed_by" s_l_deed_by f fd) (hm : mg "_law_deed_by" = some (.ref f)) (z_len : mg "len" = none) (z_max : mg "max" = none) (z_int : mg "int" = none) (g_l_size_now : FG P w K mg base cl "_law_size_now" 1 1 f_l_size_now) (g_l_shown_now : FG P w K mg base cl "_law_shown_now" 1 1 f_l_shown_now) (g_l_size_by : FG P w K mg base cl "_law_size_by" 1 1 f_l_size_by) : FG P w K mg base cl "_law_deed_by" 2 4 f_l_deed_by :=
  def_ok Fn hm (Fn.binds (ps := ["_law_history", "_law_most", "_law_number", "_law_more"]) fun _ _ _ _ _ _ us hl => match us, hl with | [_, _, _, _], _ => rfl) sc_l_deed_by fun cdv A outer s H E hr => have hu := hr.units; (ss_cons (ss_set 4 sc_l_deed_by.nd se_int) (ss_cons (ss_if (st_cmp op_gt og_gt (se_len z_len (se_var 0)) se_int (nomark _)) (ss_one (ss_set 4 sc_l_deed_by.nd (se_ix (se_ix (se_var 0) (se_neg se_int) (fun _ _ => rfl)) se_int (fun _ _ => rfl)))) ss_nil) (ss_cons (ss_set 5 sc_l_deed_by.nd (se_add se_int (se_mod (se_fdiv (se_var 2) se_int) se_int))) (ss_cons (ss_set 6 sc_l_deed_by.nd (se_ix (se_of_sl (sl_lst (sa_cons (se_add (se_var 4) (se_var 5)) (sa_cons (se_add (se_var 4) (se_var 5)) (sa_cons (se_add (se_var 4) (se_var 5)) (sa_cons (se_var 4) (sa_cons (se_callB (call_max2 rfl) cg_max z_max (sa_cons se_int (sa_cons (se_sub (se_var 4) se_int) sa_nil))) (sa_cons (se_mod (se_fdiv (se_var 2) se_int) se_int) sa_nil)))))) (len_ok (aCons_len (aCons_len (aCons_len (aCons_len (aCons_len (aCons_len aNil_len)))))) (by decide)))) (se_mod (se_fdiv (se_var 2) se_int) se_int) (fun _ _ => rfl))) (ss_cons (ss_set 7 sc_l_deed_by.nd (se_call g_l_size_now (hr.mono (by decide)) (takes_def (L2N.takes_of rfl rfl rfl rfl)) (sa_cons (se_var 0) sa_nil))) (ss_cons (ss_set 8 sc_l_deed_by.nd (se_mod (se_add (se_call g_l_shown_now (hr.mono (by decide)) (takes_def (L2N.takes_of rfl rfl rfl rfl)) (sa_cons (se_var 0) sa_nil)) (se_mod (se_var 3) (se_add (se_mul (se_var 1) (se_var 5)) se_int))) (se_var 7))) (ss_cons (ss_set 9 sc_l_deed_by.nd (se_ix (se_of_sl (sl_lst (sa_cons (se_var 8) (sa_cons (se_mod (se_var 3) (se_var 7)) (sa_cons (se_var 7) (sa_cons (se_sub (se_var 7) se_int) sa_nil)))) (len_ok (aCons_len (aCons_len (aCons_len (aCons_len aNil_len)))) (by decide)))) (se_mod (se_fdiv (se_var 2) se_int) se_int) (fun _ _ => rfl))) (ss_cons (ss_set 10 sc_l_deed_by.nd (se_mod (se_var 2) se_int)) (ss_cons (ss_if (st_cmp (op_eq.or (op_eqD hu)) og_eq (se_var 10) se_int (nomark _)) (ss_cons (ss_set 11 sc_l_deed_by.nd (se_call g_l_size_by (hr.mono (by decide)) (takes_def (L2N.takes_of rfl rfl rfl rfl)) (sa_cons (se_fdiv (se_var 3) se_int) sa_nil))) (ss_one (ss_ret (se_tup (sa_cons se_str (sa_cons (se_mod (se_fdiv (se_var 2) se_int) se_int) (sa_cons (se_var 11) (sa_cons (se_mod (se_fdiv (se_var 3) se_int) (se_add (se_var 11) (se_intOf z_int (se_cmp (op_eq.or (op_eqD hu)) og_eq (se_mod (se_fdiv (se_var 2) se_int) se_int) se_int (nomark _))))) sa_nil)))) (len_ok (aCons_len (aCons_len (aCons_len (aCons_len aNil_len)))) (by decide)))))) ss_nil) (ss_cons (ss_if (st_cmp (op_eq.or (op_eqD hu)) og_eq (se_var 10) se_int (nomark _)) (ss_cons (ss_set 11 sc_l_deed_by.nd (se_call g_l_size_by (hr.mono (by decide)) (takes_def (L2N.takes_of rfl rfl rfl rfl)) (sa_cons (se_fdiv (se_var 3) se_int) sa_nil))) (ss_one (ss_ret (se_tup (sa_cons se_str (sa_cons (se_var 6) (sa_cons (se_var 9) (sa_cons (se_var 11) (sa_cons (se_mod (se_fdiv (se_var 3) se_int) (se_add (se_var 11) (se_intOf z_int (se_cmp (op_eq.or (op_eqD hu)) og_eq (se_mod (se_fdiv (se_var 2) se_int) se_int) se_int (nomark _))))) sa_nil))))) (len_ok (aCons_len (aCons_len (aCons_len (aCons_len (aCons_len aNil_len))))) (by decide)))))) ss_nil) (ss_cons (ss_if (st_cmp op_lt og_lt (se_var 10) se_int (nomark _)) (ss_one (ss_ret (se_tup (sa_cons se_str (sa_cons (se_var 6) (sa_cons (se_var 9) sa_nil))) (len_ok (aCons_len (aCons_len (aCons_len aNil_len))) (by decide))))) ss_nil) (ss_cons (ss_if (SW.st (sw_and (st_cmp (op_eq.or (op_eqD hu)) og_eq (se_var 10) se_int (nomark _)) (sw_and1 (st_cmp op_gt og_gt (se_len z_len (se_var 0)) se_int (nomark _))))) (ss_one (ss_ret (se_tup (sa_cons se_str (sa_cons (se_add (se_ix (se_ix (se_var 0) (se_mod (se_var 3) (se_len z_len (se_var 0))) (fun _ _ => rfl)) se_int (fun _ _ => rfl)) (se_intOf z_int (se_cmp (op_eq.or (op_eqD hu)) og_eq (se_mod (se_fdiv (se_var 2) se_int) se_int) se_int (nomark _)))) sa_nil)) (len_ok (aCons_len (aCons_len aNil_len)) (by decide))))) ss_nil) (ss_cons (ss_if (st_cmp (op_eq.or (op_eqD hu)) og_eq (se_var 10) se_int (nomark _)) (ss_one (ss_ret (se_tup (sa_cons se_str (sa_cons (se_mod (se_var 3) se_int) sa_nil)) (len_ok (aCons_len (aCons_len aNil_len)) (by decide))))) ss_nil) (ss_cons (ss_if (st_cmp (op_eq.or (op_eqD hu)) og_eq (se_var 10) se_int (nomark _)) (ss_cons (ss_set 12 sc_l_deed_by.nd (se_ix (se_of_sl (sl_lst (sa_cons se_int (sa_cons se_int (sa_cons (se_mod (se_fdiv (se_var 3) se_int) (se_add (se_pow se_int se_int) se_int)) sa_nil))) (len_ok (aCons_len (aCons_len (aCons_len aNil_len))) (by decide)))) (se_mod (se_fdiv (se_var 2) se_int) se_int) (fun _ _ => rfl))) (ss_cons (ss_set 13 sc_l_deed_by.nd (se_ix (se_of_sl (sl_lst (sa_cons se_int (sa_cons se_int (sa_cons (se_mod (se_mul (se_var 3) se_int) (se_add (se_pow se_int se_int) se_int)) sa_nil))) (len_ok (aCons_len (aCons_len (aCons_len aNil_len))) (by decide)))) (se_mod (se_var 3) se_int) (fun _ _ => rfl))) (ss_one (ss_ret (se_tup (sa_cons se_str (sa_cons (se_mod (se_var 3) se_int) (sa_cons (se_mod (se_fdiv (se_var 3) se_int) se_int) (sa_cons (se_var 12) (sa_cons (se_var 13) (sa_cons (se_mod (se_fdiv (se_var 3) se_int) se_int) sa_nil)))))) (len_ok (aCons_len (aCons_len (aCons_len (aCons_len (aCons_len (aCons_len aNil_len)))))) (by decide))))))) ss_nil) (ss_one (ss_ret (se_tup (sa_cons (se_ix (se_of_sl (sl_lst (sa_cons se_str (sa_cons se_str (sa_cons se_str (sa_cons se_str (sa_cons se_str sa_nil))))) (len_ok (aCons_len (aCons_len (aCons_len (aCons_len (aCons_len aNil_len))))) (by decide)))) (se_sub (se_var 10) se_int) (fun _ _ => rfl)) (sa_cons (se_ix (se_of_sl (sl_lst (sa_cons (se_mod (se_var 3) se_int) (sa_cons (se_add (se_var 4) (se_mod (se_var 3) se_int)) sa_nil)) (len_ok (aCons_len (aCons_len aNil_len)) (by decide)))) (se_mod (se_fdiv (se_var 3) se_int) se_int) (fun _ _ => rfl)) sa_nil)) (len_ok (aCons_len (aCons_len aNil_len)) (by decide)))))))))))))))))))
abbrev s_l_entry_of : Stmt := topS 54
abbrev N_l_entry_of : List Str := ["_law_history", "_law_deed"]
theorem sc_l_entry_of : FnScope N_l_entry_of ["_law_history", "_law_deed"] (defScope s_l_entry_of) := ⟨rfl, rfl, rfl, by decide +kernel, rfl, by decide +kernel, by decide +kernel⟩
theorem ok_l_entry_of {f : Addr} {fd : FuncData} (Fn : Fun K "_law_entry_of" "_law_entry_of" s_l_entry_of f fd) (hm : mg "_law_entry_of" = some (.ref f)) (z_len : mg "len" = none) (g_l_size_now : FG P w K mg base cl "_law_size_now" 1 1 f_l_size_now) : FG P w K mg base cl "_law_entry_of" 2 2 f_l_entry_of :=
  def_ok Fn hm (Fn.binds (ps := ["_law_history", "_law_deed"]) fun _ _ _ _ _ _ us hl => match us, hl with | [_, _], _ => rfl) sc_l_entry_of fun cdv A outer s H E hr => have hu := hr.units; (ss_cons (ss_if (st_cmp (op_eq.or (op_eqD hu)) og_eq (se_ix (se_var 1) se_int (fun _ _ => rfl)) se_str (nomark _)) (ss_cons (ss_if (st_cmp op_gt og_gt (se_len z_len (se_var 0)) se_int (nomark _)) (ss_one (ss_ret se_str)) ss_nil) (ss_cons (ss_if (st_cmp op_ge og_ge (se_ix (se_var 1) se_int (fun _ _ => rfl)) (se_ix (se_var 1) se_int (fun _ _ => rfl)) (nomark _)) (ss_one (ss_ret se_str)) ss_nil) (ss_one (ss_ret (se_var 1))))) ss_nil) (ss_cons (ss_if (st_cmp (op_eq.or (op_eqD hu)) og_eq (se_len z_len (se_var 0)) se_int (nomark _)) (ss_one (ss_ret se_str)) ss_nil) (ss_cons (ss_if (st_cmp op_le og_le (se_ix (se_var 1) se_int (fun _ _ => rfl)) (se_ix (se_ix (se_var 0) (se_neg se_int) (fun _ _ => rfl)) se_int (fun _ _ => rfl)) (nomark _)) (ss_one (ss_ret se_str)) ss_nil) (ss_cons (ss_if (st_cmp op_ge og_ge (se_ix (se_var 1) se_int (fun _ _ => rfl)) (se_call g_l_size_now (hr.mono (by decide)) (takes_def (L2N.takes_of rfl rfl rfl rfl)) (sa_cons (se_var 0) sa_nil)) (nomark _)) (ss_one (ss_ret se_str)) ss_nil) (ss_cons (ss_if (st_cmp (op_eq.or (op_eqD hu)) og_eq (se_ix (se_var 1) se_int (fun _ _ => rfl)) se_str (nomark _)) (ss_cons (ss_if (st_cmp op_ge og_ge (se_ix (se_var 1) se_int (fun _ _ => rfl)) (se_ix (se_var 1) se_int (fun _ _ => rfl)) (nomark _)) (ss_one (ss_ret se_str)) ss_nil) (ss_one (ss_ret (se_var 1)))) ss_nil) (ss_one (ss_ret (se_add (se_var 1) (se_tup (sa_cons se_bool sa_nil) (len_ok (aCons_len aNil_len) (by decide)))))))))))
abbrev s_l_struck : Stmt := topS 55
abbrev N_l_struck : List Str := ["_law_history", "_law_day", "_law_found", "_law_entry"]
theorem sc_l_struck : FnScope N_l_struck ["_law_history", "_law_day"] (defScope s_l_struck) := ⟨rfl, rfl, rfl, by decide +kernel, rfl, by decide +kernel, by decide +kernel⟩
theorem ok_l_struck {f : Addr} {fd : FuncData} (Fn : Fun K "_law_struck" "_law_struck" s_l_struck f fd) (hm : mg "_law_struck" = some (.ref f)) (z_tuple : mg "tuple" = none) : FG P w K mg base cl "_law_struck" 1 2 f_l_struck :=
  def_ok Fn hm (Fn.binds (ps := ["_law_history", "_law_day"]) fun _ _ _ _ _ _ us hl => match us, hl with | [_, _], _ => rfl) sc_l_struck fun cdv A outer s H E hr => have hu := hr.units; (ss_cons (ss_own 2 sc_l_struck.nd (sl_lst sa_nil (len_ok aNil_len (by decide)))) (ss_cons (ss_for (passes_of rfl) rfl (si_tup (se_var 0)) (pg_name (i := 3) sc_l_struck.nd rfl (Or.inl rfl)) (gb_name 3) (ss_cons (ss_if (SW.st (sw_and (st_cmp (op_eq.or (op_eqD hu)) og_eq (se_ix (se_var 3) se_int (fun _ _ => rfl)) se_str (nomark _)) (sw_and (st_cmp (op_eq.or (op_eqD hu)) og_eq (se_ix (se_var 3) se_int (fun _ _ => rfl)) (se_var 1) (nomark _)) (sw_and1 (st_not (st_val (se_ix (se_var 3) se_int (fun _ _ => rfl)))))))) (ss_one (ss_set 3 sc_l_struck.nd (se_tup (sa_cons se_str (sa_cons (se_var 1) (sa_cons (se_ix (se_var 3) se_int (fun _ _ => rfl)) (sa_cons se_bool sa_nil)))) (len_ok (aCons_len (aCons_len (aCons_len (aCons_len aNil_len)))) (by decide))))) ss_nil) (ss_one (ss_app 2 (se_var 3))))) (ss_frz 2 (ss_one (ss_ret (se_tuple z_tuple (se_var 2)))))))
abbrev s_l_bill : Stmt := topS 56
abbrev N_l_bill : List Str := ["_law_s", "_law_most", "_law_day", "_law_due", "_law_amount", "_law_one"]
theorem sc_l_bill : FnScope N_l_bill ["_law_s", "_law_most", "_law_day"] (defScope s_l_bill) := ⟨rfl, rfl, rfl, by decide +kernel, rfl, by decide +kernel, by decide +kernel⟩
theorem ok_l_bill {f : Addr} {fd : FuncData} (Fn : Fun K "_law_bill" "_law_bill" s_l_bill f fd) (hm : mg "_law_bill" = some (.ref f)) (z_sum : mg "sum" = none) (g_l_account : FG P w K mg base cl "_law_account" 1 2 f_l_account) (g_l_owed_11 : FG P w K mg base cl "_law_owed" 2 4 f_l_owed_11) : FGR P w K mg base "_law_bill" 3 3 f_l_bill :=
  def_okR (cl := cl) Fn hm (Fn.binds (ps := ["_law_s", "_law_most", "_law_day"]) fun _ _ _ _ _ _ us hl => match us, hl with | [_, _, _], _ => rfl) sc_l_bill (specR_spec _ _ _) fun cdv A outer s H E hr => have hu := hr.units; (ss_cons (ss_if (st_cmp (op_eq.or (op_eqD hu)) og_eq (se_get 0 hu se_str (fun _ _ => rfl)) (se_tup sa_nil (len_ok aNil_len (by decide))) (nomark _)) (ss_one (ss_retE se_str)) ss_nil) (ss_cons (ss_if (st_bor 0 (SW.st (sw_and (st_cmp (op_ne.or (op_neD hu)) og_ne (se_get 0 hu se_str (fun _ _ => rfl)) (se_of_sl (sl_lst sa_nil (len_ok aNil_len (by decide)))) (nomark _)) (sw_and1 (st_cmp op_lt og_lt (se_var 2) (se_ix (se_ix (se_get 0 hu se_str (fun _ _ => rfl)) (se_neg se_int) (fun _ _ => rfl)) se_int (fun _ _ => rfl)) (nomark _)))))) (ss_one (ss_retE se_str)) ss_nil) (ss_cons (ss_set 3 sc_l_bill.nd (se_bor 0 (se_call g_l_owed_11 (hr.mono (by decide)) (takes_def (L2N.takes_of rfl rfl rfl rfl)) (sa_cons (se_get 0 hu se_str (fun _ _ => rfl)) (sa_cons (se_ix (se_call g_l_account (hr.mono (by decide)) (takes_def (L2N.takes_of rfl rfl rfl rfl)) (sa_cons (se_get 0 hu se_str (fun _ _ => rfl)) (sa_cons (se_var 1) sa_nil))) se_int (fun _ _ => rfl)) (sa_cons (se_get 0 hu se_str (fun _ _ => rfl)) (sa_cons (se_var 2) sa_nil))))))) (ss_cons (ss_set 4 sc_l_bill.nd (se_bor 0 (se_sub (se_var 3) (se_callB (cr_sum rfl) cg_sum z_sum (sa_cons (se_of_sl (sl_lcO rfl sc_l_bill.nd (si_list (se_get 0 hu se_str (fun _ _ => rfl))) (blkOk_by (own := [("_law_one", 5)]) (N := N_l_bill) (sc := defScope s_l_bill) (by decide +kernel)) rfl (fun _ _ _ _ _ => (pg_name (i := 5) sc_l_bill.nd rfl (Or.inl rfl))) (gb_name 5) (by decide) (fun _ _ _ _ _ => sts_nil) (fun _ _ _ _ _ => (se_ix (se_var 5) se_int (fun _ _ => rfl))))) sa_nil))))) (ss_cons (ss_appF 0 hu (se_tup (sa_cons (se_var 2) (sa_cons (se_var 4) sa_nil)) (len_ok (aCons_len (aCons_len aNil_len)) (by decide)))) (ss_one (ss_retE (se_var 4))))))))
abbrev s_l_answer : Stmt := topS 57
abbrev N_l_answer : List Str := ["_law_s", "_law_most", "_law_deed", "_law_entry", "_law_found", "_law_one"]
theorem sc_l_answer : FnScope N_l_answer ["_law_s", "_law_most", "_law_deed"] (defScope s_l_answer) := ⟨rfl, rfl, rfl, by decide +kernel, rfl, by decide +kernel, by decide +kernel⟩
theorem ok_l_answer {f : Addr} {fd : FuncData} (Fn : Fun K "_law_answer" "_law_answer" s_l_answer f fd) (hm : mg "_law_answer" = some (.ref f)) (z_isinstance : mg "isinstance" = none) (z_str : mg "str" = none) (z_len : mg "len" = none) (z_int : mg "int" = none) (g_l_bill : FGR P w K mg base "_law_bill" 3 3 f_l_bill) (g_l_account : FG P w K mg base cl "_law_account" 1 2 f_l_account) (g_l_use : FG P w K mg base cl "_law_use" 1 2 f_l_use) (g_l_owed_11 : FG P w K mg base cl "_law_owed" 2 4 f_l_owed_11) (g_l_struck : FG P w K mg base cl "_law_struck" 1 2 f_l_struck) (g_l_entry_of : FG P w K mg base cl "_law_entry_of" 2 2 f_l_entry_of) : FGR P w K mg base "_law_answer" 4 3 f_l_answer :=
  def_okR (cl := cl) Fn hm (Fn.binds (ps := ["_law_s", "_law_most", "_law_deed"]) fun _ _ _ _ _ _ us hl => match us, hl with | [_, _, _], _ => rfl) sc_l_answer (specR_spec _ _ _) fun cdv A outer s H E hr => have hu := hr.units; (ss_cons (ss_if (st_cmp (op_eq.or (op_eqD hu)) og_eq (se_ix (se_var 2) se_int (fun _ _ => rfl)) se_str (nomark _)) (ss_cons (ss_if (st_bor 0 (st_cmp op_in_seq og_in (se_ix (se_var 2) se_int (fun _ _ => rfl)) (se_of_sl (sl_lcO rfl sc_l_answer.nd (si_list (se_get 0 hu se_str (fun _ _ => rfl))) (blkOk_by (own := [("_law_one", 5)]) (N := N_l_answer) (sc := defScope s_l_answer) (by decide +kernel)) rfl (fun _ _ _ _ _ => (pg_name (i := 5) sc_l_answer.nd rfl (Or.inl rfl))) (gb_name 5) (by decide) (fun _ _ _ _ _ => sts_nil) (fun _ _ _ _ _ => (se_ix (se_var 5) se_int (fun _ _ => rfl))))) rfl)) (ss_one (ss_retE se_str)) ss_nil) (ss_cons (ss_appF 0 hu (se_slice (se_var 2) (so_some se_int) so_none)) (ss_one (ss_retE se_str)))) ss_nil) (ss_cons (ss_if (st_cmp (op_eq.or (op_eqD hu)) og_eq (se_ix (se_var 2) se_int (fun _ _ => rfl)) se_str (nomark _)) (ss_one (ss_retR (cl := cl) 0 g_l_bill (hr.mono (by decide)) (takes_def (L2N.takes_of rfl rfl rfl rfl)) (sa_cons (se_var 1) (sa_cons (se_ix (se_var 2) se_int (fun _ _ => rfl)) sa_nil)))) ss_nil) (ss_cons (ss_if (st_cmp (op_eq.or (op_eqD hu)) og_eq (se_ix (se_var 2) se_int (fun _ _ => rfl)) se_str (nomark _)) (ss_one (ss_retE (se_call g_l_use (hr.mono (by decide)) (takes_def (L2N.takes_of rfl rfl rfl rfl)) (sa_cons (se_ix (se_call g_l_account (hr.mono (by decide)) (takes_def (L2N.takes_of rfl rfl rfl rfl)) (sa_cons (se_get 0 hu se_str (fun _ _ => rfl)) (sa_cons (se_var 1) sa_nil))) se_int (fun _ _ => rfl)) (sa_cons (se_ix (se_var 2) se_int (fun _ _ => rfl)) sa_nil))))) ss_nil) (ss_cons (ss_if (st_cmp (op_eq.or (op_eqD hu)) og_eq (se_ix (se_var 2) se_int (fun _ _ => rfl)) se_str (nomark _)) (ss_cons (ss_if (st_cmp (op_eq.or (op_eqD hu)) og_eq (se_get 0 hu se_str (fun _ _ => rfl)) (se_tup sa_nil (len_ok aNil_len (by decide))) (nomark _)) (ss_one (ss_retE se_str)) ss_nil) (ss_one (ss_retE (se_bor 0 (se_call g_l_owed_11 (hr.mono (by decide)) (takes_def (L2N.takes_of rfl rfl rfl rfl)) (sa_cons (se_get 0 hu se_str (fun _ _ => rfl)) (sa_cons (se_ix (se_call g_l_account (hr.mono (by decide)) (takes_def (L2N.takes_of rfl rfl rfl rfl)) (sa_cons (se_get 0 hu se_str (fun _ _ => rfl)) (sa_cons (se_var 1) sa_nil))) se_int (fun _ _ => rfl)) (sa_cons (se_get 0 hu se_str (fun _ _ => rfl)) (sa_cons (se_ix (se_var 2) se_int (fun _ _ => rfl)) sa_nil))))))))) ss_nil) (ss_cons (ss_if (st_cmp (op_eq.or (op_eqD hu)) og_eq (se_ix (se_var 2) se_int (fun _ _ => rfl)) se_str (nomark _)) (ss_cons (ss_set 4 sc_l_answer.nd (se_call g_l_struck (hr.mono (by decide)) (takes_def (L2N.takes_of rfl rfl rfl rfl)) (sa_cons (se_get 0 hu se_str (fun _ _ => rfl)) (sa_cons (se_ix (se_var 2) se_int (fun _ _ => rfl)) sa_nil)))) (ss_cons (ss_if (st_cmp (op_eq.or (op_eqD hu)) og_eq (se_var 4) (se_get 0 hu se_str (fun _ _ => rfl)) (nomark _)) (ss_one (ss_retE se_str)) ss_nil) (ss_cons (ss_putD 0 hu (se_var 4) se_str) (ss_one (ss_retE se_str))))) ss_nil) (ss_cons (ss_set 3 sc_l_answer.nd (se_call g_l_entry_of (hr.mono (by decide)) (takes_def (L2N.takes_of rfl rfl rfl rfl)) (sa_cons (se_get 0 hu se_str (fun _ _ => rfl)) (sa_cons (se_var 2) sa_nil)))) (ss_cons (ss_if (st_val (se_isA (T := "str") z_isinstance z_str (se_var 3))) (ss_one (ss_retE (se_var 3))) ss_nil) (ss_cons (ss_putD 0 hu (se_add (se_get 0 hu se_str (fun _ _ => rfl)) (se_tup (sa_cons (se_var 3) sa_nil) (len_ok (aCons_len aNil_len) (by decide)))) se_str) (ss_cons (ss_if (st_cmp (op_ne.or (op_neD hu)) og_ne (se_ix (se_var 2) se_int (fun _ _ => rfl)) se_str (nomark _)) (ss_one (ss_retE se_str)) ss_nil) (ss_one (ss_retE (se_ix (se_of_sl (sl_lst (sa_cons se_str (sa_cons se_str sa_nil)) (len_ok (aCons_len (aCons_len aNil_len)) (by decide)))) (se_intOf z_int (se_cmp op_in_seq og_in (se_sub (se_len z_len (se_get 0 hu se_str (fun _ _ => rfl))) se_int) (se_ix (se_call g_l_account (hr.mono (by decide)) (takes_def (L2N.takes_of rfl rfl rfl rfl)) (sa_cons (se_get 0 hu se_str (fun _ _ => rfl)) (sa_cons (se_var 1) sa_nil))) se_int (fun _ _ => rfl)) rfl)) (fun _ _ => rfl)))))))))))))
abbrev s_law_11 : Stmt := topS 58
abbrev N_law_11 : List Str := ["_law_script", "_law_most", "_law_s", "_law_deeds", "_law_due", "_law_handed", "_law_found", "_law_entry", "_law_k", "_law_cell", "_law_number", "_law_more", "_law_one", "_law_other"]
theorem sc_law_11 : FnScope N_law_11 ["_law_script"] (defScope s_law_11) := ⟨rfl, rfl, rfl, by decide +kernel, rfl, by decide +kernel, by decide +kernel⟩
theorem ok_law {f : Addr} {fd : FuncData} (Fn : Fun K "law" "law" s_law_11 f fd) (z_enumerate : mg "enumerate" = none) (z_list : mg "list" = none) (z_isinstance : mg "isinstance" = none) (z_len : mg "len" = none) (z_tuple : mg "tuple" = none) (z_zip : mg "zip" = none) (z_str : mg "str" = none) (z_bool : mg "bool" = none) (z_sorted : mg "sorted" = none) (g_l_cell_at : FG P w K mg base cl "_law_cell_at" 1 2 f_l_cell_at) (g_l_most_by : FG P w K mg base cl "_law_most_by" 1 1 f_l_most_by) (g_l_mixed : FG P w K mg base cl "_law_mixed" 1 2 f_l_mixed) (g_l_size_by : FG P w K mg base cl "_law_size_by" 1 1 f_l_size_by) (g_l_answer : FGR P w K mg base "_law_answer" 4 3 f_l_answer) (g_l_deed_by : FG P w K mg base cl "_law_deed_by" 2 4 f_l_deed_by) (g_p_play : FG P w K mg base cl "play" 11 2 f_p_play) (true_ : ∀ ns : List Int, ns.length ≤ 63 → f_law_11 [.list (ns.map .int)] = .ok (.bool true)) : FnOk P w K mg base CX0 12 f fd ["_law_script"] (spLaw K) :=
  law_ok Fn sc_law_11 true_ fun cdv A outer s H E hr => have hu := hr.units; (ss_cons (ss_set 1 sc_law_11.nd (se_call g_l_most_by (hr.mono (by decide)) takes_none (sa_cons (se_call g_l_cell_at (hr.mono (by decide)) takes_none (sa_cons (se_var 0) (sa_cons se_int sa_nil))) sa_nil))) (ss_cons (ss_newS 2 sc_law_11.nd (by decide +kernel) (by decide +kernel) (by decide +kernel)) (ss_cons (ss_own 3 sc_law_11.nd (sl_lst sa_nil (len_ok aNil_len (by decide)))) (ss_cons (ss_own 4 sc_law_11.nd (sl_lst sa_nil (len_ok aNil_len (by decide)))) (ss_cons (ss_if (st_cmp op_gt og_gt (se_mod (se_call g_l_cell_at (hr.mono (by decide)) takes_none (sa_cons (se_var 0) (sa_cons se_int sa_nil))) se_int) se_int (nomark _)) (ss_cons (ss_app 3 (se_tup (sa_cons se_str (sa_cons se_int (sa_cons (se_call g_l_size_by (hr.mono (by decide)) takes_none (sa_cons (se_call g_l_mixed (hr.mono (by decide)) takes_none (sa_cons (se_var 0) (sa_cons se_int sa_nil))) sa_nil)) (sa_cons se_int sa_nil)))) (len_ok (aCons_len (aCons_len (aCons_len (aCons_len aNil_len)))) (by decide)))) (ss_one (ss_appR (cl := cl) 4 2 g_l_answer (hr.mono (by decide)) takes_none (sa_cons (se_var 1) (sa_cons (se_ixO 3 (se_neg se_int) (fun _ _ => rfl)) sa_nil))))) ss_nil) (ss_cons (ss_for PassesOwn.never rfl (si_enum z_enumerate (se_slice (se_var 0) (so_some se_int) (so_some se_int))) (pg_tup rfl (pgs_names_cons (i := 8) sc_law_11.nd (pgs_names_cons (i := 9) sc_law_11.nd pgs_names_nil))) (gb_tup [8, 9] 2 rfl) (ss_cons (ss_set 10 sc_law_11.nd (se_mod (se_mul (se_add (se_var 9) (se_mul se_int (se_var 8))) se_int) se_int)) (ss_cons (ss_set 11 sc_law_11.nd (se_mod (se_mul (se_add (se_var 9) (se_mul se_int (se_var 8))) se_int) se_int)) (ss_cons (ss_set 10 sc_law_11.nd (se_mod (se_mul (se_var 10) (se_var 10)) se_int)) (ss_cons (ss_app 3 (se_call g_l_deed_by (hr.mono (by decide)) takes_none (sa_cons (se_get 2 hu se_str (fun _ _ => rfl)) (sa_cons (se_var 1) (sa_cons (se_var 10) (sa_cons (se_mod (se_mul (se_var 11) (se_var 11)) se_int) sa_nil)))))) (ss_one (ss_appR (cl := cl) 4 2 g_l_answer (hr.mono (by decide)) takes_none (sa_cons (se_var 1) (sa_cons (se_ixO 3 (se_neg se_int) (fun _ _ => rfl)) sa_nil))))))))) (ss_frz 3 (ss_cons (ss_set 5 sc_law_11.nd (se_of_sl (sl_list z_list (se_var 3)))) (ss_cons (ss_set 6 sc_law_11.nd (se_call g_p_play (hr.mono (by decide)) takes_none (sa_cons (se_var 1) (sa_cons (se_var 5) sa_nil)))) (ss_cons (ss_if (SW.st (sw_or (st_cmp (op_ne.or (op_neD hu)) og_ne (se_var 5) (se_var 3) (nomark _)) (sw_or (st_not (st_val (se_isA (T := "tuple") z_isinstance z_tuple (se_var 6)))) (sw_or (st_cmp (op_ne.or (op_neD hu)) og_ne (se_len z_len (se_var 6)) se_int (nomark _)) (sw_or1 (st_not (st_val (se_isA (T := "list") z_isinstance z_list (se_ix (se_var 6) se_int (fun _ _ => rfl)))))))))) (ss_one (ss_ret se_bool)) ss_nil) (ss_cons (ss_if (st_cmp (op_ne.or (op_neD hu)) og_ne (se_len z_len (se_ix (se_var 6) se_int (fun _ _ => rfl))) (se_lenO 4 z_len) (nomark _)) (ss_one (ss_ret se_bool)) ss_nil) (ss_frz 4 (ss_cons (ss_for PassesOwn.never rfl (si_zip z_zip (se_ix (se_var 6) se_int (fun _ _ => rfl)) (se_var 4)) (pg_tup rfl (pgs_names_cons (i := 12) sc_law_11.nd (pgs_names_cons (i := 13) sc_law_11.nd pgs_names_nil))) (gb_tup [12, 13] 2 rfl) (ss_one (ss_if (SW.st (sw_or (st_val (se_isA (T := "bool") z_isinstance z_bool (se_var 12))) (sw_or (st_cmp (op_ne.or (op_neD hu)) og_ne (se_isA (T := "str") z_isinstance z_str (se_var 12)) (se_isA (T := "str") z_isinstance z_str (se_var 13)) (nomark _)) (sw_or1 (st_cmp (op_ne.or (op_neD hu)) og_ne (se_var 12) (se_var 13) (nomark _)))))) (ss_one (ss_ret se_bool)) ss_nil))) (ss_cons (ss_for PassesOwn.never rfl (si_tup (se_ix (se_ix (se_var 6) se_int (fun _ _ => rfl)) se_int (fun _ _ => rfl))) (pg_name (i := 7) sc_law_11.nd rfl (Or.inl rfl)) (gb_name 7) (ss_one (ss_if (SW.st (sw_and (st_cmp (op_eq.or (op_eqD hu)) og_eq (se_ix (se_var 7) se_int (fun _ _ => rfl)) se_str (nomark _)) (sw_and1 (st_not (st_val (se_isA (T := "bool") z_isinstance z_bool (se_ix (se_var 7) se_int (fun _ _ => rfl)))))))) (ss_one (ss_ret se_bool)) ss_nil))) (ss_one (ss_ret (se_bor 2 (se_cmp (op_eq.or (op_eqD hu)) og_eq (se_ix (se_var 6) se_int (fun _ _ => rfl)) (se_tup (sa_cons (se_get 2 hu se_str (fun _ _ => rfl)) (sa_cons (se_tuple z_tuple (se_of_sl (sl_sorted z_sorted hu (se_get 2 hu se_str (fun _ _ => rfl))))) (sa_cons (se_tuple z_tuple (se_get 2 hu se_str (fun _ _ => rfl))) sa_nil))) (len_ok (aCons_len (aCons_len (aCons_len aNil_len))) (by decide))) (nomark _)))))))))))))))))))
end
theorem all_mk {l : PySem.W.OpenLaw} {w : World} {K : PySem.W.Frag} {h : Heap} {mg : Str → Option Value} {fa f0 f1 f2 f3 f4 f5 f6 f7 f8 f9 f10 f11 f12 f13 f14 f15 f16 f17 f18 f19 f20 f21 f22 f23 f24 f25 f26 f27 f28 f29 f30 f31 f32 f33 f34 f35 f36 f37 f38 f39 f40 f41 f42 f43 : Addr} (X : K.In h) (G : h.Ns mainGlobals mg) (hfa : mg "law" = some (.ref fa))
    {od0 an0 od1 an1 od2 an2 od3 an3 od4 an4 od5 an5 od6 an6 od7 an7 od8 an8 od9 an9 od10 an10 od11 an11 od12 an12 od13 an13 od14 an14 od15 an15 od16 an16 od17 an17 od18 an18 od19 an19 od20 an20 od21 an21 od22 an22 od23 an23 od24 an24 od25 an25 od26 an26 od27 an27 od28 an28 od29 an29 od30 an30 od31 an31 od32 an32 od33 an33 od34 an34 od35 an35 od36 an36 od37 an37 od38 an38 od39 an39 od40 an40 od41 an41 od42 an42 od43 an43 : Option Addr} {sl0 sl1 sl2 sl3 sl4 sl5 sl6 sl7 sl8 sl9 sl10 sl11 sl12 sl13 sl14 sl15 sl16 sl17 sl18 sl19 sl20 sl21 sl22 sl23 sl24 sl25 sl26 sl27 sl28 sl29 sl30 sl31 sl32 sl33 sl34 sl35 sl36 sl37 sl38 sl39 sl40 sl41 sl42 sl43 : Array (Option Value)} {oc0 kV0 dc0 pm0 cd0 ct0 oc1 kV1 dc1 pm1 cd1 ct1 oc2 kV2 dc2 pm2 cd2 ct2 oc3 kV3 dc3 pm3 cd3 ct3 oc4 kV4 dc4 pm4 cd4 ct4 oc5 kV5 dc5 pm5 cd5 ct5 oc6 kV6 dc6 pm6 cd6 ct6 oc7 kV7 dc7 pm7 cd7 ct7 oc8 kV8 dc8 pm8 cd8 ct8 oc9 kV9 dc9 pm9 cd9 ct9 oc10 kV10 dc10 pm10 cd10 ct10 oc11 kV11 dc11 pm11 cd11 ct11 oc12 kV12 dc12 pm12 cd12 ct12 oc13 kV13 dc13 pm13 cd13 ct13 oc14 kV14 dc14 pm14 cd14 ct14 oc15 kV15 dc15 pm15 cd15 ct15 oc16 kV16 dc16 pm16 cd16 ct16 oc17 kV17 dc17 pm17 cd17 ct17 oc18 kV18 dc18 pm18 cd18 ct18 oc19 kV19 dc19 pm19 cd19 ct19 oc20 kV20 dc20 pm20 cd20 ct20 oc21 kV21 dc21 pm21 cd21 ct21 oc22 kV22 dc22 pm22 cd22 ct22 oc23 kV23 dc23 pm23 cd23 ct23 oc24 kV24 dc24 pm24 cd24 ct24 oc25 kV25 dc25 pm25 cd25 ct25 oc26 kV26 dc26 pm26 cd26 ct26 oc27 kV27 dc27 pm27 cd27 ct27 oc28 kV28 dc28 pm28 cd28 ct28 oc29 kV29 dc29 pm29 cd29 ct29 oc30 kV30 dc30 pm30 cd30 ct30 oc31 kV31 dc31 pm31 cd31 ct31 oc32 kV32 dc32 pm32 cd32 ct32 oc33 kV33 dc33 pm33 cd33 ct33 oc34 kV34 dc34 pm34 cd34 ct34 oc35 kV35 dc35 pm35 cd35 ct35 oc36 kV36 dc36 pm36 cd36 ct36 oc37 kV37 dc37 pm37 cd37 ct37 oc38 kV38 dc38 pm38 cd38 ct38 oc39 kV39 dc39 pm39 cd39 ct39 oc40 kV40 dc40 pm40 cd40 ct40 oc41 kV41 dc41 pm41 cd41 ct41 oc42 kV42 dc42 pm42 cd42 ct42 oc43 kV43 dc43 pm43 cd43 ct43 : Value}
    (a0 : PySem.W.nsIn K mainGlobals "size_at" = some (some (.ref f0))) (l0 : K.lookup f0 = some ⟨oc0, od0, .func (PySem.W.fnOf "size_at" "size_at" (defArgs s_p_size_at) (defBody s_p_size_at) (defScope s_p_size_at) .none kV0 dc0 pm0 an0 cd0 ct0), sl0⟩) (c0 : PySem.W.codeIn K cd0 "size_at" = true) (k0 : PySem.W.keepIn K (.ref f0) = true)
    (a1 : PySem.W.nsIn K mainGlobals "begun" = some (some (.ref f1))) (l1 : K.lookup f1 = some ⟨oc1, od1, .func (PySem.W.fnOf "begun" "begun" (defArgs s_p_begun) (defBody s_p_begun) (defScope s_p_begun) .none kV1 dc1 pm1 an1 cd1 ct1), sl1⟩) (c1 : PySem.W.codeIn K cd1 "begun" = true) (k1 : PySem.W.keepIn K (.ref f1) = true)
    (a2 : PySem.W.nsIn K mainGlobals "need_later" = some (some (.ref f2))) (l2 : K.lookup f2 = some ⟨oc2, od2, .func (PySem.W.fnOf "need_later" "need_later" (defArgs s_p_need_later) (defBody s_p_need_later) (defScope s_p_need_later) .none kV2 dc2 pm2 an2 cd2 ct2), sl2⟩) (c2 : PySem.W.codeIn K cd2 "need_later" = true) (k2 : PySem.W.keepIn K (.ref f2) = true)
    (a3 : PySem.W.nsIn K mainGlobals "read_on" = some (some (.ref f3))) (l3 : K.lookup f3 = some ⟨oc3, od3, .func (PySem.W.fnOf "read_on" "read_on" (defArgs s_p_read_on) (defBody s_p_read_on) (defScope s_p_read_on) .none kV3 dc3 pm3 an3 cd3 ct3), sl3⟩) (c3 : PySem.W.codeIn K cd3 "read_on" = true) (k3 : PySem.W.keepIn K (.ref f3) = true)
    (a4 : PySem.W.nsIn K mainGlobals "changed_on" = some (some (.ref f4))) (l4 : K.lookup f4 = some ⟨oc4, od4, .func (PySem.W.fnOf "changed_on" "changed_on" (defArgs s_p_changed_on) (defBody s_p_changed_on) (defScope s_p_changed_on) .none kV4 dc4 pm4 an4 cd4 ct4), sl4⟩) (c4 : PySem.W.codeIn K cd4 "changed_on" = true) (k4 : PySem.W.keepIn K (.ref f4) = true)
    (a5 : PySem.W.nsIn K mainGlobals "struck" = some (some (.ref f5))) (l5 : K.lookup f5 = some ⟨oc5, od5, .func (PySem.W.fnOf "struck" "struck" (defArgs s_p_struck) (defBody s_p_struck) (defScope s_p_struck) .none kV5 dc5 pm5 an5 cd5 ct5), sl5⟩) (c5 : PySem.W.codeIn K cd5 "struck" = true) (k5 : PySem.W.keepIn K (.ref f5) = true)
    (a6 : PySem.W.nsIn K mainGlobals "gone" = some (some (.ref f6))) (l6 : K.lookup f6 = some ⟨oc6, od6, .func (PySem.W.fnOf "gone" "gone" (defArgs s_p_gone) (defBody s_p_gone) (defScope s_p_gone) .none kV6 dc6 pm6 an6 cd6 ct6), sl6⟩) (c6 : PySem.W.codeIn K cd6 "gone" = true) (k6 : PySem.W.keepIn K (.ref f6) = true)
    (a7 : PySem.W.nsIn K mainGlobals "share" = some (some (.ref f7))) (l7 : K.lookup f7 = some ⟨oc7, od7, .func (PySem.W.fnOf "share" "share" (defArgs s_p_share) (defBody s_p_share) (defScope s_p_share) .none kV7 dc7 pm7 an7 cd7 ct7), sl7⟩) (c7 : PySem.W.codeIn K cd7 "share" = true) (k7 : PySem.W.keepIn K (.ref f7) = true)
    (a8 : PySem.W.nsIn K mainGlobals "value_ahead" = some (some (.ref f8))) (l8 : K.lookup f8 = some ⟨oc8, od8, .func (PySem.W.fnOf "value_ahead" "value_ahead" (defArgs s_p_value_ahead) (defBody s_p_value_ahead) (defScope s_p_value_ahead) .none kV8 dc8 pm8 an8 cd8 ct8), sl8⟩) (c8 : PySem.W.codeIn K cd8 "value_ahead" = true) (k8 : PySem.W.keepIn K (.ref f8) = true)
    (a9 : PySem.W.nsIn K mainGlobals "value_behind" = some (some (.ref f9))) (l9 : K.lookup f9 = some ⟨oc9, od9, .func (PySem.W.fnOf "value_behind" "value_behind" (defArgs s_p_value_behind) (defBody s_p_value_behind) (defScope s_p_value_behind) .none kV9 dc9 pm9 an9 cd9 ct9), sl9⟩) (c9 : PySem.W.codeIn K cd9 "value_behind" = true) (k9 : PySem.W.keepIn K (.ref f9) = true)
    (a10 : PySem.W.nsIn K mainGlobals "use_between" = some (some (.ref f10))) (l10 : K.lookup f10 = some ⟨oc10, od10, .func (PySem.W.fnOf "use_between" "use_between" (defArgs s_p_use_between) (defBody s_p_use_between) (defScope s_p_use_between) .none kV10 dc10 pm10 an10 cd10 ct10), sl10⟩) (c10 : PySem.W.codeIn K cd10 "use_between" = true) (k10 : PySem.W.keepIn K (.ref f10) = true)
    (a11 : PySem.W.nsIn K mainGlobals "counts" = some (some (.ref f11))) (l11 : K.lookup f11 = some ⟨oc11, od11, .func (PySem.W.fnOf "counts" "counts" (defArgs s_p_counts) (defBody s_p_counts) (defScope s_p_counts) .none kV11 dc11 pm11 an11 cd11 ct11), sl11⟩) (c11 : PySem.W.codeIn K cd11 "counts" = true) (k11 : PySem.W.keepIn K (.ref f11) = true)
    (a12 : PySem.W.nsIn K mainGlobals "points" = some (some (.ref f12))) (l12 : K.lookup f12 = some ⟨oc12, od12, .func (PySem.W.fnOf "points" "points" (defArgs s_p_points) (defBody s_p_points) (defScope s_p_points) .none kV12 dc12 pm12 an12 cd12 ct12), sl12⟩) (c12 : PySem.W.codeIn K cd12 "points" = true) (k12 : PySem.W.keepIn K (.ref f12) = true)
    (a13 : PySem.W.nsIn K mainGlobals "spans" = some (some (.ref f13))) (l13 : K.lookup f13 = some ⟨oc13, od13, .func (PySem.W.fnOf "spans" "spans" (defArgs s_p_spans) (defBody s_p_spans) (defScope s_p_spans) .none kV13 dc13 pm13 an13 cd13 ct13), sl13⟩) (c13 : PySem.W.codeIn K cd13 "spans" = true) (k13 : PySem.W.keepIn K (.ref f13) = true)
    (a14 : PySem.W.nsIn K mainGlobals "use_in" = some (some (.ref f14))) (l14 : K.lookup f14 = some ⟨oc14, od14, .func (PySem.W.fnOf "use_in" "use_in" (defArgs s_p_use_in) (defBody s_p_use_in) (defScope s_p_use_in) .none kV14 dc14 pm14 an14 cd14 ct14), sl14⟩) (c14 : PySem.W.codeIn K cd14 "use_in" = true) (k14 : PySem.W.keepIn K (.ref f14) = true)
    (a15 : PySem.W.nsIn K mainGlobals "use_on" = some (some (.ref f15))) (l15 : K.lookup f15 = some ⟨oc15, od15, .func (PySem.W.fnOf "use_on" "use_on" (defArgs s_p_use_on) (defBody s_p_use_on) (defScope s_p_use_on) .none kV15 dc15 pm15 an15 cd15 ct15), sl15⟩) (c15 : PySem.W.codeIn K cd15 "use_on" = true) (k15 : PySem.W.keepIn K (.ref f15) = true)
    (a16 : PySem.W.nsIn K mainGlobals "uses" = some (some (.ref f16))) (l16 : K.lookup f16 = some ⟨oc16, od16, .func (PySem.W.fnOf "uses" "uses" (defArgs s_p_uses) (defBody s_p_uses) (defScope s_p_uses) .none kV16 dc16 pm16 an16 cd16 ct16), sl16⟩) (c16 : PySem.W.codeIn K cd16 "uses" = true) (k16 : PySem.W.keepIn K (.ref f16) = true)
    (a17 : PySem.W.nsIn K mainGlobals "with_tariff" = some (some (.ref f17))) (l17 : K.lookup f17 = some ⟨oc17, od17, .func (PySem.W.fnOf "with_tariff" "with_tariff" (defArgs s_p_with_tariff) (defBody s_p_with_tariff) (defScope s_p_with_tariff) .none kV17 dc17 pm17 an17 cd17 ct17), sl17⟩) (c17 : PySem.W.codeIn K cd17 "with_tariff" = true) (k17 : PySem.W.keepIn K (.ref f17) = true)
    (a18 : PySem.W.nsIn K mainGlobals "tariff_on" = some (some (.ref f18))) (l18 : K.lookup f18 = some ⟨oc18, od18, .func (PySem.W.fnOf "tariff_on" "tariff_on" (defArgs s_p_tariff_on) (defBody s_p_tariff_on) (defScope s_p_tariff_on) .none kV18 dc18 pm18 an18 cd18 ct18), sl18⟩) (c18 : PySem.W.codeIn K cd18 "tariff_on" = true) (k18 : PySem.W.keepIn K (.ref f18) = true)
    (a19 : PySem.W.nsIn K mainGlobals "cost" = some (some (.ref f19))) (l19 : K.lookup f19 = some ⟨oc19, od19, .func (PySem.W.fnOf "cost" "cost" (defArgs s_p_cost) (defBody s_p_cost) (defScope s_p_cost) .none kV19 dc19 pm19 an19 cd19 ct19), sl19⟩) (c19 : PySem.W.codeIn K cd19 "cost" = true) (k19 : PySem.W.keepIn K (.ref f19) = true)
    (a20 : PySem.W.nsIn K mainGlobals "owed" = some (some (.ref f20))) (l20 : K.lookup f20 = some ⟨oc20, od20, .func (PySem.W.fnOf "owed" "owed" (defArgs s_p_owed) (defBody s_p_owed) (defScope s_p_owed) .none kV20 dc20 pm20 an20 cd20 ct20), sl20⟩) (c20 : PySem.W.codeIn K cd20 "owed" = true) (k20 : PySem.W.keepIn K (.ref f20) = true)
    (a21 : PySem.W.nsIn K mainGlobals "billed" = some (some (.ref f21))) (l21 : K.lookup f21 = some ⟨oc21, od21, .func (PySem.W.fnOf "billed" "billed" (defArgs s_p_billed) (defBody s_p_billed) (defScope s_p_billed) .none kV21 dc21 pm21 an21 cd21 ct21), sl21⟩) (c21 : PySem.W.codeIn K cd21 "billed" = true) (k21 : PySem.W.keepIn K (.ref f21) = true)
    (a22 : PySem.W.nsIn K mainGlobals "with_bill" = some (some (.ref f22))) (l22 : K.lookup f22 = some ⟨oc22, od22, .func (PySem.W.fnOf "with_bill" "with_bill" (defArgs s_p_with_bill) (defBody s_p_with_bill) (defScope s_p_with_bill) .none kV22 dc22 pm22 an22 cd22 ct22), sl22⟩) (c22 : PySem.W.codeIn K cd22 "with_bill" = true) (k22 : PySem.W.keepIn K (.ref f22) = true)
    (a23 : PySem.W.nsIn K mainGlobals "refused_as" = some (some (.ref f23))) (l23 : K.lookup f23 = some ⟨oc23, od23, .func (PySem.W.fnOf "refused_as" "refused_as" (defArgs s_p_refused_as) (defBody s_p_refused_as) (defScope s_p_refused_as) .none kV23 dc23 pm23 an23 cd23 ct23), sl23⟩) (c23 : PySem.W.codeIn K cd23 "refused_as" = true) (k23 : PySem.W.keepIn K (.ref f23) = true)
    (a24 : PySem.W.nsIn K mainGlobals "entry_done" = some (some (.ref f24))) (l24 : K.lookup f24 = some ⟨oc24, od24, .func (PySem.W.fnOf "entry_done" "entry_done" (defArgs s_p_entry_done) (defBody s_p_entry_done) (defScope s_p_entry_done) .none kV24 dc24 pm24 an24 cd24 ct24), sl24⟩) (c24 : PySem.W.codeIn K cd24 "entry_done" = true) (k24 : PySem.W.keepIn K (.ref f24) = true)
    (a25 : PySem.W.nsIn K mainGlobals "read_answer" = some (some (.ref f25))) (l25 : K.lookup f25 = some ⟨oc25, od25, .func (PySem.W.fnOf "read_answer" "read_answer" (defArgs s_p_read_answer) (defBody s_p_read_answer) (defScope s_p_read_answer) .none kV25 dc25 pm25 an25 cd25 ct25), sl25⟩) (c25 : PySem.W.codeIn K cd25 "read_answer" = true) (k25 : PySem.W.keepIn K (.ref f25) = true)
    (a26 : PySem.W.nsIn K mainGlobals "done" = some (some (.ref f26))) (l26 : K.lookup f26 = some ⟨oc26, od26, .func (PySem.W.fnOf "done" "done" (defArgs s_p_done) (defBody s_p_done) (defScope s_p_done) .none kV26 dc26 pm26 an26 cd26 ct26), sl26⟩) (c26 : PySem.W.codeIn K cd26 "done" = true) (k26 : PySem.W.keepIn K (.ref f26) = true)
    (a27 : PySem.W.nsIn K mainGlobals "play" = some (some (.ref f27))) (l27 : K.lookup f27 = some ⟨oc27, od27, .func (PySem.W.fnOf "play" "play" (defArgs s_p_play) (defBody s_p_play) (defScope s_p_play) .none kV27 dc27 pm27 an27 cd27 ct27), sl27⟩) (c27 : PySem.W.codeIn K cd27 "play" = true) (k27 : PySem.W.keepIn K (.ref f27) = true)
    (a28 : PySem.W.nsIn K mainGlobals "_law_cell_at" = some (some (.ref f28))) (l28 : K.lookup f28 = some ⟨oc28, od28, .func (PySem.W.fnOf "_law_cell_at" "_law_cell_at" (defArgs s_l_cell_at) (defBody s_l_cell_at) (defScope s_l_cell_at) .none kV28 dc28 pm28 an28 cd28 ct28), sl28⟩) (c28 : PySem.W.codeIn K cd28 "_law_cell_at" = true) (k28 : PySem.W.keepIn K (.ref f28) = true)
    (a29 : PySem.W.nsIn K mainGlobals "_law_mixed" = some (some (.ref f29))) (l29 : K.lookup f29 = some ⟨oc29, od29, .func (PySem.W.fnOf "_law_mixed" "_law_mixed" (defArgs s_l_mixed) (defBody s_l_mixed) (defScope s_l_mixed) .none kV29 dc29 pm29 an29 cd29 ct29), sl29⟩) (c29 : PySem.W.codeIn K cd29 "_law_mixed" = true) (k29 : PySem.W.keepIn K (.ref f29) = true)
    (a30 : PySem.W.nsIn K mainGlobals "_law_size_by" = some (some (.ref f30))) (l30 : K.lookup f30 = some ⟨oc30, od30, .func (PySem.W.fnOf "_law_size_by" "_law_size_by" (defArgs s_l_size_by) (defBody s_l_size_by) (defScope s_l_size_by) .none kV30 dc30 pm30 an30 cd30 ct30), sl30⟩) (c30 : PySem.W.codeIn K cd30 "_law_size_by" = true) (k30 : PySem.W.keepIn K (.ref f30) = true)
    (a31 : PySem.W.nsIn K mainGlobals "_law_most_by" = some (some (.ref f31))) (l31 : K.lookup f31 = some ⟨oc31, od31, .func (PySem.W.fnOf "_law_most_by" "_law_most_by" (defArgs s_l_most_by) (defBody s_l_most_by) (defScope s_l_most_by) .none kV31 dc31 pm31 an31 cd31 ct31), sl31⟩) (c31 : PySem.W.codeIn K cd31 "_law_most_by" = true) (k31 : PySem.W.keepIn K (.ref f31) = true)
    (a32 : PySem.W.nsIn K mainGlobals "_law_account" = some (some (.ref f32))) (l32 : K.lookup f32 = some ⟨oc32, od32, .func (PySem.W.fnOf "_law_account" "_law_account" (defArgs s_l_account) (defBody s_l_account) (defScope s_l_account) .none kV32 dc32 pm32 an32 cd32 ct32), sl32⟩) (c32 : PySem.W.codeIn K cd32 "_law_account" = true) (k32 : PySem.W.keepIn K (.ref f32) = true)
    (a33 : PySem.W.nsIn K mainGlobals "_law_use" = some (some (.ref f33))) (l33 : K.lookup f33 = some ⟨oc33, od33, .func (PySem.W.fnOf "_law_use" "_law_use" (defArgs s_l_use) (defBody s_l_use) (defScope s_l_use) .none kV33 dc33 pm33 an33 cd33 ct33), sl33⟩) (c33 : PySem.W.codeIn K cd33 "_law_use" = true) (k33 : PySem.W.keepIn K (.ref f33) = true)
    (a34 : PySem.W.nsIn K mainGlobals "_law_cost" = some (some (.ref f34))) (l34 : K.lookup f34 = some ⟨oc34, od34, .func (PySem.W.fnOf "_law_cost" "_law_cost" (defArgs s_l_cost_11) (defBody s_l_cost_11) (defScope s_l_cost_11) .none kV34 dc34 pm34 an34 cd34 ct34), sl34⟩) (c34 : PySem.W.codeIn K cd34 "_law_cost" = true) (k34 : PySem.W.keepIn K (.ref f34) = true)
    (a35 : PySem.W.nsIn K mainGlobals "_law_owed" = some (some (.ref f35))) (l35 : K.lookup f35 = some ⟨oc35, od35, .func (PySem.W.fnOf "_law_owed" "_law_owed" (defArgs s_l_owed_11) (defBody s_l_owed_11) (defScope s_l_owed_11) .none kV35 dc35 pm35 an35 cd35 ct35), sl35⟩) (c35 : PySem.W.codeIn K cd35 "_law_owed" = true) (k35 : PySem.W.keepIn K (.ref f35) = true)
    (a36 : PySem.W.nsIn K mainGlobals "_law_size_now" = some (some (.ref f36))) (l36 : K.lookup f36 = some ⟨oc36, od36, .func (PySem.W.fnOf "_law_size_now" "_law_size_now" (defArgs s_l_size_now) (defBody s_l_size_now) (defScope s_l_size_now) .none kV36 dc36 pm36 an36 cd36 ct36), sl36⟩) (c36 : PySem.W.codeIn K cd36 "_law_size_now" = true) (k36 : PySem.W.keepIn K (.ref f36) = true)
    (a37 : PySem.W.nsIn K mainGlobals "_law_shown_now" = some (some (.ref f37))) (l37 : K.lookup f37 = some ⟨oc37, od37, .func (PySem.W.fnOf "_law_shown_now" "_law_shown_now" (defArgs s_l_shown_now) (defBody s_l_shown_now) (defScope s_l_shown_now) .none kV37 dc37 pm37 an37 cd37 ct37), sl37⟩) (c37 : PySem.W.codeIn K cd37 "_law_shown_now" = true) (k37 : PySem.W.keepIn K (.ref f37) = true)
    (a38 : PySem.W.nsIn K mainGlobals "_law_deed_by" = some (some (.ref f38))) (l38 : K.lookup f38 = some ⟨oc38, od38, .func (PySem.W.fnOf "_law_deed_by" "_law_deed_by" (defArgs s_l_deed_by) (defBody s_l_deed_by) (defScope s_l_deed_by) .none kV38 dc38 pm38 an38 cd38 ct38), sl38⟩) (c38 : PySem.W.codeIn K cd38 "_law_deed_by" = true) (k38 : PySem.W.keepIn K (.ref f38) = true)
    (a39 : PySem.W.nsIn K mainGlobals "_law_entry_of" = some (some (.ref f39))) (l39 : K.lookup f39 = some ⟨oc39, od39, .func (PySem.W.fnOf "_law_entry_of" "_law_entry_of" (defArgs s_l_entry_of) (defBody s_l_entry_of) (defScope s_l_entry_of) .none kV39 dc39 pm39 an39 cd39 ct39), sl39⟩) (c39 : PySem.W.codeIn K cd39 "_law_entry_of" = true) (k39 : PySem.W.keepIn K (.ref f39) = true)
    (a40 : PySem.W.nsIn K mainGlobals "_law_struck" = some (some (.ref f40))) (l40 : K.lookup f40 = some ⟨oc40, od40, .func (PySem.W.fnOf "_law_struck" "_law_struck" (defArgs s_l_struck) (defBody s_l_struck) (defScope s_l_struck) .none kV40 dc40 pm40 an40 cd40 ct40), sl40⟩) (c40 : PySem.W.codeIn K cd40 "_law_struck" = true) (k40 : PySem.W.keepIn K (.ref f40) = true)
    (a41 : PySem.W.nsIn K mainGlobals "_law_bill" = some (some (.ref f41))) (l41 : K.lookup f41 = some ⟨oc41, od41, .func (PySem.W.fnOf "_law_bill" "_law_bill" (defArgs s_l_bill) (defBody s_l_bill) (defScope s_l_bill) .none kV41 dc41 pm41 an41 cd41 ct41), sl41⟩) (c41 : PySem.W.codeIn K cd41 "_law_bill" = true) (k41 : PySem.W.keepIn K (.ref f41) = true)
    (a42 : PySem.W.nsIn K mainGlobals "_law_answer" = some (some (.ref f42))) (l42 : K.lookup f42 = some ⟨oc42, od42, .func (PySem.W.fnOf "_law_answer" "_law_answer" (defArgs s_l_answer) (defBody s_l_answer) (defScope s_l_answer) .none kV42 dc42 pm42 an42 cd42 ct42), sl42⟩) (c42 : PySem.W.codeIn K cd42 "_law_answer" = true) (k42 : PySem.W.keepIn K (.ref f42) = true)
    (a43 : PySem.W.nsIn K mainGlobals "law" = some (some (.ref f43))) (l43 : K.lookup f43 = some ⟨oc43, od43, .func (PySem.W.fnOf "law" "law" (defArgs s_law_11) (defBody s_law_11) (defScope s_law_11) .none kV43 dc43 pm43 an43 cd43 ct43), sl43⟩) (c43 : PySem.W.codeIn K cd43 "law" = true) (k43 : PySem.W.keepIn K (.ref f43) = true)
    (z_len : PySem.W.nsIn K mainGlobals "len" = some none)
    (z_list : PySem.W.nsIn K mainGlobals "list" = some none)
    (z_range : PySem.W.nsIn K mainGlobals "range" = some none)
    (z_tuple : PySem.W.nsIn K mainGlobals "tuple" = some none)
    (z_min : PySem.W.nsIn K mainGlobals "min" = some none)
    (z_max : PySem.W.nsIn K mainGlobals "max" = some none)
    (z_enumerate : PySem.W.nsIn K mainGlobals "enumerate" = some none)
    (z_sum : PySem.W.nsIn K mainGlobals "sum" = some none)
    (z_isinstance : PySem.W.nsIn K mainGlobals "isinstance" = some none)
    (z_sorted : PySem.W.nsIn K mainGlobals "sorted" = some none)
    (z_int : PySem.W.nsIn K mainGlobals "int" = some none)
    (z_str : PySem.W.nsIn K mainGlobals "str" = some none)
    (z_zip : PySem.W.nsIn K mainGlobals "zip" = some none)
    (z_bool : PySem.W.nsIn K mainGlobals "bool" = some none)
    {cM CNoMeter CStandsAlready CNotLater CNoValue CNoReading : Addr} (aM : PySem.W.nsIn K mainGlobals "MeterError" = some (some (.ref cM))) (bM : PySem.W.subIn K (.ref cM) (.type "BaseException") = some true) (dM : PySem.W.hasDictIn K cM = true) (tM : PySem.W.typeIn K (.ref cM) = some (.type "type"))
    (hn : PySem.W.specialIn K (.builtin "object.__class__") "__get__" = some (some (.builtin "getset_descriptor.__get__"))) (ht : PySem.W.takesIn K (.builtin "object.__class__") = some true)
    (a_NoMeter : PySem.W.nsIn K mainGlobals "NoMeter" = some (some (.ref CNoMeter)))
    (x_NoMeter : PySem.W.excIn K CNoMeter [.type "ValueError", .type "Exception", .type "BaseException", .type "object"] "ValueError.__new__" = true)
    (k_NoMeter : PySem.W.keepIn K (.ref CNoMeter) = true)
    (b_NoMeter : PySem.W.subIn K (.ref CNoMeter) (.type "BaseException") = some true)
    (t_NoMeter : PySem.W.typeIn K (.ref CNoMeter) = some (.type "type"))
    (hg_NoMeter : PySem.W.findIn K (.ref CNoMeter) "__getattribute__" = some (some (.builtin "BaseException.__getattribute__")))
    (hk_NoMeter : PySem.W.findIn K (.ref CNoMeter) "__getattr__" = some none)
    (hd_NoMeter : PySem.W.hasDictIn K CNoMeter = true)
    (ha_NoMeter : PySem.W.findIn K (.ref CNoMeter) "__class__" = some (some (.builtin "object.__class__")))
    (hm_NoMeter : PySem.W.mroIn K CNoMeter (.type "object") = some true)
    (v_NoMeter : PySem.W.subIn K (.ref CNoMeter) (.type "ValueError") = some true)
    (m_NoMeter : PySem.W.subIn K (.ref CNoMeter) (.ref cM) = some true)
    (a_StandsAlready : PySem.W.nsIn K mainGlobals "StandsAlready" = some (some (.ref CStandsAlready)))
    (x_StandsAlready : PySem.W.excIn K CStandsAlready [.type "ValueError", .type "Exception", .type "BaseException", .type "object"] "ValueError.__new__" = true)
    (k_StandsAlready : PySem.W.keepIn K (.ref CStandsAlready) = true)
    (b_StandsAlready : PySem.W.subIn K (.ref CStandsAlready) (.type "BaseException") = some true)
    (t_StandsAlready : PySem.W.typeIn K (.ref CStandsAlready) = some (.type "type"))
    (hg_StandsAlready : PySem.W.findIn K (.ref CStandsAlready) "__getattribute__" = some (some (.builtin "BaseException.__getattribute__")))
    (hk_StandsAlready : PySem.W.findIn K (.ref CStandsAlready) "__getattr__" = some none)
    (hd_StandsAlready : PySem.W.hasDictIn K CStandsAlready = true)
    (ha_StandsAlready : PySem.W.findIn K (.ref CStandsAlready) "__class__" = some (some (.builtin "object.__class__")))
    (hm_StandsAlready : PySem.W.mroIn K CStandsAlready (.type "object") = some true)
    (v_StandsAlready : PySem.W.subIn K (.ref CStandsAlready) (.type "ValueError") = some true)
    (m_StandsAlready : PySem.W.subIn K (.ref CStandsAlready) (.ref cM) = some true)
    (a_NotLater : PySem.W.nsIn K mainGlobals "NotLater" = some (some (.ref CNotLater)))
    (x_NotLater : PySem.W.excIn K CNotLater [.type "ValueError", .type "Exception", .type "BaseException", .type "object"] "ValueError.__new__" = true)
    (k_NotLater : PySem.W.keepIn K (.ref CNotLater) = true)
    (b_NotLater : PySem.W.subIn K (.ref CNotLater) (.type "BaseException") = some true)
    (t_NotLater : PySem.W.typeIn K (.ref CNotLater) = some (.type "type"))
    (hg_NotLater : PySem.W.findIn K (.ref CNotLater) "__getattribute__" = some (some (.builtin "BaseException.__getattribute__")))
    (hk_NotLater : PySem.W.findIn K (.ref CNotLater) "__getattr__" = some none)
    (hd_NotLater : PySem.W.hasDictIn K CNotLater = true)
    (ha_NotLater : PySem.W.findIn K (.ref CNotLater) "__class__" = some (some (.builtin "object.__class__")))
    (hm_NotLater : PySem.W.mroIn K CNotLater (.type "object") = some true)
    (v_NotLater : PySem.W.subIn K (.ref CNotLater) (.type "ValueError") = some true)
    (m_NotLater : PySem.W.subIn K (.ref CNotLater) (.ref cM) = some true)
    (a_NoValue : PySem.W.nsIn K mainGlobals "NoValue" = some (some (.ref CNoValue)))
    (x_NoValue : PySem.W.excIn K CNoValue [.type "ValueError", .type "Exception", .type "BaseException", .type "object"] "ValueError.__new__" = true)
    (k_NoValue : PySem.W.keepIn K (.ref CNoValue) = true)
    (b_NoValue : PySem.W.subIn K (.ref CNoValue) (.type "BaseException") = some true)
    (t_NoValue : PySem.W.typeIn K (.ref CNoValue) = some (.type "type"))
    (hg_NoValue : PySem.W.findIn K (.ref CNoValue) "__getattribute__" = some (some (.builtin "BaseException.__getattribute__")))
    (hk_NoValue : PySem.W.findIn K (.ref CNoValue) "__getattr__" = some none)
    (hd_NoValue : PySem.W.hasDictIn K CNoValue = true)
    (ha_NoValue : PySem.W.findIn K (.ref CNoValue) "__class__" = some (some (.builtin "object.__class__")))
    (hm_NoValue : PySem.W.mroIn K CNoValue (.type "object") = some true)
    (v_NoValue : PySem.W.subIn K (.ref CNoValue) (.type "ValueError") = some true)
    (m_NoValue : PySem.W.subIn K (.ref CNoValue) (.ref cM) = some true)
    (a_NoReading : PySem.W.nsIn K mainGlobals "NoReading" = some (some (.ref CNoReading)))
    (x_NoReading : PySem.W.excIn K CNoReading [.type "ValueError", .type "Exception", .type "BaseException", .type "object"] "ValueError.__new__" = true)
    (k_NoReading : PySem.W.keepIn K (.ref CNoReading) = true)
    (b_NoReading : PySem.W.subIn K (.ref CNoReading) (.type "BaseException") = some true)
    (t_NoReading : PySem.W.typeIn K (.ref CNoReading) = some (.type "type"))
    (hg_NoReading : PySem.W.findIn K (.ref CNoReading) "__getattribute__" = some (some (.builtin "BaseException.__getattribute__")))
    (hk_NoReading : PySem.W.findIn K (.ref CNoReading) "__getattr__" = some none)
    (hd_NoReading : PySem.W.hasDictIn K CNoReading = true)
    (ha_NoReading : PySem.W.findIn K (.ref CNoReading) "__class__" = some (some (.builtin "object.__class__")))
    (hm_NoReading : PySem.W.mroIn K CNoReading (.type "object") = some true)
    (v_NoReading : PySem.W.subIn K (.ref CNoReading) (.type "ValueError") = some true)
    (m_NoReading : PySem.W.subIn K (.ref CNoReading) (.ref cM) = some true)
    (s_NoMeter_NoMeter : PySem.W.subIn K (.ref CNoMeter) (.ref CNoMeter) = some true)
    (s_NoMeter_StandsAlready : PySem.W.subIn K (.ref CNoMeter) (.ref CStandsAlready) = some false)
    (s_NoMeter_NotLater : PySem.W.subIn K (.ref CNoMeter) (.ref CNotLater) = some false)
    (s_NoMeter_NoValue : PySem.W.subIn K (.ref CNoMeter) (.ref CNoValue) = some false)
    (s_NoMeter_NoReading : PySem.W.subIn K (.ref CNoMeter) (.ref CNoReading) = some false)
    (s_StandsAlready_NoMeter : PySem.W.subIn K (.ref CStandsAlready) (.ref CNoMeter) = some false)
    (s_StandsAlready_StandsAlready : PySem.W.subIn K (.ref CStandsAlready) (.ref CStandsAlready) = some true)
    (s_StandsAlready_NotLater : PySem.W.subIn K (.ref CStandsAlready) (.ref CNotLater) = some false)
    (s_StandsAlready_NoValue : PySem.W.subIn K (.ref CStandsAlready) (.ref CNoValue) = some false)
    (s_StandsAlready_NoReading : PySem.W.subIn K (.ref CStandsAlready) (.ref CNoReading) = some false)
    (s_NotLater_NoMeter : PySem.W.subIn K (.ref CNotLater) (.ref CNoMeter) = some false)
    (s_NotLater_StandsAlready : PySem.W.subIn K (.ref CNotLater) (.ref CStandsAlready) = some false)
    (s_NotLater_NotLater : PySem.W.subIn K (.ref CNotLater) (.ref CNotLater) = some true)
    (s_NotLater_NoValue : PySem.W.subIn K (.ref CNotLater) (.ref CNoValue) = some false)
    (s_NotLater_NoReading : PySem.W.subIn K (.ref CNotLater) (.ref CNoReading) = some false)
    (s_NoValue_NoMeter : PySem.W.subIn K (.ref CNoValue) (.ref CNoMeter) = some false)
    (s_NoValue_StandsAlready : PySem.W.subIn K (.ref CNoValue) (.ref CStandsAlready) = some false)
    (s_NoValue_NotLater : PySem.W.subIn K (.ref CNoValue) (.ref CNotLater) = some false)
    (s_NoValue_NoValue : PySem.W.subIn K (.ref CNoValue) (.ref CNoValue) = some true)
    (s_NoValue_NoReading : PySem.W.subIn K (.ref CNoValue) (.ref CNoReading) = some false)
    (s_NoReading_NoMeter : PySem.W.subIn K (.ref CNoReading) (.ref CNoMeter) = some false)
    (s_NoReading_StandsAlready : PySem.W.subIn K (.ref CNoReading) (.ref CStandsAlready) = some false)
    (s_NoReading_NotLater : PySem.W.subIn K (.ref CNoReading) (.ref CNotLater) = some false)
    (s_NoReading_NoValue : PySem.W.subIn K (.ref CNoReading) (.ref CNoValue) = some false)
    (s_NoReading_NoReading : PySem.W.subIn K (.ref CNoReading) (.ref CNoReading) = some true)
    (true_ : ∀ ns : List Int, ns.length ≤ 63 → f_law_11 [.list (ns.map .int)] = .ok (.bool true)) :
    ∃ fd : FuncData, (∀ (s : Shared) (v : Value), BindsTo s fd ⟨[v], []⟩ [("_law_script", v)]) ∧ ∀ base : Heap, K.In base → base.Ns mainGlobals mg → FnOk l.prog w K mg base CX0 12 fa fd ["_law_script"] (spLaw K) := by
  have e := hfa.symm.trans (PySem.W.mg_of X G a43)
  cases e
  have z_len := PySem.W.mg_none_of X G z_len
  have z_list := PySem.W.mg_none_of X G z_list
  have z_range := PySem.W.mg_none_of X G z_range
  have z_tuple := PySem.W.mg_none_of X G z_tuple
  have z_min := PySem.W.mg_none_of X G z_min
  have z_max := PySem.W.mg_none_of X G z_max
  have z_enumerate := PySem.W.mg_none_of X G z_enumerate
  have z_sum := PySem.W.mg_none_of X G z_sum
  have z_isinstance := PySem.W.mg_none_of X G z_isinstance
  have z_sorted := PySem.W.mg_none_of X G z_sorted
  have z_int := PySem.W.mg_none_of X G z_int
  have z_str := PySem.W.mg_none_of X G z_str
  have z_zip := PySem.W.mg_none_of X G z_zip
  have z_bool := PySem.W.mg_none_of X G z_bool
  have ET := ex5_mk X G (adX CNoMeter CStandsAlready CNotLater CNoValue CNoReading) xr_i (fun c => by cases c <;> rfl) aM bM dM tM hn ht
    (fun c => match c with | .noMeter => ⟨a_NoMeter, x_NoMeter, k_NoMeter, b_NoMeter, t_NoMeter, hg_NoMeter, hk_NoMeter, hd_NoMeter, ha_NoMeter, hm_NoMeter, v_NoMeter, m_NoMeter⟩ | .stands => ⟨a_StandsAlready, x_StandsAlready, k_StandsAlready, b_StandsAlready, t_StandsAlready, hg_StandsAlready, hk_StandsAlready, hd_StandsAlready, ha_StandsAlready, hm_StandsAlready, v_StandsAlready, m_StandsAlready⟩ | .notLater => ⟨a_NotLater, x_NotLater, k_NotLater, b_NotLater, t_NotLater, hg_NotLater, hk_NotLater, hd_NotLater, ha_NotLater, hm_NotLater, v_NotLater, m_NotLater⟩ | .noValue => ⟨a_NoValue, x_NoValue, k_NoValue, b_NoValue, t_NoValue, hg_NoValue, hk_NoValue, hd_NoValue, ha_NoValue, hm_NoValue, v_NoValue, m_NoValue⟩ | .noReading => ⟨a_NoReading, x_NoReading, k_NoReading, b_NoReading, t_NoReading, hg_NoReading, hk_NoReading, hd_NoReading, ha_NoReading, hm_NoReading, v_NoReading, m_NoReading⟩)
    (fun e c => match e, c with | .noMeter, .noMeter => s_NoMeter_NoMeter | .noMeter, .stands => s_NoMeter_StandsAlready | .noMeter, .notLater => s_NoMeter_NotLater | .noMeter, .noValue => s_NoMeter_NoValue | .noMeter, .noReading => s_NoMeter_NoReading | .stands, .noMeter => s_StandsAlready_NoMeter | .stands, .stands => s_StandsAlready_StandsAlready | .stands, .notLater => s_StandsAlready_NotLater | .stands, .noValue => s_StandsAlready_NoValue | .stands, .noReading => s_StandsAlready_NoReading | .notLater, .noMeter => s_NotLater_NoMeter | .notLater, .stands => s_NotLater_StandsAlready | .notLater, .notLater => s_NotLater_NotLater | .notLater, .noValue => s_NotLater_NoValue | .notLater, .noReading => s_NotLater_NoReading | .noValue, .noMeter => s_NoValue_NoMeter | .noValue, .stands => s_NoValue_StandsAlready | .noValue, .notLater => s_NoValue_NotLater | .noValue, .noValue => s_NoValue_NoValue | .noValue, .noReading => s_NoValue_NoReading | .noReading, .noMeter => s_NoReading_NoMeter | .noReading, .stands => s_NoReading_StandsAlready | .noReading, .notLater => s_NoReading_NotLater | .noReading, .noValue => s_NoReading_NoValue | .noReading, .noReading => s_NoReading_NoReading)
  generalize (fun c => adX CNoMeter CStandsAlready CNotLater CNoValue CNoReading (xr_i c)) = cl at ET
  refine ⟨PySem.W.fnOf "law" "law" (defArgs s_law_11) (defBody s_law_11) (defScope s_law_11) .none kV43 dc43 pm43 an43 cd43 ct43, fun s v => .of_eq rfl, fun base _ _ => ?_⟩
  have g_p_size_at := ok_p_size_at (P := l.prog) (w := w) (base := base) (cl := cl) (fun_mk (st := s_p_size_at) l0 c0 k0) (PySem.W.mg_of X G a0)
  have g_p_begun := ok_p_begun (P := l.prog) (w := w) (base := base) (cl := cl) (fun_mk (st := s_p_begun) l1 c1 k1) (PySem.W.mg_of X G a1) z_len ET
  have g_p_need_later := ok_p_need_later (P := l.prog) (w := w) (base := base) (cl := cl) (fun_mk (st := s_p_need_later) l2 c2 k2) (PySem.W.mg_of X G a2) z_len ET
  have g_p_read_on := ok_p_read_on (P := l.prog) (w := w) (base := base) (cl := cl) (fun_mk (st := s_p_read_on) l3 c3 k3) (PySem.W.mg_of X G a3) z_len g_p_need_later g_p_size_at ET
  have g_p_changed_on := ok_p_changed_on (P := l.prog) (w := w) (base := base) (cl := cl) (fun_mk (st := s_p_changed_on) l4 c4 k4) (PySem.W.mg_of X G a4) z_len g_p_need_later g_p_size_at ET
  have g_p_struck := ok_p_struck (P := l.prog) (w := w) (base := base) (cl := cl) (fun_mk (st := s_p_struck) l5 c5 k5) (PySem.W.mg_of X G a5) z_list z_len z_range z_tuple ET
  have g_p_gone := ok_p_gone (P := l.prog) (w := w) (base := base) (cl := cl) (fun_mk (st := s_p_gone) l6 c6 k6) (PySem.W.mg_of X G a6)
  have g_p_share := ok_p_share (P := l.prog) (w := w) (base := base) (cl := cl) (fun_mk (st := s_p_share) l7 c7 k7) (PySem.W.mg_of X G a7)
  have g_p_value_ahead := ok_p_value_ahead (P := l.prog) (w := w) (base := base) (cl := cl) (fun_mk (st := s_p_value_ahead) l8 c8 k8) (PySem.W.mg_of X G a8)
  have g_p_value_behind := ok_p_value_behind (P := l.prog) (w := w) (base := base) (cl := cl) (fun_mk (st := s_p_value_behind) l9 c9 k9) (PySem.W.mg_of X G a9) g_p_value_ahead
  have g_p_use_between := ok_p_use_between (P := l.prog) (w := w) (base := base) (cl := cl) (fun_mk (st := s_p_use_between) l10 c10 k10) (PySem.W.mg_of X G a10) g_p_value_ahead g_p_value_behind g_p_size_at g_p_gone
  have g_p_counts := ok_p_counts (P := l.prog) (w := w) (base := base) (cl := cl) (fun_mk (st := s_p_counts) l11 c11 k11) (PySem.W.mg_of X G a11) g_p_use_between
  have g_p_points := ok_p_points (P := l.prog) (w := w) (base := base) (cl := cl) (fun_mk (st := s_p_points) l12 c12 k12) (PySem.W.mg_of X G a12) z_len z_range g_p_counts
  have g_p_spans := ok_p_spans (P := l.prog) (w := w) (base := base) (cl := cl) (fun_mk (st := s_p_spans) l13 c13 k13) (PySem.W.mg_of X G a13) z_len z_range g_p_points g_p_use_between
  have g_p_use_in := ok_p_use_in (P := l.prog) (w := w) (base := base) (cl := cl) (fun_mk (st := s_p_use_in) l14 c14 k14) (PySem.W.mg_of X G a14) g_p_share
  have g_p_use_on := ok_p_use_on (P := l.prog) (w := w) (base := base) (cl := cl) (fun_mk (st := s_p_use_on) l15 c15 k15) (PySem.W.mg_of X G a15) g_p_spans g_p_use_in
  have g_p_uses := ok_p_uses (P := l.prog) (w := w) (base := base) (cl := cl) (fun_mk (st := s_p_uses) l16 c16 k16) (PySem.W.mg_of X G a16) z_range g_p_spans g_p_use_in
  have g_p_with_tariff := ok_p_with_tariff (P := l.prog) (w := w) (base := base) (cl := cl) (fun_mk (st := s_p_with_tariff) l17 c17 k17) (PySem.W.mg_of X G a17) z_tuple ET
  have g_p_tariff_on := ok_p_tariff_on (P := l.prog) (w := w) (base := base) (cl := cl) (fun_mk (st := s_p_tariff_on) l18 c18 k18) (PySem.W.mg_of X G a18)
  have g_p_cost := ok_p_cost (P := l.prog) (w := w) (base := base) (cl := cl) (fun_mk (st := s_p_cost) l19 c19 k19) (PySem.W.mg_of X G a19) z_min z_max
  have g_p_owed := ok_p_owed (P := l.prog) (w := w) (base := base) (cl := cl) (fun_mk (st := s_p_owed) l20 c20 k20) (PySem.W.mg_of X G a20) z_len z_enumerate g_p_uses g_p_tariff_on g_p_cost ET
  have g_p_billed := ok_p_billed (P := l.prog) (w := w) (base := base) (cl := cl) (fun_mk (st := s_p_billed) l21 c21 k21) (PySem.W.mg_of X G a21) z_sum
  have g_p_with_bill := ok_p_with_bill (P := l.prog) (w := w) (base := base) (cl := cl) (fun_mk (st := s_p_with_bill) l22 c22 k22) (PySem.W.mg_of X G a22) z_len g_p_owed g_p_billed ET
  have g_p_refused_as := ok_p_refused_as (P := l.prog) (w := w) (base := base) (cl := cl) (fun_mk (st := s_p_refused_as) l23 c23 k23) (PySem.W.mg_of X G a23) z_isinstance ET
  have g_p_entry_done := ok_p_entry_done (P := l.prog) (w := w) (base := base) (cl := cl) (fun_mk (st := s_p_entry_done) l24 c24 k24) (PySem.W.mg_of X G a24) g_p_begun g_p_read_on g_p_changed_on g_p_struck
  have g_p_read_answer := ok_p_read_answer (P := l.prog) (w := w) (base := base) (cl := cl) (fun_mk (st := s_p_read_answer) l25 c25 k25) (PySem.W.mg_of X G a25) z_len g_p_points
  have g_p_done := ok_p_done (P := l.prog) (w := w) (base := base) (cl := cl) (fun_mk (st := s_p_done) l26 c26 k26) (PySem.W.mg_of X G a26) g_p_with_tariff g_p_with_bill g_p_use_on g_p_owed g_p_entry_done g_p_read_answer
  have g_p_play := ok_p_play (P := l.prog) (w := w) (base := base) (cl := cl) (fun_mk (st := s_p_play) l27 c27 k27) (PySem.W.mg_of X G a27) g_p_done g_p_refused_as ET
  have g_l_cell_at := ok_l_cell_at (P := l.prog) (w := w) (base := base) (cl := cl) (fun_mk (st := s_l_cell_at) l28 c28 k28) (PySem.W.mg_of X G a28) z_len
  have g_l_mixed := ok_l_mixed (P := l.prog) (w := w) (base := base) (cl := cl) (fun_mk (st := s_l_mixed) l29 c29 k29) (PySem.W.mg_of X G a29) z_len
  have g_l_size_by := ok_l_size_by (P := l.prog) (w := w) (base := base) (cl := cl) (fun_mk (st := s_l_size_by) l30 c30 k30) (PySem.W.mg_of X G a30)
  have g_l_most_by := ok_l_most_by (P := l.prog) (w := w) (base := base) (cl := cl) (fun_mk (st := s_l_most_by) l31 c31 k31) (PySem.W.mg_of X G a31)
  have g_l_account := ok_l_account (P := l.prog) (w := w) (base := base) (cl := cl) (fun_mk (st := s_l_account) l32 c32 k32) (PySem.W.mg_of X G a32) z_len z_range
  have g_l_use := ok_l_use (P := l.prog) (w := w) (base := base) (cl := cl) (fun_mk (st := s_l_use) l33 c33 k33) (PySem.W.mg_of X G a33)
  have g_l_cost_11 := ok_l_cost_11 (P := l.prog) (w := w) (base := base) (cl := cl) (fun_mk (st := s_l_cost_11) l34 c34 k34) (PySem.W.mg_of X G a34) z_sorted z_min z_max
  have g_l_owed_11 := ok_l_owed_11 (P := l.prog) (w := w) (base := base) (cl := cl) (fun_mk (st := s_l_owed_11) l35 c35 k35) (PySem.W.mg_of X G a35) z_range g_l_use g_l_cost_11
  have g_l_size_now := ok_l_size_now (P := l.prog) (w := w) (base := base) (cl := cl) (fun_mk (st := s_l_size_now) l36 c36 k36) (PySem.W.mg_of X G a36) z_int
  have g_l_shown_now := ok_l_shown_now (P := l.prog) (w := w) (base := base) (cl := cl) (fun_mk (st := s_l_shown_now) l37 c37 k37) (PySem.W.mg_of X G a37) z_len
  have g_l_deed_by := ok_l_deed_by (P := l.prog) (w := w) (base := base) (cl := cl) (fun_mk (st := s_l_deed_by) l38 c38 k38) (PySem.W.mg_of X G a38) z_len z_max z_int g_l_size_now g_l_shown_now g_l_size_by
  have g_l_entry_of := ok_l_entry_of (P := l.prog) (w := w) (base := base) (cl := cl) (fun_mk (st := s_l_entry_of) l39 c39 k39) (PySem.W.mg_of X G a39) z_len g_l_size_now
  have g_l_struck := ok_l_struck (P := l.prog) (w := w) (base := base) (cl := cl) (fun_mk (st := s_l_struck) l40 c40 k40) (PySem.W.mg_of X G a40) z_tuple
  have g_l_bill := ok_l_bill (P := l.prog) (w := w) (base := base) (cl := cl) (fun_mk (st := s_l_bill) l41 c41 k41) (PySem.W.mg_of X G a41) z_sum g_l_account g_l_owed_11
  have g_l_answer := ok_l_answer (P := l.prog) (w := w) (base := base) (cl := cl) (fun_mk (st := s_l_answer) l42 c42 k42) (PySem.W.mg_of X G a42) z_isinstance z_str z_len z_int g_l_bill g_l_account g_l_use g_l_owed_11 g_l_struck g_l_entry_of
  exact ok_law (P := l.prog) (w := w) (base := base) (cl := cl) (fun_mk (st := s_law_11) l43 c43 k43) z_enumerate z_list z_isinstance z_len z_tuple z_zip z_str z_bool z_sorted g_l_cell_at g_l_most_by g_l_mixed g_l_size_by g_l_answer g_l_deed_by g_p_play true_
theorem law_true : ∀ ns : List Int, ns.length ≤ 63 → f_law_11 [.list (ns.map .int)] = .ok (.bool true) := Mg.law_true_11
end MgL
open PySem PySem.W PyProof.Rows
set_option maxHeartbeats 0 in
theorem PySem.Challenge.cw_metergap_k11_whole_plays_holds : PySem.Challenge.rw_metergap_k11_whole_plays.Holds := by
  w_on; o_law; k_head; (case hw => w_witness2)
  k_fill
  refine L2.walk_of (l := PySem.Challenge.rw_metergap_k11_whole_plays) (n := 63) (k := 12) (x := "_law_script") (CX := fun _ => L2.CX0) (sp := fun w => Mg.spLaw _) rfl (by decide) rfl ⟨rfl, by decide, by decide⟩ (fun w h Y => PySem.W.kIn_of Y) ?F (fun _ _ a ns hl _ hS => ⟨a, ns, rfl, hS, hl, fun _ => rfl⟩) (fun _ _ _ _ _ h => h)
  case F =>
    intro w mg fa h KX G hmg
    refine' MgL.all_mk KX G hmg ?a0 ?l0 ?c0 ?k0 ?a1 ?l1 ?c1 ?k1 ?a2 ?l2 ?c2 ?k2 ?a3 ?l3 ?c3 ?k3 ?a4 ?l4 ?c4 ?k4 ?a5 ?l5 ?c5 ?k5 ?a6 ?l6 ?c6 ?k6 ?a7 ?l7 ?c7 ?k7 ?a8 ?l8 ?c8 ?k8 ?a9 ?l9 ?c9 ?k9 ?a10 ?l10 ?c10 ?k10 ?a11 ?l11 ?c11 ?k11 ?a12 ?l12 ?c12 ?k12 ?a13 ?l13 ?c13 ?k13 ?a14 ?l14 ?c14 ?k14 ?a15 ?l15 ?c15 ?k15 ?a16 ?l16 ?c16 ?k16 ?a17 ?l17 ?c17 ?k17 ?a18 ?l18 ?c18 ?k18 ?a19 ?l19 ?c19 ?k19 ?a20 ?l20 ?c20 ?k20 ?a21 ?l21 ?c21 ?k21 ?a22 ?l22 ?c22 ?k22 ?a23 ?l23 ?c23 ?k23 ?a24 ?l24 ?c24 ?k24 ?a25 ?l25 ?c25 ?k25 ?a26 ?l26 ?c26 ?k26 ?a27 ?l27 ?c27 ?k27 ?a28 ?l28 ?c28 ?k28 ?a29 ?l29 ?c29 ?k29 ?a30 ?l30 ?c30 ?k30 ?a31 ?l31 ?c31 ?k31 ?a32 ?l32 ?c32 ?k32 ?a33 ?l33 ?c33 ?k33 ?a34 ?l34 ?c34 ?k34 ?a35 ?l35 ?c35 ?k35 ?a36 ?l36 ?c36 ?k36 ?a37 ?l37 ?c37 ?k37 ?a38 ?l38 ?c38 ?k38 ?a39 ?l39 ?c39 ?k39 ?a40 ?l40 ?c40 ?k40 ?a41 ?l41 ?c41 ?k41 ?a42 ?l42 ?c42 ?k42 ?a43 ?l43 ?c43 ?k43 ?z_len ?z_list ?z_range ?z_tuple ?z_min ?z_max ?z_enumerate ?z_sum ?z_isinstance ?z_sorted ?z_int ?z_str ?z_zip ?z_bool ?aM ?bM ?dM ?tM ?hn ?ht ?a_NoMeter ?x_NoMeter ?k_NoMeter ?b_NoMeter ?t_NoMeter ?hg_NoMeter ?hk_NoMeter ?hd_NoMeter ?ha_NoMeter ?hm_NoMeter ?v_NoMeter ?m_NoMeter ?a_StandsAlready ?x_StandsAlready ?k_StandsAlready ?b_StandsAlready ?t_StandsAlready ?hg_StandsAlready ?hk_StandsAlready ?hd_StandsAlready ?ha_StandsAlready ?hm_StandsAlready ?v_StandsAlready ?m_StandsAlready ?a_NotLater ?x_NotLater ?k_NotLater ?b_NotLater ?t_NotLater ?hg_NotLater ?hk_NotLater ?hd_NotLater ?ha_NotLater ?hm_NotLater ?v_NotLater ?m_NotLater ?a_NoValue ?x_NoValue ?k_NoValue ?b_NoValue ?t_NoValue ?hg_NoValue ?hk_NoValue ?hd_NoValue ?ha_NoValue ?hm_NoValue ?v_NoValue ?m_NoValue ?a_NoReading ?x_NoReading ?k_NoReading ?b_NoReading ?t_NoReading ?hg_NoReading ?hk_NoReading ?hd_NoReading ?ha_NoReading ?hm_NoReading ?v_NoReading ?m_NoReading ?s_NoMeter_NoMeter ?s_NoMeter_StandsAlready ?s_NoMeter_NotLater ?s_NoMeter_NoValue ?s_NoMeter_NoReading ?s_StandsAlready_NoMeter ?s_StandsAlready_StandsAlready ?s_StandsAlready_NotLater ?s_StandsAlready_NoValue ?s_StandsAlready_NoReading ?s_NotLater_NoMeter ?s_NotLater_StandsAlready ?s_NotLater_NotLater ?s_NotLater_NoValue ?s_NotLater_NoReading ?s_NoValue_NoMeter ?s_NoValue_StandsAlready ?s_NoValue_NotLater ?s_NoValue_NoValue ?s_NoValue_NoReading ?s_NoReading_NoMeter ?s_NoReading_StandsAlready ?s_NoReading_NotLater ?s_NoReading_NoValue ?s_NoReading_NoReading MgL.law_true
    (case a0 => k_is)
    (case l0 => k_is)
    (case c0 => k_is)
    (case k0 => k_is)
    (case a1 => k_is)
    (case l1 => k_is)
    (case c1 => k_is)
    (case k1 => k_is)
    (case a2 => k_is)
    (case l2 => k_is)
    (case c2 => k_is)
    (case k2 => k_is)
    (case a3 => k_is)
    (case l3 => k_is)
    (case c3 => k_is)
    (case k3 => k_is)
    (case a4 => k_is)
    (case l4 => k_is)
    (case c4 => k_is)
    (case k4 => k_is)
    (case a5 => k_is)
    (case l5 => k_is)
    (case c5 => k_is)
    (case k5 => k_is)
    (case a6 => k_is)
    (case l6 => k_is)
    (case c6 => k_is)
    (case k6 => k_is)
    (case a7 => k_is)
    (case l7 => k_is)
    (case c7 => k_is)
    (case k7 => k_is)
    (case a8 => k_is)
    (case l8 => k_is)
    (case c8 => k_is)
    (case k8 => k_is)
    (case a9 => k_is)
    (case l9 => k_is)
    (case c9 => k_is)
    (case k9 => k_is)
    (case a10 => k_is)
    (case l10 => k_is)
    (case c10 => k_is)
    (case k10 => k_is)
    (case a11 => k_is)
    (case l11 => k_is)
    (case c11 => k_is)
    (case k11 => k_is)
    (case a12 => k_is)
    (case l12 => k_is)
    (case c12 => k_is)
    (case k12 => k_is)
    (case a13 => k_is)
    (case l13 => k_is)
    (case c13 => k_is)
    (case k13 => k_is)
    (case a14 => k_is)
    (case l14 => k_is)
    (case c14 => k_is)
    (case k14 => k_is)
    (case a15 => k_is)
    (case l15 => k_is)
    (case c15 => k_is)
    (case k15 => k_is)
    (case a16 => k_is)
    (case l16 => k_is)
    (case c16 => k_is)
    (case k16 => k_is)
    (case a17 => k_is)
    (case l17 => k_is)
    (case c17 => k_is)
    (case k17 => k_is)
    (case a18 => k_is)
    (case l18 => k_is)
    (case c18 => k_is)
    (case k18 => k_is)
    (case a19 => k_is)
    (case l19 => k_is)
    (case c19 => k_is)
    (case k19 => k_is)
    (case a20 => k_is)
    (case l20 => k_is)
    (case c20 => k_is)
    (case k20 => k_is)
    (case a21 => k_is)
    (case l21 => k_is)
    (case c21 => k_is)
    (case k21 => k_is)
    (case a22 => k_is)
    (case l22 => k_is)
    (case c22 => k_is)
    (case k22 => k_is)
    (case a23 => k_is)
    (case l23 => k_is)
    (case c23 => k_is)
    (case k23 => k_is)
    (case a24 => k_is)
    (case l24 => k_is)
    (case c24 => k_is)
    (case k24 => k_is)
    (case a25 => k_is)
    (case l25 => k_is)
    (case c25 => k_is)
    (case k25 => k_is)
    (case a26 => k_is)
    (case l26 => k_is)
    (case c26 => k_is)
    (case k26 => k_is)
    (case a27 => k_is)
    (case l27 => k_is)
    (case c27 => k_is)
    (case k27 => k_is)
    (case a28 => k_is)
    (case l28 => k_is)
    (case c28 => k_is)
    (case k28 => k_is)
    (case a29 => k_is)
    (case l29 => k_is)
    (case c29 => k_is)
    (case k29 => k_is)
    (case a30 => k_is)
    (case l30 => k_is)
    (case c30 => k_is)
    (case k30 => k_is)
    (case a31 => k_is)
    (case l31 => k_is)
    (case c31 => k_is)
    (case k31 => k_is)
    (case a32 => k_is)
    (case l32 => k_is)
    (case c32 => k_is)
    (case k32 => k_is)
    (case a33 => k_is)
    (case l33 => k_is)
    (case c33 => k_is)
    (case k33 => k_is)
    (case a34 => k_is)
    (case l34 => k_is)
    (case c34 => k_is)
    (case k34 => k_is)
    (case a35 => k_is)
    (case l35 => k_is)
    (case c35 => k_is)
    (case k35 => k_is)
    (case a36 => k_is)
    (case l36 => k_is)
    (case c36 => k_is)
    (case k36 => k_is)
    (case a37 => k_is)
    (case l37 => k_is)
    (case c37 => k_is)
    (case k37 => k_is)
    (case a38 => k_is)
    (case l38 => k_is)
    (case c38 => k_is)
    (case k38 => k_is)
    (case a39 => k_is)
    (case l39 => k_is)
    (case c39 => k_is)
    (case k39 => k_is)
    (case a40 => k_is)
    (case l40 => k_is)
    (case c40 => k_is)
    (case k40 => k_is)
    (case a41 => k_is)
    (case l41 => k_is)
    (case c41 => k_is)
    (case k41 => k_is)
    (case a42 => k_is)
    (case l42 => k_is)
    (case c42 => k_is)
    (case k42 => k_is)
    (case a43 => k_is)
    (case l43 => k_is)
    (case c43 => k_is)
    (case k43 => k_is)
    (case z_len => k_is)
    (case z_list => k_is)
    (case z_range => k_is)
    (case z_tuple => k_is)
    (case z_min => k_is)
    (case z_max => k_is)
    (case z_enumerate => k_is)
    (case z_sum => k_is)
    (case z_isinstance => k_is)
    (case z_sorted => k_is)
    (case z_int => k_is)
    (case z_str => k_is)
    (case z_zip => k_is)
    (case z_bool => k_is)
    (case aM => k_is)
    (case bM => k_is)
    (case dM => k_is)
    (case tM => k_is)
    (case hn => k_is)
    (case ht => k_is)
    (case a_NoMeter => k_is)
    (case x_NoMeter => k_exc)
    (case k_NoMeter => k_is)
    (case b_NoMeter => k_is)
    (case t_NoMeter => k_is)
    (case hg_NoMeter => k_is)
    (case hk_NoMeter => k_is)
    (case hd_NoMeter => k_is)
    (case ha_NoMeter => k_is)
    (case hm_NoMeter => k_is)
    (case v_NoMeter => k_is)
    (case m_NoMeter => k_is)
    (case a_StandsAlready => k_is)
    (case x_StandsAlready => k_exc)
    (case k_StandsAlready => k_is)
    (case b_StandsAlready => k_is)
    (case t_StandsAlready => k_is)
    (case hg_StandsAlready => k_is)
    (case hk_StandsAlready => k_is)
    (case hd_StandsAlready => k_is)
    (case ha_StandsAlready => k_is)
    (case hm_StandsAlready => k_is)
    (case v_StandsAlready => k_is)
    (case m_StandsAlready => k_is)
    (case a_NotLater => k_is)
    (case x_NotLater => k_exc)
    (case k_NotLater => k_is)
    (case b_NotLater => k_is)
    (case t_NotLater => k_is)
    (case hg_NotLater => k_is)
    (case hk_NotLater => k_is)
    (case hd_NotLater => k_is)
    (case ha_NotLater => k_is)
    (case hm_NotLater => k_is)
    (case v_NotLater => k_is)
    (case m_NotLater => k_is)
    (case a_NoValue => k_is)
    (case x_NoValue => k_exc)
    (case k_NoValue => k_is)
    (case b_NoValue => k_is)
    (case t_NoValue => k_is)
    (case hg_NoValue => k_is)
    (case hk_NoValue => k_is)
    (case hd_NoValue => k_is)
    (case ha_NoValue => k_is)
    (case hm_NoValue => k_is)
    (case v_NoValue => k_is)
    (case m_NoValue => k_is)
    (case a_NoReading => k_is)
    (case x_NoReading => k_exc)
    (case k_NoReading => k_is)
    (case b_NoReading => k_is)
    (case t_NoReading => k_is)
    (case hg_NoReading => k_is)
    (case hk_NoReading => k_is)
    (case hd_NoReading => k_is)
    (case ha_NoReading => k_is)
    (case hm_NoReading => k_is)
    (case v_NoReading => k_is)
    (case m_NoReading => k_is)
    (case s_NoMeter_NoMeter => first | rfl | k_is)
    (case s_NoMeter_StandsAlready => first | rfl | k_is)
    (case s_NoMeter_NotLater => first | rfl | k_is)
    (case s_NoMeter_NoValue => first | rfl | k_is)
    (case s_NoMeter_NoReading => first | rfl | k_is)
    (case s_StandsAlready_NoMeter => first | rfl | k_is)
    (case s_StandsAlready_StandsAlready => first | rfl | k_is)
    (case s_StandsAlready_NotLater => first | rfl | k_is)
    (case s_StandsAlready_NoValue => first | rfl | k_is)
    (case s_StandsAlready_NoReading => first | rfl | k_is)
    (case s_NotLater_NoMeter => first | rfl | k_is)
    (case s_NotLater_StandsAlready => first | rfl | k_is)
    (case s_NotLater_NotLater => first | rfl | k_is)
    (case s_NotLater_NoValue => first | rfl | k_is)
    (case s_NotLater_NoReading => first | rfl | k_is)
    (case s_NoValue_NoMeter => first | rfl | k_is)
    (case s_NoValue_StandsAlready => first | rfl | k_is)
    (case s_NoValue_NotLater => first | rfl | k_is)
    (case s_NoValue_NoValue => first | rfl | k_is)
    (case s_NoValue_NoReading => first | rfl | k_is)
    (case s_NoReading_NoMeter => first | rfl | k_is)
    (case s_NoReading_StandsAlready => first | rfl | k_is)
    (case s_NoReading_NotLater => first | rfl | k_is)
    (case s_NoReading_NoValue => first | rfl | k_is)
    (case s_NoReading_NoReading => first | rfl | k_is)
