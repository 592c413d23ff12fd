import PyProof.Rows.All
import Wide.All
import OpenK.AllK
import Wide.FinOn
import HandS.ForMost
import HandS.Exc
import HandS.TryOnly
import HandS.ExcOwn
import HandS.WordsExc
import HandS.Gcd
import HandS.TupAny
import HandS.TupLe
import HandS.Wide
import KE.DataEq
import HandS.IsInst
import HandS.Text
import HandS.Defaults
import HandS.Style
import HandS.Head2
import HandS.HeadEnd
import HandS.HeadHook4
import HandS.Head3
import HandS.EndBits
import HandS.ExcIs
import PySem.Challenge.RW_nosurebet_k01_check_word
set_option Elab.async false
set_option linter.all false
set_option maxRecDepth 100000
set_option maxHeartbeats 4000000
namespace Dl
open PySem PySem.Spec PyProof.Rows L2

/-! ### data as values -/
inductive D where
  | non | bl (b : Bool) | int (i : Int) | str (x : Str)
  | tup (xs : List D) | lst (xs : List D)
  /-- a list that is known: the script -/
  | scr (xs : List D)
  | dK (ks : List Key) (vs : List D)

abbrev Fz := Addr → Prop
def SqLK (K : PySem.W.Frag) (a : Addr) (xs : List V) : Prop :=
  ∃ (o : Obj) (its : Array Value) (n : Nat), K.lookup a = some o ∧ o.cls = .type "list" ∧ o.dict = none ∧ o.data = .seq its n ∧ its.size ≤ sizeLine ∧ Vals xs its.toList
def SqTK (K : PySem.W.Frag) (a : Addr) (xs : List V) : Prop :=
  ∃ (o : Obj) (its : Array Value) (n : Nat), K.lookup a = some o ∧ o.cls = .type "tuple" ∧ o.data = .seq its n ∧ its.size ≤ sizeLine ∧ Vals xs its.toList
mutual
def Rp (K : PySem.W.Frag) (F : Fz) (H : Hp) : D → V → Prop
  | .non, v => v = .non
  | .bl b, v => v = .bl b
  | .int i, v => v = .int i
  | .str x, v => v = .str x
  | .tup ds, v => ∃ a vs, v = .ref a ∧ ((F a ∧ Rd H a (.tup vs)) ∨ SqTK K a vs) ∧ Rps K F H ds vs
  | .lst ds, v => ∃ a vs, v = .ref a ∧ F a ∧ H a = some (.lst vs) ∧ Rps K F H ds vs
  | .scr ds, v => ∃ a vs, v = .ref a ∧ ((F a ∧ Rd H a (.lst vs)) ∨ SqLK K a vs) ∧ Rps K F H ds vs
  | .dK ks ds, v => ∃ a vs, v = .ref a ∧ F a ∧ H a = some (.dK (ks.zip vs)) ∧ ks.length = ds.length ∧ Rps K F H ds vs
def Rps (K : PySem.W.Frag) (F : Fz) (H : Hp) : List D → List V → Prop
  | [], vs => vs = []
  | d :: ds, vs => ∃ v r, vs = v :: r ∧ Rp K F H d v ∧ Rps K F H ds r
end

/-- the world grows: what is frozen stays frozen and as it is -/
structure Ext (F : Fz) (H : Hp) (F' : Fz) (H' : Hp) : Prop where
  f : ∀ a, F a → F' a
  h : ∀ a o, F a → H a = some o → H' a = some o
section
variable {K : PySem.W.Frag} {F F' F'' : Fz} {H H' H'' : Hp}
theorem Ext.refl : Ext F H F H := ⟨fun _ h => h, fun _ _ _ h => h⟩
theorem Ext.trans (a : Ext F H F' H') (b : Ext F' H' F'' H'') : Ext F H F'' H'' := ⟨fun c h => b.f c (a.f c h), fun c o hf h => b.h c o (a.f c hf) (a.h c o hf h)⟩
theorem Ext.rd {a : Addr} {o : HO} (e : Ext F H F' H') (hf : F a) (r : Rd H a o) : Rd H' a o := by
  rcases r with r | ⟨u, r⟩
  · exact .inl (e.h _ _ hf r)
  · exact .inr ⟨u, e.h _ _ hf r⟩
mutual
theorem Rp.ext (e : Ext F H F' H') : ∀ (d : D) (v : V), Rp K F H d v → Rp K F' H' d v
  | .non, _, h => h
  | .bl _, _, h => h
  | .int _, _, h => h
  | .str _, _, h => h
  | .tup ds, v, h => by
    obtain ⟨a, vs, rfl, h1, h2⟩ := h
    refine ⟨a, vs, rfl, ?_, Rps.ext e ds vs h2⟩
    rcases h1 with ⟨hf, hr⟩ | h1
    · exact .inl ⟨e.f _ hf, e.rd hf hr⟩
    · exact .inr h1
  | .lst ds, v, h => by
    obtain ⟨a, vs, rfl, hf, h1, h2⟩ := h
    exact ⟨a, vs, rfl, e.f _ hf, e.h _ _ hf h1, Rps.ext e ds vs h2⟩
  | .scr ds, v, h => by
    obtain ⟨a, vs, rfl, h1, h2⟩ := h
    refine ⟨a, vs, rfl, ?_, Rps.ext e ds vs h2⟩
    rcases h1 with ⟨hf, hr⟩ | h1
    · exact .inl ⟨e.f _ hf, e.rd hf hr⟩
    · exact .inr h1
  | .dK ks ds, v, h => by
    obtain ⟨a, vs, rfl, hf, h1, hl, h2⟩ := h
    exact ⟨a, vs, rfl, e.f _ hf, e.h _ _ hf h1, hl, Rps.ext e ds vs h2⟩
theorem Rps.ext (e : Ext F H F' H') : ∀ (ds : List D) (vs : List V), Rps K F H ds vs → Rps K F' H' ds vs
  | [], _, h => h
  | d :: ds, _, h => by
    obtain ⟨v, r, rfl, h1, h2⟩ := h
    exact ⟨v, r, rfl, Rp.ext e d v h1, Rps.ext e ds r h2⟩
end
theorem Rps.length : ∀ {ds : List D} {vs : List V}, Rps K F H ds vs → vs.length = ds.length
  | [], _, h => by have h : _ = [] := h; subst h; rfl
  | d :: ds, _, h => by
    obtain ⟨v, r, rfl, _, h2⟩ := h
    simp [Rps.length h2]
theorem Rps.nil : Rps K F H [] [] := rfl
theorem Rps.cons {d : D} {v : V} {ds : List D} {vs : List V} (h : Rp K F H d v) (h2 : Rps K F H ds vs) : Rps K F H (d :: ds) (v :: vs) := ⟨v, vs, rfl, h, h2⟩
theorem Rps.get : ∀ {ds : List D} {vs : List V} {i : Nat} {d : D}, Rps K F H ds vs → ds[i]? = some d → ∃ v, vs[i]? = some v ∧ Rp K F H d v
  | [], _, _, _, _, e => by simp at e
  | x :: ds, _, 0, d, h, e => by
    obtain ⟨v, r, rfl, h1, h2⟩ := h
    simp at e
    subst e
    exact ⟨v, rfl, h1⟩
  | x :: ds, _, i + 1, d, h, e => by
    obtain ⟨v, r, rfl, h1, h2⟩ := h
    obtain ⟨w, a, b⟩ := Rps.get (i := i) h2 (by simpa using e)
    exact ⟨w, by simpa using a, b⟩
theorem Rps.getV : ∀ {ds : List D} {vs : List V} {i : Nat} {v : V}, Rps K F H ds vs → vs[i]? = some v → ∃ d, ds[i]? = some d ∧ Rp K F H d v
  | [], _, _, _, h, e => by have h : _ = [] := h; subst h; simp at e
  | x :: ds, _, 0, d, h, e => by
    obtain ⟨v, r, rfl, h1, h2⟩ := h
    simp at e
    subst e
    exact ⟨x, rfl, h1⟩
  | x :: ds, _, i + 1, d, h, e => by
    obtain ⟨v, r, rfl, h1, h2⟩ := h
    obtain ⟨w, a, b⟩ := Rps.getV (i := i) h2 (by simpa using e)
    exact ⟨w, by simpa using a, b⟩
theorem Rps.append : ∀ {ds es : List D} {vs ws : List V}, Rps K F H ds vs → Rps K F H es ws → Rps K F H (ds ++ es) (vs ++ ws)
  | [], _, _, _, h, h' => by have h : _ = [] := h; subst h; exact h'
  | d :: ds, _, _, _, h, h' => by
    obtain ⟨v, r, rfl, h1, h2⟩ := h
    exact ⟨v, _, rfl, h1, Rps.append h2 h'⟩
theorem Rps.take : ∀ {ds : List D} {vs : List V} (n : Nat), Rps K F H ds vs → Rps K F H (ds.take n) (vs.take n)
  | [], _, n, h => by have h : _ = [] := h; subst h; simp [Rps]
  | d :: ds, _, 0, h => by simp [Rps]
  | d :: ds, _, n + 1, h => by
    obtain ⟨v, r, rfl, h1, h2⟩ := h
    exact ⟨v, r.take n, by simp, h1, Rps.take n h2⟩
theorem Rps.drop : ∀ {ds : List D} {vs : List V} (n : Nat), Rps K F H ds vs → Rps K F H (ds.drop n) (vs.drop n)
  | [], _, n, h => by have h : _ = [] := h; subst h; simp [Rps]
  | d :: ds, _, 0, h => by simpa using h
  | d :: ds, _, n + 1, h => by
    obtain ⟨v, r, rfl, h1, h2⟩ := h
    simpa using Rps.drop n h2
theorem Rps.set : ∀ {ds : List D} {vs : List V} (i : Nat) {d : D} {v : V}, Rps K F H ds vs → Rp K F H d v → Rps K F H (ds.set i d) (vs.set i v)
  | [], _, _, _, _, h, _ => by have h : _ = [] := h; subst h; exact rfl
  | x :: ds, _, 0, d, w, h, hw => by
    obtain ⟨v, r, rfl, h1, h2⟩ := h
    exact ⟨w, r, rfl, hw, h2⟩
  | x :: ds, _, i + 1, d, w, h, hw => by
    obtain ⟨v, r, rfl, h1, h2⟩ := h
    exact ⟨v, _, rfl, h1, Rps.set i h2 hw⟩
theorem Rps.reverse {ds : List D} {vs : List V} (h : Rps K F H ds vs) : Rps K F H ds.reverse vs.reverse := by
  induction ds generalizing vs with
  | nil => have h : _ = [] := h; subst h; exact rfl
  | cons d ds ih =>
    obtain ⟨v, r, rfl, h1, h2⟩ := h
    simp only [List.reverse_cons]
    exact (ih h2).append (Rps.cons h1 rfl)
theorem Rps.eraseIdx : ∀ {ds : List D} {vs : List V} (i : Nat), Rps K F H ds vs → Rps K F H (ds.eraseIdx i) (vs.eraseIdx i)
  | [], _, _, h => by have h : _ = [] := h; subst h; exact rfl
  | d :: ds, _, 0, h => by
    obtain ⟨v, r, rfl, h1, h2⟩ := h
    exact h2
  | d :: ds, _, i + 1, h => by
    obtain ⟨v, r, rfl, h1, h2⟩ := h
    exact ⟨v, _, rfl, h1, Rps.eraseIdx i h2⟩
theorem Rps.dropLast {ds : List D} {vs : List V} (h : Rps K F H ds vs) : Rps K F H ds.dropLast vs.dropLast := by
  rw [List.dropLast_eq_take, List.dropLast_eq_take, h.length]
  exact h.take _
theorem Rps.ints {ns : List Int} {vs : List V} (h : Rps K F H (ns.map D.int) vs) : vs = ns.map V.int := by
  induction ns generalizing vs with
  | nil => exact h
  | cons n ns ih =>
    obtain ⟨v, r, rfl, h1, h2⟩ := h
    have h1 : v = .int n := h1
    rw [h1, ih h2]; rfl
theorem Rps.of_ints {ns : List Int} : Rps K F H (ns.map D.int) (ns.map V.int) := by
  induction ns with
  | nil => exact rfl
  | cons n ns ih => exact ⟨_, _, rfl, rfl, ih⟩
theorem Rps.strs {ns : List Str} {vs : List V} (h : Rps K F H (ns.map D.str) vs) : vs = ns.map V.str := by
  induction ns generalizing vs with
  | nil => exact h
  | cons n ns ih =>
    obtain ⟨v, r, rfl, h1, h2⟩ := h
    have h1 : v = .str n := h1
    rw [h1, ih h2]; rfl
theorem Rps.of_strs {ns : List Str} : Rps K F H (ns.map D.str) (ns.map V.str) := by
  induction ns with
  | nil => exact rfl
  | cons n ns ih => exact ⟨_, _, rfl, rfl, ih⟩
theorem Rps.bls {ns : List Bool} {vs : List V} (h : Rps K F H (ns.map D.bl) vs) : vs = ns.map V.bl := by
  induction ns generalizing vs with
  | nil => exact h
  | cons n ns ih =>
    obtain ⟨v, r, rfl, h1, h2⟩ := h
    have h1 : v = .bl n := h1
    rw [h1, ih h2]; rfl
/-- the content of a container that is owned -/
def Ow (K : PySem.W.Frag) (F : Fz) (H : Hp) (a : Addr) : D → Prop
  | .lst ds => ∃ vs, H a = some (.lst vs) ∧ Rps K F H ds vs
  | .dK ks ds => ∃ vs, H a = some (.dK (ks.zip vs)) ∧ ks.length = ds.length ∧ Rps K F H ds vs
  | _ => False
theorem Ow.there {a : Addr} {d : D} (h : Ow K F H a d) : ∃ o, H a = some o := by
  cases d <;> first | exact False.elim h | (obtain ⟨vs, e, _⟩ := h; exact ⟨_, e⟩)
theorem Ow.ext {a : Addr} {d : D} (h : Ow K F H a d) (e : Ext F H F' H') (ha : ∀ o, H a = some o → H' a = some o) : Ow K F' H' a d := by
  cases d with
  | lst ds => obtain ⟨vs, q, r⟩ := h; exact ⟨vs, ha _ q, Rps.ext e _ _ r⟩
  | dK ks ds => obtain ⟨vs, q, hl, r⟩ := h; exact ⟨vs, ha _ q, hl, Rps.ext e _ _ r⟩
  | _ => exact False.elim h
/-- frozen: the container's address is put into F -/
theorem Ow.freeze {a : Addr} {d : D} (h : Ow K F H a d) : Rp K (fun b => F b ∨ b = a) H d (.ref a) := by
  have e : Ext F H (fun b => F b ∨ b = a) H := ⟨fun _ x => .inl x, fun _ _ _ x => x⟩
  cases d with
  | lst ds => obtain ⟨vs, q, r⟩ := h; exact ⟨a, vs, rfl, .inr rfl, q, Rps.ext e _ _ r⟩
  | dK ks ds => obtain ⟨vs, q, hl, r⟩ := h; exact ⟨a, vs, rfl, .inr rfl, q, hl, Rps.ext e _ _ r⟩
  | _ => exact False.elim h
end

/-! ### slots, the environment -/
inductive Sl where
  | un | fz (d : D) | ow (b : Bool) (d : D)
abbrev En := List Sl
def Own (σ : L2.St) (env : En) (a : Addr) : Prop := ∃ (i : Nat) (b : Bool) (d : D), env[i]? = some (.ow b d) ∧ σ[i]? = some (some (.ref a))
structure EnvOk (K : PySem.W.Frag) (F : Fz) (H : Hp) (σ : L2.St) (env : En) : Prop where
  len : σ.length = env.length
  fz : ∀ (i : Nat) (d : D), env[i]? = some (.fz d) → ∃ v, σ[i]? = some (some v) ∧ Rp K F H d v
  ow : ∀ (i : Nat) (b : Bool) (d : D), env[i]? = some (.ow b d) → ∃ a, σ[i]? = some (some (.ref a)) ∧ ¬F a ∧ Ow K F H a d
  ne : ∀ (i j : Nat) (b b' : Bool) (d d' : D) (a : Addr), env[i]? = some (.ow b d) → env[j]? = some (.ow b' d') → σ[i]? = some (some (.ref a)) → σ[j]? = some (some (.ref a)) → i = j
  tr : ∀ a, F a → ∃ o, H a = some o
structure Stp (F : Fz) (H : Hp) (σ : L2.St) (env : En) (F' : Fz) (H' : Hp) (σ' : L2.St) (env' : En) : Prop where
  fr : ∀ a o, H a = some o → ¬Own σ env a → H' a = some o
  f1 : ∀ a, F a → F' a
  f2 : ∀ a, F' a → F a ∨ H a = none ∨ Own σ env a
  ow : ∀ a, Own σ' env' a → Own σ env a ∨ H a = none
  dm : ∀ a o, H a = some o → ∃ o', H' a = some o'
  kp : ∀ (i : Nat) (d : D), env[i]? = some (.ow true d) → σ'[i]? = σ[i]? ∧ ∃ d', env'[i]? = some (.ow true d')
  ln : env'.length = env.length
section
variable {K : PySem.W.Frag} {F F' F'' : Fz} {H H' H'' : Hp} {σ σ' σ'' : L2.St} {env env' env'' : En}
theorem EnvOk.own_nf (e : EnvOk K F H σ env) {a : Addr} (o : Own σ env a) : ¬F a := by
  obtain ⟨i, b, d, h1, h2⟩ := o
  obtain ⟨a', q, nf, _⟩ := e.ow i b d h1
  rw [h2] at q
  cases q
  exact nf
theorem EnvOk.own_tr (e : EnvOk K F H σ env) {a : Addr} (o : Own σ env a) : ∃ o, H a = some o := by
  obtain ⟨i, b, d, h1, h2⟩ := o
  obtain ⟨a', q, nf, w⟩ := e.ow i b d h1
  rw [h2] at q
  cases q
  exact w.there
theorem Stp.refl : Stp F H σ env F H σ env := ⟨fun _ _ h _ => h, fun _ h => h, fun _ h => .inl h, fun _ h => .inl h, fun _ o h => ⟨o, h⟩, fun _ d h => ⟨rfl, d, h⟩, rfl⟩
theorem none_of_dm {a : Addr} (d : ∀ a o, H a = some o → ∃ o', H' a = some o') (h : H' a = none) : H a = none := by
  cases q : H a with
  | none => rfl
  | some o =>
    obtain ⟨o', z⟩ := d a o q
    rw [h] at z
    cases z
theorem Stp.trans (a : Stp F H σ env F' H' σ' env') (b : Stp F' H' σ' env' F'' H'' σ'' env'') : Stp F H σ env F'' H'' σ'' env'' where
  fr := fun c o h n => b.fr c o (a.fr c o h n) fun z => by
    rcases a.ow c z with z | z
    · exact n z
    · rw [h] at z; cases z
  f1 := fun c h => b.f1 c (a.f1 c h)
  f2 := fun c h => by
    rcases b.f2 c h with z | z | z
    · exact a.f2 c z
    · exact .inr (.inl (none_of_dm a.dm z))
    · rcases a.ow c z with z | z
      · exact .inr (.inr z)
      · exact .inr (.inl z)
  ow := fun c h => by
    rcases b.ow c h with z | z
    · exact a.ow c z
    · exact .inr (none_of_dm a.dm z)
  dm := fun c o h => let ⟨o', z⟩ := a.dm c o h; b.dm c o' z
  kp := fun i d h => by
    obtain ⟨e1, d', h'⟩ := a.kp i d h
    obtain ⟨e2, d'', h''⟩ := b.kp i d' h'
    exact ⟨e2.trans e1, d'', h''⟩
  ln := b.ln.trans a.ln
theorem Stp.ext (e : EnvOk K F H σ env) (s : Stp F H σ env F' H' σ' env') : Ext F H F' H' := ⟨s.f1, fun a o hf h => s.fr a o h fun z => e.own_nf z hf⟩
end

/-! ### temporary values -/
inductive T where
  | fz (d : D) | new (d : D) | at (i : Nat)
/-- H0: the heap at the expression's start -/
def TR (K : PySem.W.Frag) (H0 : Hp) (F : Fz) (H : Hp) (σ : L2.St) (env : En) : T → V → Prop
  | .fz d, v => Rp K F H d v
  | .at i, v => σ[i]? = some (some v)
  | .new d, v => ∃ a, v = .ref a ∧ ¬F a ∧ Ow K F H a d ∧ ¬Own σ env a ∧ H0 a = none
section
variable {K : PySem.W.Frag} {F F' F'' : Fz} {H H' H'' H0 : Hp} {σ : L2.St} {env env' env'' : En} {t : T} {v : V}
/-- a temporary value stands while more is reckoned -/
theorem TR.carry (h : TR K H0 F H σ env t v) (e : EnvOk K F H σ env) (s : Stp F H σ env F' H' σ env') : TR K H0 F' H' σ env' t v := by
  cases t with
  | fz d => exact Rp.ext (s.ext e) d v h
  | «at» i => exact h
  | new d =>
    obtain ⟨a, rfl, nf, w, no, f0⟩ := h
    obtain ⟨o, ho⟩ := w.there
    refine ⟨a, rfl, fun z => ?_, w.ext (s.ext e) (fun o q => s.fr a o q no), fun z => ?_, f0⟩
    · rcases s.f2 a z with z | z | z
      · exact nf z
      · rw [ho] at z; cases z
      · exact no z
    · rcases s.ow a z with z | z
      · exact no z
      · rw [ho] at z; cases z
/-- from a later start to an earlier one -/
theorem TR.since (h : TR K H' F'' H'' σ env'' t v) (dm : ∀ a o, H a = some o → ∃ o', H' a = some o') : TR K H F'' H'' σ env'' t v := by
  cases t with
  | fz d => exact h
  | «at» i => exact h
  | new d =>
    obtain ⟨a, rfl, nf, w, no, f0⟩ := h
    exact ⟨a, rfl, nf, w, no, none_of_dm dm f0⟩
theorem Rp.tupOf {K : PySem.W.Frag} {F : Fz} {H : Hp} {ds : List D} {v : V} (h : Rp K F H (.tup ds) v) : ∃ a vs, v = .ref a ∧ SqT K H a vs ∧ Rps K F H ds vs :=
  let ⟨a, vs, e, h, r⟩ := h; ⟨a, vs, e, h.elim (fun z => .inl z.2) .inr, r⟩
theorem Rp.scrOf {K : PySem.W.Frag} {F : Fz} {H : Hp} {ds : List D} {v : V} (h : Rp K F H (.scr ds) v) : ∃ a vs, v = .ref a ∧ SqL K H a vs ∧ Rps K F H ds vs :=
  let ⟨a, vs, e, h, r⟩ := h; ⟨a, vs, e, h.elim (fun z => .inl z.2) .inr, r⟩
/-- what may be read of a value: the object itself need not be frozen -/
def Pk (K : PySem.W.Frag) (F : Fz) (H : Hp) : D → V → Prop
  | .lst ds, v => ∃ a vs, v = .ref a ∧ H a = some (.lst vs) ∧ Rps K F H ds vs
  | .dK ks ds, v => ∃ a vs, v = .ref a ∧ H a = some (.dK (ks.zip vs)) ∧ ks.length = ds.length ∧ Rps K F H ds vs
  | d, v => Rp K F H d v
theorem Rp.pk : ∀ {d : D} {v : V}, Rp K F H d v → Pk K F H d v
  | .non, _, h => h
  | .bl _, _, h => h
  | .int _, _, h => h
  | .str _, _, h => h
  | .tup _, _, h => h
  | .lst _, _, ⟨a, vs, e, _, h, r⟩ => ⟨a, vs, e, h, r⟩
  | .scr _, _, h => h
  | .dK _ _, _, ⟨a, vs, e, _, h, l, r⟩ => ⟨a, vs, e, h, l, r⟩
theorem Ow.pk {a : Addr} {d : D} (h : Ow K F H a d) : Pk K F H d (.ref a) := by
  cases d with
  | lst ds => obtain ⟨vs, q, r⟩ := h; exact ⟨a, vs, rfl, q, r⟩
  | dK ks ds => obtain ⟨vs, q, r⟩ := h; exact ⟨a, vs, rfl, q, r⟩
  | _ => exact False.elim h
/-- the content of a temporary value -/
def peek (env : En) : T → Option D
  | .fz d => some d
  | .new d => some d
  | .at i => match env[i]? with
    | some (.fz d) => some d
    | some (.ow _ d) => some d
    | _ => none
theorem TR.pk {d : D} (h : TR K H0 F H σ env t v) (e : EnvOk K F H σ env) (p : peek env t = some d) : Pk K F H d v := by
  cases t with
  | fz d' => cases p; exact Rp.pk h
  | new d' =>
    cases p
    obtain ⟨a, rfl, nf, w, no, f0⟩ := h
    exact w.pk
  | «at» i =>
    unfold peek at p
    cases q : env[i]? with
    | none => simp [q] at p
    | some s =>
      cases s with
      | un => simp [q] at p
      | fz d' =>
        simp [q] at p
        subst p
        obtain ⟨v', h1, h2⟩ := e.fz i d' q
        have h : σ[i]? = some (some v) := h
        rw [h] at h1
        cases h1
        exact h2.pk
      | ow b d' =>
        simp [q] at p
        subst p
        obtain ⟨a, h1, _, h2⟩ := e.ow i b d' q
        have h : σ[i]? = some (some v) := h
        rw [h] at h1
        cases h1
        exact h2.pk
/-- a value that will be kept: owned things are frozen -/
def freeze (env : En) : T → Option (D × En)
  | .fz d => some (d, env)
  | .new d => some (d, env)
  | .at i => match env[i]? with
    | some (.fz d) => some (d, env)
    | some (.ow false d) => some (d, env.set i (.fz d))
    | _ => none
theorem freeze_len {t : T} {d : D} {env env' : En} (p : freeze env t = some (d, env')) : env'.length = env.length := by
  cases t with
  | fz d' => cases p; rfl
  | new d' => cases p; rfl
  | «at» i =>
    change (match env[i]? with
      | some (.fz d) => some (d, env)
      | some (.ow false d) => some (d, env.set i (.fz d))
      | _ => none) = _ at p
    split at p
    · cases p; rfl
    · cases p; simp
    · cases p
/-- a container is frozen where no slot owns it -/
theorem frz_un {a : Addr} (e : EnvOk K F H σ env) (no : ¬Own σ env a) (ht : ∃ o, H a = some o) : EnvOk K (fun b => F b ∨ b = a) H σ env := by
  have x : Ext F H (fun b => F b ∨ b = a) H := ⟨fun _ x => .inl x, fun _ _ _ x => x⟩
  refine ⟨e.len, fun i d q => ?_, fun i b d q => ?_, e.ne, fun b q => ?_⟩
  · obtain ⟨v, h1, h2⟩ := e.fz i d q
    exact ⟨v, h1, Rp.ext x d v h2⟩
  · obtain ⟨a', h1, h2, h3⟩ := e.ow i b d q
    refine ⟨a', h1, fun z => ?_, h3.ext x (fun _ z => z)⟩
    rcases z with z | z
    · exact h2 z
    · subst z
      exact no ⟨i, b, d, q, h1⟩
  · rcases q with q | q
    · exact e.tr b q
    · subst q; exact ht
theorem TR.freeze {d : D} (h : TR K H0 F H σ env t v) (e : EnvOk K F H σ env) (dm : ∀ a o, H0 a = some o → ∃ o', H a = some o') (p : freeze env t = some (d, env')) :
    ∃ F', EnvOk K F' H σ env' ∧ (∀ a, F a → F' a) ∧ (∀ a, F' a → F a ∨ H0 a = none ∨ Own σ env a) ∧ (∀ a, Own σ env' a → Own σ env a) ∧ (∀ (i : Nat) (d : D), env[i]? = some (.ow true d) → env'[i]? = some (.ow true d)) ∧ Rp K F' H d v := by
  cases t with
  | fz d' => cases p; exact ⟨F, e, fun _ z => z, fun _ z => .inl z, fun _ z => z, fun _ _ z => z, h⟩
  | new d' =>
    cases p
    obtain ⟨a, rfl, nf, w, no, f0⟩ := h
    exact ⟨_, frz_un e no w.there, fun _ z => .inl z, fun b z => z.elim .inl fun z => .inr (.inl (by rw [z]; exact f0)), fun _ z => z, fun _ _ z => z, w.freeze⟩
  | «at» i =>
    have hs : σ[i]? = some (some v) := h
    change (match env[i]? with
      | some (.fz d) => some (d, env)
      | some (.ow false d) => some (d, env.set i (.fz d))
      | _ => none) = _ at p
    split at p
    · rename_i d' q
      cases p
      obtain ⟨v', h1, h2⟩ := e.fz i _ q
      rw [hs] at h1
      cases h1
      exact ⟨F, e, fun _ z => z, fun _ z => .inl z, fun _ z => z, fun _ _ z => z, h2⟩
    · rename_i d' q
      cases p
      obtain ⟨a, h1, nf, w⟩ := e.ow i false _ q
      rw [hs] at h1
      cases h1
      have hi : i < env.length := (List.getElem?_eq_some_iff.mp q).1
      have own_sub : ∀ b, Own σ (env.set i (.fz d)) b → Own σ env b ∧ b ≠ a := by
        rintro b ⟨j, c, d2, h2, h3⟩
        by_cases hj : j = i
        · subst hj
          rw [List.getElem?_set_self hi] at h2
          cases h2
        · rw [List.getElem?_set_ne (Ne.symm hj)] at h2
          refine ⟨⟨j, c, d2, h2, h3⟩, fun z => ?_⟩
          subst z
          exact hj (e.ne j i _ _ _ _ _ h2 q h3 hs)
      have x : Ext F H (fun b => F b ∨ b = a) H := ⟨fun _ x => .inl x, fun _ _ _ x => x⟩
      refine ⟨fun b => F b ∨ b = a, ⟨by simpa using e.len, fun j d2 q2 => ?_, fun j b d2 q2 => ?_, fun j k b b' d2 d3 a' q2 q3 => ?_, fun b z => ?_⟩, fun _ z => .inl z, fun b z => z.elim .inl fun z => .inr (.inr (by rw [z]; exact ⟨i, _, _, q, hs⟩)),
        fun b z => (own_sub b z).1, fun j d2 q2 => ?_, w.freeze⟩
      · by_cases hj : j = i
        · subst hj
          rw [List.getElem?_set_self hi] at q2
          cases q2
          exact ⟨_, hs, w.freeze⟩
        · rw [List.getElem?_set_ne (Ne.symm hj)] at q2
          obtain ⟨v', z1, z2⟩ := e.fz j d2 q2
          exact ⟨v', z1, Rp.ext x _ _ z2⟩
      · by_cases hj : j = i
        · subst hj
          rw [List.getElem?_set_self hi] at q2
          cases q2
        · have q2' := q2
          rw [List.getElem?_set_ne (Ne.symm hj)] at q2'
          obtain ⟨a', z1, z2, z3⟩ := e.ow j b d2 q2'
          refine ⟨a', z1, fun z => ?_, z3.ext x (fun _ z => z)⟩
          rcases z with z | z
          · exact z2 z
          · exact (own_sub a' ⟨j, b, d2, q2, z1⟩).2 z
      · intro s1 s2
        have l1 : ∀ {m : Nat} {c : Bool} {d4 : D}, (env.set i (.fz d))[m]? = some (.ow c d4) → env[m]? = some (.ow c d4) := fun {m c d4} z => by
          by_cases hm : m = i
          · subst hm
            rw [List.getElem?_set_self hi] at z
            cases z
          · rwa [List.getElem?_set_ne (Ne.symm hm)] at z
        exact e.ne j k _ _ _ _ a' (l1 q2) (l1 q3) s1 s2
      · rcases z with z | z
        · exact e.tr b z
        · subst z; exact w.there
      · have hj : j ≠ i := fun z => by subst z; rw [q] at q2; cases q2
        rw [List.getElem?_set_ne (Ne.symm hj)]
        exact q2
    · cases p
end
end Dl
namespace Dl
open PySem PySem.Spec PyProof.Rows L2

/-! ### results -/
structure Exn where
  c : Str
  fs : List (Str × Int)
inductive R (α : Type) where
  | ok (a : α) (env : En) | ex (x : Exn) (env : En) | no
def R.bind {α β : Type} (r : R α) (f : α → En → R β) : R β := match r with
  | .ok a e => f a e
  | .ex x e => .ex x e
  | .no => .no
def opt {α : Type} (o : Option (α × En)) : R α := match o with
  | some (a, e) => .ok a e
  | none => .no
def ExR (mg : Str → Option Value) (H : Hp) (x : Exn) (cls : Value) (d : Option Addr) : Prop :=
  mg x.c = some cls ∧ match x.fs with
    | [] => d = none
    | p :: fs => ∃ dx, d = some dx ∧ H dx = some (.xd ((p :: fs).map fun p => (p.1, V.int p.2)))
abbrev Rel (α β : Type) := Hp → Fz → Hp → L2.St → En → α → β → Prop
def fin {α β : Type} (X : Cx) (W : WX) (rel : Rel α β) (F : Fz) (H : Hp) (σ : L2.St) (env : En) (r : R α) (Q : β → Hp → Prop) : Prop := match r with
  | .ok a env' => ∀ F' H' b, EnvOk X.K F' H' σ env' → Stp F H σ env F' H' σ env' → rel H F' H' σ env' a b → Q b H'
  | .ex x env' => ∀ F' H' cls d, EnvOk X.K F' H' σ env' → Stp F H σ env F' H' σ env' → ExR X.mg H' x cls d → W cls d σ H'
  | .no => False
class Since {α β : Type} (rel : Rel α β) : Prop where
  since : ∀ {H H' F'' H'' σ env'' a b}, rel H' F'' H'' σ env'' a b → (∀ a o, H a = some o → ∃ o', H' a = some o') → rel H F'' H'' σ env'' a b
abbrev relT (K : PySem.W.Frag) : Rel T V := fun H F' H' σ env' t v => TR K H F' H' σ env' t v
abbrev relB : Rel Bool Bool := fun _ _ _ _ _ a b => a = b
instance {K} : Since (relT K) := ⟨fun h d => TR.since h d⟩
instance : Since relB := ⟨fun h _ => h⟩
section
variable {X : Cx} {W : WX} {α β γ δ : Type} {rel : Rel α β} {relA : Rel γ δ} {F F1 : Fz} {H H1 : Hp} {σ : L2.St} {env env1 : En} {Q : β → Hp → Prop}
theorem fin.shift [Since rel] {r : R α} (h : fin X W rel F H σ env r Q) (s : Stp F H σ env F1 H1 σ env1) : fin X W rel F1 H1 σ env1 r Q := by
  cases r with
  | ok a env' => exact fun F' H' b e s2 q => h F' H' b e (s.trans s2) (Since.since q s.dm)
  | ex x env' => exact fun F' H' cls d e s2 q => h F' H' cls d e (s.trans s2) q
  | no => exact h
theorem fin.seq [Since rel] {r : R γ} {g : γ → En → R α} (h : fin X W rel F H σ env (r.bind g) Q) {Q1 : δ → Hp → Prop}
    (k : ∀ F1 H1 a c env1, EnvOk X.K F1 H1 σ env1 → Stp F H σ env F1 H1 σ env1 → relA H F1 H1 σ env1 a c → fin X W rel F1 H1 σ env1 (g a env1) Q → Q1 c H1) : fin X W relA F H σ env r Q1 := by
  cases r with
  | ok a env' => exact fun F' H' b e s q => k F' H' a b env' e s q (fin.shift (show fin X W rel F H σ env (g a env') Q from h) s)
  | ex x env' => exact h
  | no => exact h
theorem fin.imp {r : R α} {Q' : β → Hp → Prop} (h : fin X W rel F H σ env r Q) (k : ∀ b H, Q b H → Q' b H) : fin X W rel F H σ env r Q' := by
  cases r with
  | ok a env' => exact fun F' H' b e s q => k _ _ (h F' H' b e s q)
  | ex x env' => exact h
  | no => exact h
end

/-! ### expressions -/
abbrev Ev := En → R T
abbrev Et := En → R Bool
def tE (X : Cx) (W : WX) (f : Ev) : TE := fun σ H Q => ∃ F env, EnvOk X.K F H σ env ∧ fin X W (relT X.K) F H σ env (f env) Q
def tB (X : Cx) (W : WX) (f : Et) : TT := fun σ H Q => ∃ F env, EnvOk X.K F H σ env ∧ fin X W relB F H σ env (f env) Q
/-- the expression e is worth f -/
abbrev JE (X : Cx) (W : WX) (e : Expr) (f : Ev) : Prop := PE X e (tE X W f)
abbrev JT (X : Cx) (W : WX) (e : Expr) (f : Et) : Prop := PT X e (tB X W f)

theorem PE.imp {X : Cx} {e : Expr} {t t' : TE} (h : PE X e t) (k : ∀ σ H Q, t' σ H Q → t σ H Q) : PE X e t' := ⟨fun pins s σ H Q I q => h.run pins s σ H Q I (k σ H Q q)⟩
theorem PT.imp {X : Cx} {e : Expr} {t t' : TT} (h : PT X e t) (k : ∀ σ H Q, t' σ H Q → t σ H Q) : PT X e t' := ⟨fun pins s σ H Q I q => h.run pins s σ H Q I (k σ H Q q)⟩
theorem PW.imp {X : Cx} {e : Expr} {t t' : TT} (h : PW X e t) (k : ∀ σ H Q, t' σ H Q → t σ H Q) : PW X e t' := ⟨fun wh pins s σ H Q I q => h.run wh pins s σ H Q I (k σ H Q q)⟩
theorem PS.imp {X : Cx} {e : Stmt} {t t' : TS} (h : PS X e t) (k : ∀ D σ H, t' D σ H → t D σ H) : PS X e t' := ⟨fun pins s σ H D I q => h.run pins s σ H D I (k D σ H q)⟩
theorem PSs.imp {X : Cx} {e : List Stmt} {t t' : TS} (h : PSs X e t) (k : ∀ D σ H, t' D σ H → t D σ H) : PSs X e t' := ⟨fun pins s σ H D I q => h.run pins s σ H D I (k D σ H q)⟩
theorem PA.imp {X : Cx} {es : List Expr} {t t' : TA} (h : PA X es t) (k : ∀ σ H Q, t' σ H Q → t σ H Q) : PA X es t' := ⟨fun pos pins s σ H Q I q => h.run pos pins s σ H Q I (k σ H Q q)⟩

section
variable {X : Cx} {W : WX} {F : Fz} {H : Hp} {σ : L2.St} {env : En} {Q : VK}
/-- the value stands already -/
theorem fin.val {t : T} {v : V} (h : fin X W (relT X.K) F H σ env (.ok t env) Q) (e : EnvOk X.K F H σ env) (q : TR X.K H F H σ env t v) : Q v H := h F H v e Stp.refl q
theorem fin.bl {b : Bool} {Q : Bool → Hp → Prop} (h : fin X W relB F H σ env (.ok b env) Q) (e : EnvOk X.K F H σ env) : Q b H := h F H b e Stp.refl rfl
/-- a new object is laid -/
theorem EnvOk.laid {p : Addr} {o : HO} (e : EnvOk X.K F H σ env) (hp : H p = none) : EnvOk X.K F (upd H p o) σ env := by
  have x : Ext F H F (upd H p o) := ⟨fun _ z => z, fun a u hf z => by rw [upd_ne (ne_of_none z hp)]; exact z⟩
  refine ⟨e.len, fun i d q => ?_, fun i b d q => ?_, e.ne, fun a z => ?_⟩
  · obtain ⟨v, h1, h2⟩ := e.fz i d q
    exact ⟨v, h1, Rp.ext x d v h2⟩
  · obtain ⟨a, h1, h2, h3⟩ := e.ow i b d q
    exact ⟨a, h1, h2, h3.ext x (fun u z => by rw [upd_ne (ne_of_none z hp)]; exact z)⟩
  · obtain ⟨u, z⟩ := e.tr a z
    exact ⟨u, by rw [upd_ne (ne_of_none z hp)]; exact z⟩
theorem Stp.laid {p : Addr} {o : HO} (hp : H p = none) : Stp F H σ env F (upd H p o) σ env :=
  ⟨fun a u z _ => by rw [upd_ne (ne_of_none z hp)]; exact z, fun _ z => z, fun _ z => .inl z, fun _ z => .inl z, fun a u z => ⟨u, by rw [upd_ne (ne_of_none z hp)]; exact z⟩, fun _ d z => ⟨rfl, d, z⟩, rfl⟩
theorem Stp.laidF {p : Addr} {o : HO} (hp : H p = none) : Stp F H σ env (fun b => F b ∨ b = p) (upd H p o) σ env :=
  ⟨fun a u z _ => by rw [upd_ne (ne_of_none z hp)]; exact z, fun _ z => .inl z, fun _ z => z.elim .inl fun z => .inr (.inl (by rw [z]; exact hp)), fun _ z => .inl z, fun a u z => ⟨u, by rw [upd_ne (ne_of_none z hp)]; exact z⟩, fun _ d z => ⟨rfl, d, z⟩, rfl⟩
theorem EnvOk.notOwn {p : Addr} (e : EnvOk X.K F H σ env) (hp : H p = none) : ¬Own σ env p := fun z => by
  obtain ⟨o, q⟩ := e.own_tr z
  rw [hp] at q; cases q
theorem EnvOk.notF {p : Addr} (e : EnvOk X.K F H σ env) (hp : H p = none) : ¬F p := fun z => by
  obtain ⟨o, q⟩ := e.tr p z
  rw [hp] at q; cases q
/-- the value is a new tuple -/
theorem fin.tup {ds : List D} {vs : List V} {p : Addr} (h : fin X W (relT X.K) F H σ env (.ok (.fz (.tup ds)) env) Q) (e : EnvOk X.K F H σ env) (r : Rps X.K F H ds vs) (hp : H p = none) : Q (.ref p) (upd H p (.tup vs)) := by
  have x : Ext F H (fun b => F b ∨ b = p) (upd H p (.tup vs)) := ⟨fun _ z => .inl z, fun a u hf z => by rw [upd_ne (ne_of_none z hp)]; exact z⟩
  refine h (fun b => F b ∨ b = p) _ _ (frz_un (e.laid hp) (fun z => e.notOwn hp z) ⟨_, upd_same⟩) (Stp.laidF hp) ?_
  exact ⟨p, vs, rfl, .inl ⟨.inr rfl, .inl upd_same⟩, Rps.ext x _ _ r⟩
theorem fin.lst {ds : List D} {vs : List V} {p : Addr} (h : fin X W (relT X.K) F H σ env (.ok (.new (.lst ds)) env) Q) (e : EnvOk X.K F H σ env) (r : Rps X.K F H ds vs) (hp : H p = none) : Q (.ref p) (upd H p (.lst vs)) := by
  have x : Ext F H F (upd H p (.lst vs)) := ⟨fun _ z => z, fun a u hf z => by rw [upd_ne (ne_of_none z hp)]; exact z⟩
  refine h F _ _ (e.laid hp) (Stp.laid hp) ?_
  exact ⟨p, rfl, e.notF hp, ⟨vs, upd_same, Rps.ext x _ _ r⟩, e.notOwn hp, hp⟩
end

/-! ### names, constants -/
def eVar (i : Nat) : Ev := fun env => match env[i]? with
  | some (.fz d) => .ok (.fz d) env
  | some (.ow _ _) => .ok (.at i) env
  | _ => .no
def eC (d : D) : Ev := fun env => .ok (.fz d) env
section
variable {X : Cx} {W : WX} {e : Expr}
theorem je_of (i : Nat) (h : PE X e (tVar i)) : JE X W e (eVar i) := PE.imp h fun σ H Q ⟨F, env, ok, q⟩ => by
  unfold eVar at q
  cases z : env[i]? with
  | none => simp [z] at q; exact q.elim
  | some s =>
    cases s with
    | un => simp [z] at q; exact q.elim
    | fz d =>
      simp only [z] at q
      obtain ⟨v, h1, h2⟩ := ok.fz i d z
      exact ⟨v, h1, q.val ok h2⟩
    | ow b d =>
      simp only [z] at q
      obtain ⟨a, h1, h2, h3⟩ := ok.ow i b d z
      exact ⟨.ref a, h1, q.val ok h1⟩
theorem je_var (i : Nat) {x : Str} {pos : Pos} (hN : X.N[i]? = some x := by rfl) (hv : Vis X.env.scope x := by first | exact Or.inl rfl | exact Or.inr (Or.inl rfl) | exact Or.inr (Or.inr rfl)) (hd : (x == ("__debug__" : Str)) = false := by decide)
    (hcd : (x == ("__classdict__" : Str)) = false := by decide) : JE X W (.Name x pos) (eVar i) := je_of i (pe_var hN hv hd hcd)
theorem je_c {v : V} {d : D} (h : PE X e (tC v)) (hd : ∀ F H, Rp X.K F H d v) : JE X W e (eC d) := PE.imp h fun σ H Q ⟨F, env, ok, q⟩ => q.val ok (hd F H)
theorem je_int {i : Int} {j pos} : JE X W (.Constant (.int i) j pos) (eC (.int i)) := je_c pe_int fun _ _ => rfl
theorem je_bl {b : Bool} {j pos} : JE X W (.Constant (.bool b) j pos) (eC (.bl b)) := je_c pe_bl fun _ _ => rfl
theorem je_non {j pos} : JE X W (.Constant .none j pos) (eC .non) := je_c pe_non fun _ _ => rfl
theorem je_str {x : Str} {j pos} : JE X W (.Constant (.str x) j pos) (eC (.str x)) := je_c pe_str fun _ _ => rfl
/-- a module's constant that is a tuple: d's representation stands in the written part -/
theorem je_glob {x : Str} {v : V} {u : Value} {d : D} {pos : Pos} (hm : X.mg x = some u) (r : RelV v u) (hd : ∀ F H, Rp X.K F H d v) (hg : Gl X x := by rfl) (hdb : (x == ("__debug__" : Str)) = false := by decide) : JE X W (.Name x pos) (eC d) :=
  je_c (pe_glob hg hm r hdb) hd
end

/-! ### one, two operands -/
def e1 (f : Ev) (g : D → En → R T) : Ev := fun env => (f env).bind fun t env1 => match peek env1 t with
  | some d => g d env1
  | none => .no
def e2 (f1 f2 : Ev) (g : D → D → En → R T) : Ev := fun env => (f1 env).bind fun t1 env1 => (f2 env1).bind fun t2 env2 => match peek env2 t1, peek env2 t2 with
  | some d1, some d2 => g d1 d2 env2
  | _, _ => .no
section
variable {X : Cx} {W : WX} {f f1 f2 : Ev} {σ : L2.St} {H : Hp} {Q : VK}
theorem one_of {g : D → En → R T} {R1 : V → Hp → Prop} (h : tE X W (e1 f g) σ H Q)
    (k : ∀ F H1 env d x, EnvOk X.K F H1 σ env → Pk X.K F H1 d x → fin X W (relT X.K) F H1 σ env (g d env) Q → R1 x H1) : tE X W f σ H R1 := by
  obtain ⟨F, env, e, h⟩ := h
  refine ⟨F, env, e, fin.seq h fun F1 H1 t x env1 ok1 s1 r1 h1 => ?_⟩
  split at h1
  · rename_i d hd
    exact k F1 H1 env1 d x ok1 (r1.pk ok1 hd) h1
  · exact h1.elim
theorem two_of {g : D → D → En → R T} {R2 : V → V → Hp → Prop} (h : tE X W (e2 f1 f2 g) σ H Q)
    (k : ∀ F H1 env d1 d2 x y, EnvOk X.K F H1 σ env → Pk X.K F H1 d1 x → Pk X.K F H1 d2 y → fin X W (relT X.K) F H1 σ env (g d1 d2 env) Q → R2 x y H1) :
    tE X W f1 σ H fun x H1 => tE X W f2 σ H1 fun y H2 => R2 x y H2 := by
  obtain ⟨F, env, e, h⟩ := h
  refine ⟨F, env, e, fin.seq h fun F1 H1 t1 x env1 ok1 s1 r1 h1 => ⟨F1, env1, ok1, fin.seq h1 fun F2 H2 t2 y env2 ok2 s2 r2 h2 => ?_⟩⟩
  have r1' := r1.carry ok1 s2
  split at h2
  · rename_i d1 d2 hd1 hd2
    exact k F2 H2 env2 d1 d2 x y ok2 (r1'.pk ok2 hd1) (r2.pk ok2 hd2) h2
  · exact h2.elim
end
/-! ### operators -/
def okI (i : Int) (env : En) : R T := .ok (.fz (.int i)) env
def okB (b : Bool) (env : En) : R T := .ok (.fz (.bl b)) env
def okS (x : Str) (env : En) : R T := .ok (.fz (.str x)) env
theorem fin_no {α β : Type} {X : Cx} {W : WX} {rel : Rel α β} {F : Fz} {H : Hp} {σ : L2.St} {env : En} {Q : β → Hp → Prop} {p : Prop} (h : fin X W rel F H σ env (R.no : R α) Q) : p := False.elim h
def dAdd : D → D → En → R T
  | .int i, .int j, env => okI (i + j) env
  | .str x, .str y, env => if x.length + y.length ≤ sizeLine then okS (x ++ y) env else .no
  | .tup xs, .tup ys, env => if xs.length + ys.length ≤ sizeLine then .ok (.fz (.tup (xs ++ ys))) env else .no
  | .lst xs, .lst ys, env => if xs.length + ys.length ≤ sizeLine then .ok (.new (.lst (xs ++ ys))) env else .no
  | _, _, _ => .no
end Dl
namespace Dl
open PySem PySem.Spec PyProof.Rows L2

section
variable {X : Cx} {W : WX} {a b c : Expr} {f f1 f2 : Ev} {pos : Pos}
abbrev Snd2 (X : Cx) (W : WX) (g : D → D → En → R T) (r : R2) : Prop := ∀ F H σ env d1 d2 x y Q, EnvOk X.K F H σ env → Pk X.K F H d1 x → Pk X.K F H d2 y → fin X W (relT X.K) F H σ env (g d1 d2 env) Q → r x y H Q
theorem je_bin {op : Operator} {r : R2} {g : D → D → En → R T} (ho : OpR X (binaryOp op) r) (k : Snd2 X W g r) (ha : JE X W a f1) (hb : JE X W b f2) : JE X W (.BinOp a op b pos) (e2 f1 f2 g) :=
  PE.imp (pe_op ho ha hb) fun σ H Q h => two_of h fun F H1 env d1 d2 x y e p1 p2 q => k F H1 σ env d1 d2 x y Q e p1 p2 q
theorem je_cmp {op : CmpOp} {r : R2} {g : D → D → En → R T} (ho : OpR X (compareOp op) r) (k : Snd2 X W g r) (ha : JE X W a f1) (hb : JE X W b f2) (hm : behindInMarks op b = false) : JE X W (.Compare a [op] [b] pos) (e2 f1 f2 g) :=
  PE.imp (pe_cmpR ho ha hb hm) fun σ H Q h => two_of h fun F H1 env d1 d2 x y e p1 p2 q => k F H1 σ env d1 d2 x y Q e p1 p2 q
theorem je_un {op : UnaryOp} {r : V → Hp → VK → Prop} {g : D → En → R T} (ho : UnR X (unaryOp op) r) (k : ∀ F H σ env d x Q, EnvOk X.K F H σ env → Pk X.K F H d x → fin X W (relT X.K) F H σ env (g d env) Q → r x H Q) (ha : JE X W a f) :
    JE X W (.UnaryOp op a pos) (e1 f g) :=
  PE.imp (pe_un ho ha) fun σ H Q h => one_of h fun F H1 env d x e p q => k F H1 σ env d x Q e p q
end

/-! ### arithmetic -/
def dSub : D → D → En → R T
  | .int i, .int j, env => okI (i - j) env
  | _, _, _ => .no
def bits (i : Int) : Nat := i.natAbs.log2
def dDiv : D → D → En → R T
  | .int i, .int j, env => if j ≠ 0 ∧ bits j < 9000 then okI (i.fdiv j) env else .no
  | _, _, _ => .no
def dMod : D → D → En → R T
  | .int i, .int j, env => if j ≠ 0 then okI (i.fmod j) env else .no
  | _, _, _ => .no
def dPow : D → D → En → R T
  | .int i, .int j, env => if 0 ≤ j ∧ j ≤ 1000000 ∧ i.natAbs < 2 ^ 64 then okI (i ^ j.toNat) env else .no
  | _, _, _ => .no
theorem mul_ok {i j : Int} (h : bits i + bits j ≤ 100000000) : IntMulOk i j := by
  have b : ∀ x : Int, Builtin.Int.intBits x ≤ bits x + 1 := fun x => by
    unfold Builtin.Int.intBits bits
    split <;> omega
  have h1 := b i
  have h2 := b j
  have e : bitsLine = 134217728 := by decide
  unfold IntMulOk
  intro z
  rw [Bool.and_eq_true] at z
  have z2 := z.2
  unfold Builtin.Int.intTooBig at z2
  have z3 := of_decide_eq_true z2
  rw [e] at z3
  omega
section
variable {X : Cx} {W : WX}
theorem op_mulB : OpR X (binaryOp .Mult) (rI (fun i j => bits i + bits j ≤ 100000000) fun i j => .int (i * j)) := opI fun _ _ _ _ _ _ _ hc q => mul_int q (mul_ok hc)
theorem iop_mulB : OpR X (inplaceOp .Mult) (rI (fun i j => bits i + bits j ≤ 100000000) fun i j => .int (i * j)) := opI fun _ _ _ _ _ _ _ hc q => imul_int q (mul_ok hc)
theorem op_divB : OpR X (binaryOp .FloorDiv) (rI (fun i j => j ≠ 0 ∧ bits j < 9000) fun i j => .int (i.fdiv j)) := opI fun _ _ _ _ _ _ _ hc q => floordiv_int hc.1 q (.inl (PyProof.noPylong_of_log2 hc.2))
theorem iop_divB : OpR X (inplaceOp .FloorDiv) (rI (fun i j => j ≠ 0 ∧ bits j < 9000) fun i j => .int (i.fdiv j)) := opI fun _ _ _ _ _ _ _ hc q => ifloordiv_int hc.1 q (.inl (PyProof.noPylong_of_log2 hc.2))
theorem snd_sub : Snd2 X W dSub (rI0 fun i j => .int (i - j)) := fun F H σ env d1 d2 x y Q e p1 p2 h => by
  unfold dSub at h
  split at h
  · exact ⟨_, _, p1, p2, h.val e rfl⟩
  · exact fin_no h
theorem snd_div : Snd2 X W dDiv (rI (fun i j => j ≠ 0 ∧ bits j < 9000) fun i j => .int (i.fdiv j)) := fun F H σ env d1 d2 x y Q e p1 p2 h => by
  unfold dDiv at h
  split at h
  · split at h
    · exact ⟨_, _, p1, p2, by assumption, h.val e rfl⟩
    · exact fin_no h
  · exact fin_no h
theorem snd_mod : Snd2 X W dMod (rI (fun _ j => j ≠ 0) fun i j => .int (i.fmod j)) := fun F H σ env d1 d2 x y Q e p1 p2 h => by
  unfold dMod at h
  split at h
  · split at h
    · exact ⟨_, _, p1, p2, by assumption, h.val e rfl⟩
    · exact fin_no h
  · exact fin_no h
theorem snd_pow : Snd2 X W dPow (rI CPow fun i j => .int (i ^ j.toNat)) := fun F H σ env d1 d2 x y Q e p1 p2 h => by
  unfold dPow at h
  split at h
  · split at h
    · exact ⟨_, _, p1, p2, by assumption, h.val e rfl⟩
    · exact fin_no h
  · exact fin_no h
abbrev rAddD (K : PySem.W.Frag) : R2 := fun x y H Q => (rI0 (fun i j => .int (i + j)) x y H Q ∨ (∃ i j, x = .str i ∧ y = .str j ∧ i.length + j.length ≤ sizeLine ∧ Q (.str (i ++ j)) H)) ∨ (rCatA K x y H Q ∨ rCat x y H Q)
theorem op_addD : OpR X (binaryOp .Add) (rAddD X.K) := (op_add.or op_add_str).or (op_catA.or op_cat)
theorem snd_add : Snd2 X W dAdd (rAddD X.K) := fun F H σ env d1 d2 x y Q e p1 p2 h => by
  unfold dAdd at h
  split at h
  · exact .inl (.inl ⟨_, _, p1, p2, h.val e rfl⟩)
  · split at h
    · exact .inl (.inr ⟨_, _, p1, p2, by assumption, h.val e rfl⟩)
    · exact fin_no h
  · rename_i xs ys
    split at h
    · obtain ⟨a, vs, rfl, ha, ra⟩ := Rp.tupOf p1
      obtain ⟨b, ws, rfl, hb, rb⟩ := Rp.tupOf p2
      refine .inr (.inl ⟨a, b, vs, ws, rfl, rfl, ha, hb, by rw [ra.length, rb.length]; assumption, fun z => ?_, fun _ z => ?_, fun z1 z2 p hp => h.tup e (ra.append rb) hp⟩)
      · have z1 : xs = [] := List.length_eq_zero_iff.mp (by rw [← ra.length, z]; rfl)
        subst z1
        exact h.val e (show Rp X.K F H (.tup ([] ++ ys)) _ from p2)
      · have z1 : ys = [] := List.length_eq_zero_iff.mp (by rw [← rb.length, z]; rfl)
        subst z1
        exact h.val e (show Rp X.K F H (.tup (xs ++ [])) _ by rw [List.append_nil]; exact p1)
    · exact fin_no h
  · split at h
    · obtain ⟨a, vs, rfl, ha, ra⟩ := p1
      obtain ⟨b, ws, rfl, hb, rb⟩ := p2
      exact .inr (.inr ⟨a, b, vs, ws, rfl, rfl, ha, hb, by rw [ra.length, rb.length]; assumption, fun p hp => h.lst e (ra.append rb) hp⟩)
    · exact fin_no h
  · exact fin_no h
variable {a b c : Expr} {f f1 f2 : Ev} {pos : Pos}
theorem je_add (ha : JE X W a f1) (hb : JE X W b f2) : JE X W (.BinOp a .Add b pos) (e2 f1 f2 dAdd) := je_bin op_addD snd_add ha hb
theorem je_sub (ha : JE X W a f1) (hb : JE X W b f2) : JE X W (.BinOp a .Sub b pos) (e2 f1 f2 dSub) := je_bin op_sub snd_sub ha hb
theorem je_div (ha : JE X W a f1) (hb : JE X W b f2) : JE X W (.BinOp a .FloorDiv b pos) (e2 f1 f2 dDiv) := je_bin op_divB snd_div ha hb
theorem je_mod (ha : JE X W a f1) (hb : JE X W b f2) : JE X W (.BinOp a .Mod b pos) (e2 f1 f2 dMod) := je_bin op_modN snd_mod ha hb
theorem je_pow (ha : JE X W a f1) (hb : JE X W b f2) : JE X W (.BinOp a .Pow b pos) (e2 f1 f2 dPow) := je_bin op_pow snd_pow ha hb
def dNeg : D → En → R T
  | .int i, env => okI (-i) env
  | _, _ => .no
theorem je_neg (ha : JE X W a f) : JE X W (.UnaryOp .USub a pos) (e1 f dNeg) := je_un un_neg (fun F H σ env d x Q e p h => by
  unfold dNeg at h
  split at h
  · exact ⟨_, p, h.val e rfl⟩
  · exact fin_no h) ha
end
section
variable {X : Cx} {W : WX} {a b c : Expr} {f f1 f2 : Ev} {pos : Pos}
abbrev rMulD : R2 := fun x y H Q => rI (fun i j => bits i + bits j ≤ 100000000) (fun i j => .int (i * j)) x y H Q ∨ rRep x y H Q
theorem op_mulD : OpR X (binaryOp .Mult) rMulD := op_mulB.or op_rep
theorem flat_rep {K : PySem.W.Frag} {F : Fz} {H : Hp} {ds : List D} {vs : List V} (h : Rps K F H ds vs) : ∀ k : Nat, Rps K F H (List.replicate k ds).flatten (List.replicate k vs).flatten
  | 0 => rfl
  | k + 1 => by rw [List.replicate_succ, List.replicate_succ, List.flatten_cons, List.flatten_cons]; exact h.append (flat_rep h k)
def dMulL : D → D → En → R T
  | .int i, .int j, env => if bits i + bits j ≤ 100000000 then okI (i * j) env else .no
  | .lst xs, .int k, env => if 0 ≤ k ∧ xs.length * k.toNat ≤ sizeLine ∧ k ≤ 100000000 then .ok (.new (.lst (List.replicate k.toNat xs).flatten)) env else .no
  | _, _, _ => .no
theorem snd_mul : Snd2 X W dMulL rMulD := fun F H σ env d1 d2 x y Q e p1 p2 h => by
  unfold dMulL at h
  split at h
  · split at h
    · exact .inl ⟨_, _, p1, p2, by assumption, h.val e rfl⟩
    · exact fin_no h
  · split at h
    · rename_i hz
      obtain ⟨a, vs, rfl, ha, ra⟩ := p1
      refine .inr ⟨a, _, vs, rfl, p2, ha, by omega, by omega, by rw [ra.length]; exact hz.2.1, fun p hp => h.lst e (flat_rep ra _) hp⟩
    · exact fin_no h
  · exact fin_no h
theorem je_mul (ha : JE X W a f1) (hb : JE X W b f2) : JE X W (.BinOp a .Mult b pos) (e2 f1 f2 dMulL) := je_bin op_mulD snd_mul ha hb
end

/-! ### comparisons -/
mutual
def D.py : D → Option PyData
  | .non => some .none
  | .bl b => some (.bool b)
  | .int i => some (.int i)
  | .str x => some (.str x)
  | .tup xs => (pys xs).map PyData.tuple
  | .lst xs => (pys xs).map PyData.list
  | .scr xs => (pys xs).map PyData.list
  | .dK _ _ => none
def pys : List D → Option (List PyData)
  | [] => some []
  | x :: xs => match x.py, pys xs with
    | some p, some q => some (p :: q)
    | _, _ => none
end
section
variable {K : PySem.W.Frag} {F : Fz} {H : Hp}
mutual
theorem Rp.dp : ∀ (d : D) (v : V) (p : PyData), Rp K F H d v → d.py = some p → Dp K H v p ∧ p.plain = true
  | .non, _, _, h, e => by have h : _ = V.non := h; subst h; cases e; exact ⟨.non, rfl⟩
  | .bl b, _, _, h, e => by have h : _ = V.bl b := h; subst h; cases e; exact ⟨.bl b, rfl⟩
  | .int i, _, _, h, e => by have h : _ = V.int i := h; subst h; cases e; exact ⟨.int i, rfl⟩
  | .str x, _, _, h, e => by have h : _ = V.str x := h; subst h; cases e; exact ⟨.str x, rfl⟩
  | .tup ds, v, p, h, e => by
    obtain ⟨a, vs, rfl, hs, hr⟩ := Rp.tupOf h
    unfold D.py at e
    obtain ⟨q, e1, e2⟩ := Option.map_eq_some_iff.mp e
    subst e2
    obtain ⟨h1, h2⟩ := Rps.dp ds vs q hr e1
    exact ⟨.tup hs h1, h2⟩
  | .lst ds, v, p, h, e => by
    obtain ⟨a, vs, rfl, _, hs, hr⟩ := h
    unfold D.py at e
    obtain ⟨q, e1, e2⟩ := Option.map_eq_some_iff.mp e
    subst e2
    obtain ⟨h1, h2⟩ := Rps.dp ds vs q hr e1
    exact ⟨.lst (SqL.of hs) h1, h2⟩
  | .scr ds, v, p, h, e => by
    obtain ⟨a, vs, rfl, hs, hr⟩ := Rp.scrOf h
    unfold D.py at e
    obtain ⟨q, e1, e2⟩ := Option.map_eq_some_iff.mp e
    subst e2
    obtain ⟨h1, h2⟩ := Rps.dp ds vs q hr e1
    exact ⟨.lst hs h1, h2⟩
  | .dK _ _, _, _, _, e => by cases e
theorem Rps.dp : ∀ (ds : List D) (vs : List V) (ps : List PyData), Rps K F H ds vs → pys ds = some ps → DpAll K H vs ps ∧ PyData.plainAll ps = true
  | [], _, _, h, e => by have h : _ = [] := h; subst h; cases e; exact ⟨.nil, rfl⟩
  | d :: ds, _, _, h, e => by
    obtain ⟨v, r, rfl, h1, h2⟩ := h
    unfold pys at e
    split at e
    · rename_i p q e1 e2
      cases e
      obtain ⟨a1, a2⟩ := Rp.dp d v p h1 e1
      obtain ⟨b1, b2⟩ := Rps.dp ds r q h2 e2
      exact ⟨.cons a1 b1, by simp only [PyData.plainAll, a2, b2, Bool.and_self]⟩
    · cases e
end
theorem Pk.dp : ∀ {d : D} {v : V} {p : PyData}, Pk K F H d v → d.py = some p → Dp K H v p ∧ p.plain = true
  | .non, _, _, h, e => Rp.dp (F := F) .non _ _ h e
  | .bl b, _, _, h, e => Rp.dp (F := F) (.bl b) _ _ h e
  | .int i, _, _, h, e => Rp.dp (F := F) (.int i) _ _ h e
  | .str x, _, _, h, e => Rp.dp (F := F) (.str x) _ _ h e
  | .tup ds, _, _, h, e => Rp.dp (.tup ds) _ _ h e
  | .scr ds, _, _, h, e => Rp.dp (.scr ds) _ _ h e
  | .lst ds, v, p, h, e => by
    obtain ⟨a, vs, rfl, hs, hr⟩ := h
    unfold D.py at e
    obtain ⟨q, e1, e2⟩ := Option.map_eq_some_iff.mp e
    subst e2
    obtain ⟨h1, h2⟩ := Rps.dp ds vs q hr e1
    exact ⟨.lst (SqL.of hs) h1, h2⟩
  | .dK _ _, _, _, _, e => by cases e
end
def dEq0 (d1 d2 : D) : Option Bool := match d1.py, d2.py with
  | some p, some q => if min p.depth q.depth ≤ 60 then some (PyData.eqv p q) else none
  | _, _ => none
def dEq (d1 d2 : D) (env : En) : R T := match dEq0 d1 d2 with
  | some b => okB b env
  | none => .no
def dNe (d1 d2 : D) (env : En) : R T := match dEq0 d1 d2 with
  | some b => okB (!b) env
  | none => .no
section
variable {X : Cx} {W : WX} {a b c : Expr} {f f1 f2 : Ev} {pos : Pos}
abbrev rEqP (K : PySem.W.Frag) (neg : Bool) : R2 := fun x y H Q => ∃ p q, Dp K H x p ∧ Dp K H y q ∧ p.plain = true ∧ q.plain = true ∧ min p.depth q.depth ≤ 60 ∧ Q (.bl (if neg = true then !PyData.eqv p q else PyData.eqv p q)) H
theorem op_eqP (hu : X.A.units + 64 < cLine) : OpR X (compareOp .Eq) (rEqP X.K false) := by
  intro pins s σ H x y v u Q I rx ry h
  obtain ⟨d, e, hd, he, sd, se, hm, q⟩ := h
  obtain ⟨as, r1⟩ := Dp.reads I d x v hd rx
  obtain ⟨bs, r2⟩ := Dp.reads I e y u he ry
  exact SeqAt.eq_plain r1 r2 sd se (by omega) ⟨.bl _, H, I, rfl, q⟩
theorem op_neP (hu : X.A.units + 64 < cLine) : OpR X (compareOp .NotEq) (rEqP X.K true) := by
  intro pins s σ H x y v u Q I rx ry h
  obtain ⟨d, e, hd, he, sd, se, hm, q⟩ := h
  obtain ⟨as, r1⟩ := Dp.reads I d x v hd rx
  obtain ⟨bs, r2⟩ := Dp.reads I e y u he ry
  exact SeqAt.ne_plain r1 r2 sd se (by omega) ⟨.bl _, H, I, rfl, q⟩
theorem dEq0_inv {d1 d2 : D} {k : Bool} (h : dEq0 d1 d2 = some k) : ∃ p q, d1.py = some p ∧ d2.py = some q ∧ min p.depth q.depth ≤ 60 ∧ k = PyData.eqv p q := by
  unfold dEq0 at h
  split at h
  · rename_i p q h1 h2
    split at h
    · cases h; exact ⟨p, q, h1, h2, by assumption, rfl⟩
    · cases h
  · cases h
theorem snd_eq : Snd2 X W dEq (rEqP X.K false) := fun F H σ env d1 d2 x y Q e p1 p2 h => by
  unfold dEq at h
  split at h
  · rename_i k hk
    obtain ⟨p, q, h1, h2, hm, rfl⟩ := dEq0_inv hk
    exact ⟨p, q, (p1.dp h1).1, (p2.dp h2).1, (p1.dp h1).2, (p2.dp h2).2, hm, h.val e rfl⟩
  · exact fin_no h
theorem snd_ne : Snd2 X W dNe (rEqP X.K true) := fun F H σ env d1 d2 x y Q e p1 p2 h => by
  unfold dNe at h
  split at h
  · rename_i k hk
    obtain ⟨p, q, h1, h2, hm, rfl⟩ := dEq0_inv hk
    exact ⟨p, q, (p1.dp h1).1, (p2.dp h2).1, (p1.dp h1).2, (p2.dp h2).2, hm, h.val e rfl⟩
  · exact fin_no h
def dLt : D → D → En → R T
  | .int i, .int j, env => okB (decide (i < j)) env
  | _, _, _ => .no
def dLe : D → D → En → R T
  | .int i, .int j, env => okB (decide (i ≤ j)) env
  | _, _, _ => .no
def dGt : D → D → En → R T
  | .int i, .int j, env => okB (decide (j < i)) env
  | _, _, _ => .no
def dGe : D → D → En → R T
  | .int i, .int j, env => okB (decide (j ≤ i)) env
  | _, _, _ => .no
theorem snd_lt : Snd2 X W dLt (rI0 fun i j => .bl (decide (i < j))) := fun F H σ env d1 d2 x y Q e p1 p2 h => by
  unfold dLt at h
  split at h
  · exact ⟨_, _, p1, p2, h.val e rfl⟩
  · exact fin_no h
theorem snd_le : Snd2 X W dLe (rI0 fun i j => .bl (decide (i ≤ j))) := fun F H σ env d1 d2 x y Q e p1 p2 h => by
  unfold dLe at h
  split at h
  · exact ⟨_, _, p1, p2, h.val e rfl⟩
  · exact fin_no h
theorem snd_gt : Snd2 X W dGt (rI0 fun i j => .bl (decide (j < i))) := fun F H σ env d1 d2 x y Q e p1 p2 h => by
  unfold dGt at h
  split at h
  · exact ⟨_, _, p1, p2, h.val e rfl⟩
  · exact fin_no h
theorem snd_ge : Snd2 X W dGe (rI0 fun i j => .bl (decide (j ≤ i))) := fun F H σ env d1 d2 x y Q e p1 p2 h => by
  unfold dGe at h
  split at h
  · exact ⟨_, _, p1, p2, h.val e rfl⟩
  · exact fin_no h
def isNon : D → Bool
  | .non => true
  | _ => false
def dIsN (d1 d2 : D) (env : En) : R T := match d2 with
  | .non => okB (isNon d1) env
  | _ => .no
def dNotN (d1 d2 : D) (env : En) : R T := match d2 with
  | .non => okB (!isNon d1) env
  | _ => .no
theorem pk_non {K : PySem.W.Frag} {F : Fz} {H : Hp} : ∀ {d : D} {x : V}, Pk K F H d x → decide (x = .non) = isNon d
  | .non, _, h => by have h : _ = V.non := h; subst h; rfl
  | .bl _, _, h => by have h : _ = V.bl _ := h; subst h; rfl
  | .int _, _, h => by have h : _ = V.int _ := h; subst h; rfl
  | .str _, _, h => by have h : _ = V.str _ := h; subst h; rfl
  | .tup _, _, h => by obtain ⟨a, vs, rfl, _⟩ := h; rfl
  | .lst _, _, h => by obtain ⟨a, vs, rfl, _⟩ := h; rfl
  | .scr _, _, h => by obtain ⟨a, vs, rfl, _⟩ := h; rfl
  | .dK _ _, _, h => by obtain ⟨a, vs, rfl, _⟩ := h; rfl
theorem snd_isN : Snd2 X W dIsN (fun x y H Q => y = .non ∧ Q (.bl (decide (x = .non))) H) := fun F H σ env d1 d2 x y Q e p1 p2 h => by
  unfold dIsN at h
  split at h
  · exact ⟨p2, by rw [pk_non p1]; exact h.val e rfl⟩
  · exact fin_no h
theorem snd_notN : Snd2 X W dNotN (fun x y H Q => y = .non ∧ Q (.bl (!decide (x = .non))) H) := fun F H σ env d1 d2 x y Q e p1 p2 h => by
  unfold dNotN at h
  split at h
  · exact ⟨p2, by rw [pk_non p1]; exact h.val e rfl⟩
  · exact fin_no h
/-- x in a list, a tuple -/
def dIn0 (d1 d2 : D) : Option Bool := match d1.py, d2.py with
  | some p, some (.tuple qs) => if min (PyData.depthAll qs) p.depth ≤ 60 then some (qs.any fun y => PyData.eqv y p) else none
  | some p, some (.list qs) => if min (PyData.depthAll qs) p.depth ≤ 60 then some (qs.any fun y => PyData.eqv y p) else none
  | _, _ => none
def dIn (d1 d2 : D) (env : En) : R T := match dIn0 d1 d2 with
  | some b => okB b env
  | none => .no
def dNotIn (d1 d2 : D) (env : En) : R T := match dIn0 d1 d2 with
  | some b => okB (!b) env
  | none => .no
abbrev rInP (K : PySem.W.Frag) (neg : Bool) : R2 := fun x y H Q => ∃ p q qs, Dp K H x p ∧ Dp K H y q ∧ (q = .tuple qs ∨ q = .list qs) ∧ p.plain = true ∧ PyData.plainAll qs = true ∧ min (PyData.depthAll qs) p.depth ≤ 60 ∧
  Q (.bl (if neg = true then !(qs.any fun y => PyData.eqv y p) else qs.any fun y => PyData.eqv y p)) H
theorem op_inP (hu : X.A.units + 64 < cLine) : OpR X (compareOp .In) (rInP X.K false) := by
  intro pins s σ H x y v u Q I rx ry h
  obtain ⟨p, q, qs, hp, hq, hk, sp, sq, hm, q0⟩ := h
  obtain ⟨as, r1⟩ := Dp.reads I p x v hp rx
  obtain ⟨bs, r2⟩ := Dp.reads I q y u hq ry
  rcases hk with rfl | rfl
  · exact SeqAt.in_tuple_data r2 r1 sq sp (by omega) ⟨.bl _, H, I, rfl, q0⟩
  · exact SeqAt.in_list_data r2 r1 sq sp (by omega) ⟨.bl _, H, I, rfl, q0⟩
theorem op_notInP (hu : X.A.units + 64 < cLine) : OpR X (compareOp .NotIn) (rInP X.K true) := by
  intro pins s σ H x y v u Q I rx ry h
  obtain ⟨p, q, qs, hp, hq, hk, sp, sq, hm, q0⟩ := h
  obtain ⟨as, r1⟩ := Dp.reads I p x v hp rx
  obtain ⟨bs, r2⟩ := Dp.reads I q y u hq ry
  rcases hk with rfl | rfl
  · exact SeqAt.notIn_tuple_data r2 r1 sq sp (by omega) ⟨.bl _, H, I, rfl, q0⟩
  · exact SeqAt.notIn_list_data r2 r1 sq sp (by omega) ⟨.bl _, H, I, rfl, q0⟩
theorem dIn0_inv {d1 d2 : D} {k : Bool} (h : dIn0 d1 d2 = some k) : ∃ p q qs, d1.py = some p ∧ d2.py = some q ∧ (q = .tuple qs ∨ q = .list qs) ∧ min (PyData.depthAll qs) p.depth ≤ 60 ∧ k = qs.any fun y => PyData.eqv y p := by
  unfold dIn0 at h
  split at h
  · rename_i p qs h1 h2
    split at h
    · cases h; exact ⟨p, _, qs, h1, h2, .inl rfl, by assumption, rfl⟩
    · cases h
  · rename_i p qs h1 h2
    split at h
    · cases h; exact ⟨p, _, qs, h1, h2, .inr rfl, by assumption, rfl⟩
    · cases h
  · cases h
theorem snd_in : Snd2 X W dIn (rInP X.K false) := fun F H σ env d1 d2 x y Q e p1 p2 h => by
  unfold dIn at h
  split at h
  · rename_i k hk
    obtain ⟨p, q, qs, h1, h2, hq, hm, rfl⟩ := dIn0_inv hk
    refine ⟨p, q, qs, (p1.dp h1).1, (p2.dp h2).1, hq, (p1.dp h1).2, ?_, hm, h.val e rfl⟩
    have := (p2.dp h2).2
    rcases hq with rfl | rfl <;> simpa [PyData.plain] using this
  · exact fin_no h
theorem snd_notIn : Snd2 X W dNotIn (rInP X.K true) := fun F H σ env d1 d2 x y Q e p1 p2 h => by
  unfold dNotIn at h
  split at h
  · rename_i k hk
    obtain ⟨p, q, qs, h1, h2, hq, hm, rfl⟩ := dIn0_inv hk
    refine ⟨p, q, qs, (p1.dp h1).1, (p2.dp h2).1, hq, (p1.dp h1).2, ?_, hm, h.val e rfl⟩
    have := (p2.dp h2).2
    rcases hq with rfl | rfl <;> simpa [PyData.plain] using this
  · exact fin_no h
theorem je_eq (hu : X.A.units + 64 < cLine) (ha : JE X W a f1) (hb : JE X W b f2) : JE X W (.Compare a [.Eq] [b] pos) (e2 f1 f2 dEq) := je_cmp (op_eqP hu) snd_eq ha hb (nomark _)
theorem je_ne (hu : X.A.units + 64 < cLine) (ha : JE X W a f1) (hb : JE X W b f2) : JE X W (.Compare a [.NotEq] [b] pos) (e2 f1 f2 dNe) := je_cmp (op_neP hu) snd_ne ha hb (nomark _)
theorem je_lt (ha : JE X W a f1) (hb : JE X W b f2) : JE X W (.Compare a [.Lt] [b] pos) (e2 f1 f2 dLt) := je_cmp op_lt snd_lt ha hb (nomark _)
theorem je_le (ha : JE X W a f1) (hb : JE X W b f2) : JE X W (.Compare a [.LtE] [b] pos) (e2 f1 f2 dLe) := je_cmp op_le snd_le ha hb (nomark _)
theorem je_gt (ha : JE X W a f1) (hb : JE X W b f2) : JE X W (.Compare a [.Gt] [b] pos) (e2 f1 f2 dGt) := je_cmp op_gt snd_gt ha hb (nomark _)
theorem je_ge (ha : JE X W a f1) (hb : JE X W b f2) : JE X W (.Compare a [.GtE] [b] pos) (e2 f1 f2 dGe) := je_cmp op_ge snd_ge ha hb (nomark _)
theorem je_isN (ha : JE X W a f1) (hb : JE X W b f2) : JE X W (.Compare a [.Is] [b] pos) (e2 f1 f2 dIsN) := je_cmp op_isN snd_isN ha hb (nomark _)
theorem je_notN (ha : JE X W a f1) (hb : JE X W b f2) : JE X W (.Compare a [.IsNot] [b] pos) (e2 f1 f2 dNotN) := je_cmp op_notN snd_notN ha hb (nomark _)
theorem je_in (hu : X.A.units + 64 < cLine) (ha : JE X W a f1) (hb : JE X W b f2) (hm : behindInMarks .In b = false := by rfl) : JE X W (.Compare a [.In] [b] pos) (e2 f1 f2 dIn) := je_cmp (op_inP hu) snd_in ha hb hm
theorem je_notIn (hu : X.A.units + 64 < cLine) (ha : JE X W a f1) (hb : JE X W b f2) (hm : behindInMarks .NotIn b = false := by rfl) : JE X W (.Compare a [.NotIn] [b] pos) (e2 f1 f2 dNotIn) := je_cmp (op_notInP hu) snd_notIn ha hb hm
end
end Dl
namespace Dl
open PySem PySem.Spec PyProof.Rows L2

/-! ### tests -/
def truth : D → Option Bool
  | .non => some false
  | .bl b => some b
  | .int i => some (i != 0)
  | .str x => if x.length ≤ sizeLine then some ((x.length : Int) != 0) else none
  | .tup xs => some (!xs.isEmpty)
  | .lst xs => some (!xs.isEmpty)
  | .scr xs => some (!xs.isEmpty)
  | .dK ks _ => some (!ks.isEmpty)
def tr (f : Ev) : Et := fun env => (f env).bind fun t env1 => match peek env1 t with
  | some d => match truth d with
    | some b => .ok b env1
    | none => .no
  | none => .no
def tb (f : Ev) : Et := fun env => (f env).bind fun t env1 => match t with
  | .fz (.bl b) => .ok b env1
  | _ => .no
theorem empty_rps {K : PySem.W.Frag} {F : Fz} {H : Hp} {ds : List D} {vs : List V} (h : Rps K F H ds vs) : (!ds.isEmpty) = !vs.isEmpty := by
  have := h.length
  cases ds <;> cases vs <;> simp_all
theorem pk_truth {K : PySem.W.Frag} {F : Fz} {H : Hp} : ∀ {d : D} {v : V} {b : Bool}, Pk K F H d v → truth d = some b → TruV K v H b
  | .non, _, _, h, e => by have h : _ = V.non := h; subst h; cases e; rfl
  | .bl b, _, _, h, e => by have h : _ = V.bl b := h; subst h; cases e; rfl
  | .int i, _, _, h, e => by have h : _ = V.int i := h; subst h; cases e; rfl
  | .str x, _, _, h, e => by
    have h : _ = V.str x := h; subst h
    have e : (if x.length ≤ sizeLine then some ((x.length : Int) != 0) else none) = some _ := e
    split at e
    · cases e; exact ⟨by assumption, rfl⟩
    · cases e
  | .tup ds, _, _, h, e => by obtain ⟨a, vs, rfl, hs, r⟩ := Rp.tupOf h; cases e; exact .inr (.inl ⟨vs, hs, empty_rps r⟩)
  | .lst ds, _, _, h, e => by obtain ⟨a, vs, rfl, hs, r⟩ := h; cases e; exact .inl ⟨vs, SqL.of hs, empty_rps r⟩
  | .scr ds, _, _, h, e => by obtain ⟨a, vs, rfl, hs, r⟩ := Rp.scrOf h; cases e; exact .inl ⟨vs, hs, empty_rps r⟩
  | .dK ks ds, _, _, h, e => by
    obtain ⟨a, vs, rfl, hs, hl, r⟩ := h
    cases e
    refine .inr (.inr ⟨_, hs, ?_⟩)
    have h2 := r.length
    cases ks <;> cases ds <;> cases vs <;> simp_all
section
variable {X : Cx} {W : WX} {a b c : Expr} {f f1 f2 f3 : Ev} {g1 g2 : Et} {pos : Pos}
/-- a name, a call, a subscript .. as a test -/
theorem jt_val (ha : JE X W a f) (he : ∀ whole, isTrue a X.env whole = (do let v ← whole; standAt a.pos; holding [v] (truthy v)) := by intro _; rfl) : JT X W a (tr f) :=
  PT.imp (pt_truth ha he) fun σ H Q ⟨F, env, e, h⟩ => ⟨F, env, e, fin.seq h fun F1 H1 t x env1 ok1 s1 r1 h1 => by
    split at h1
    · rename_i d hd
      split at h1
      · rename_i k hk
        exact ⟨k, pk_truth (r1.pk ok1 hd) hk, h1.bl ok1⟩
      · exact fin_no h1
    · exact fin_no h1⟩
theorem tb_of {σ : L2.St} {H : Hp} {Q : Bool → Hp → Prop} (h : tB X W (tb f) σ H Q) : tE X W f σ H fun x H' => ∃ k, x = .bl k ∧ Q k H' := by
  obtain ⟨F, env, e, h⟩ := h
  refine ⟨F, env, e, fin.seq h fun F1 H1 t x env1 ok1 s1 r1 h1 => ?_⟩
  split at h1
  · rename_i k
    exact ⟨k, r1, h1.bl ok1⟩
  · exact fin_no h1
theorem jt_cmp {op : CmpOp} {r : R2} {g : D → D → En → R T} (ho : OpR X (compareOp op) r) (k : Snd2 X W g r) (ha : JE X W a f1) (hb : JE X W b f2) (hm : behindInMarks op b = false) : JT X W (.Compare a [op] [b] pos) (tb (e2 f1 f2 g)) :=
  PT.imp (pt_cmpR ho ha hb hm) fun σ H Q h => two_of (tb_of h) fun F H1 env d1 d2 x y e p1 p2 q => k F H1 σ env d1 d2 x y _ e p1 p2 q
theorem jt_eq (hu : X.A.units + 64 < cLine) (ha : JE X W a f1) (hb : JE X W b f2) : JT X W (.Compare a [.Eq] [b] pos) (tb (e2 f1 f2 dEq)) := jt_cmp (op_eqP hu) snd_eq ha hb (nomark _)
theorem jt_ne (hu : X.A.units + 64 < cLine) (ha : JE X W a f1) (hb : JE X W b f2) : JT X W (.Compare a [.NotEq] [b] pos) (tb (e2 f1 f2 dNe)) := jt_cmp (op_neP hu) snd_ne ha hb (nomark _)
theorem jt_lt (ha : JE X W a f1) (hb : JE X W b f2) : JT X W (.Compare a [.Lt] [b] pos) (tb (e2 f1 f2 dLt)) := jt_cmp op_lt snd_lt ha hb (nomark _)
theorem jt_le (ha : JE X W a f1) (hb : JE X W b f2) : JT X W (.Compare a [.LtE] [b] pos) (tb (e2 f1 f2 dLe)) := jt_cmp op_le snd_le ha hb (nomark _)
theorem jt_gt (ha : JE X W a f1) (hb : JE X W b f2) : JT X W (.Compare a [.Gt] [b] pos) (tb (e2 f1 f2 dGt)) := jt_cmp op_gt snd_gt ha hb (nomark _)
theorem jt_ge (ha : JE X W a f1) (hb : JE X W b f2) : JT X W (.Compare a [.GtE] [b] pos) (tb (e2 f1 f2 dGe)) := jt_cmp op_ge snd_ge ha hb (nomark _)
theorem jt_isN (ha : JE X W a f1) (hb : JE X W b f2) : JT X W (.Compare a [.Is] [b] pos) (tb (e2 f1 f2 dIsN)) := jt_cmp op_isN snd_isN ha hb (nomark _)
theorem jt_notN (ha : JE X W a f1) (hb : JE X W b f2) : JT X W (.Compare a [.IsNot] [b] pos) (tb (e2 f1 f2 dNotN)) := jt_cmp op_notN snd_notN ha hb (nomark _)
theorem jt_in (hu : X.A.units + 64 < cLine) (ha : JE X W a f1) (hb : JE X W b f2) (hm : behindInMarks .In b = false := by rfl) : JT X W (.Compare a [.In] [b] pos) (tb (e2 f1 f2 dIn)) := jt_cmp (op_inP hu) snd_in ha hb hm
theorem jt_notIn (hu : X.A.units + 64 < cLine) (ha : JE X W a f1) (hb : JE X W b f2) (hm : behindInMarks .NotIn b = false := by rfl) : JT X W (.Compare a [.NotIn] [b] pos) (tb (e2 f1 f2 dNotIn)) := jt_cmp (op_notInP hu) snd_notIn ha hb hm
/-- a < b < c -/
def chain2 (f3 : Ev) (g g' : D → D → En → R T) (t1 t2 : T) (env2 : En) : R T := match peek env2 t1, peek env2 t2 with
  | some d1, some d2 => (g d1 d2 env2).bind fun t env3 => match t with
    | .fz (.bl true) => (f3 env3).bind fun t3 env4 => match peek env4 t2, peek env4 t3 with
      | some d2, some d3 => g' d2 d3 env4
      | _, _ => .no
    | .fz (.bl false) => okB false env3
    | _ => .no
  | _, _ => .no
def eCh (f1 f2 f3 : Ev) (g g' : D → D → En → R T) : Ev := fun env => (f1 env).bind fun t1 env1 => (f2 env1).bind fun t2 env2 => chain2 f3 g g' t1 t2 env2
theorem chain_of {r r' : R2} {g g' : D → D → En → R T} (k : Snd2 X W g r) (k' : Snd2 X W g' r') {σ : L2.St} {H : Hp} {Q : VK} (h : tE X W (eCh f1 f2 f3 g g') σ H Q) : tChain r r' (tE X W f1) (tE X W f2) (tE X W f3) σ H Q := by
  obtain ⟨F, env, e, h⟩ := h
  refine ⟨F, env, e, fin.seq h fun F1 H1 t1 x env1 ok1 s1 r1 h1 => ⟨F1, env1, ok1, fin.seq h1 fun F2 H2 t2 y env2 ok2 s2 r2 h2 => ?_⟩⟩
  have r1' := r1.carry ok1 s2
  unfold chain2 at h2
  split at h2
  · rename_i d1 d2 hd1 hd2
    refine k F2 H2 σ env2 d1 d2 x y _ ok2 (r1'.pk ok2 hd1) (r2.pk ok2 hd2) (fin.seq h2 fun F3 H3 t z env3 ok3 s3 r3 h3 => ?_)
    have r2' := r2.carry ok2 s3
    split at h3
    · refine ⟨true, r3, iteT ⟨F3, env3, ok3, fin.seq h3 fun F4 H4 t3 w env4 ok4 s4 r4 h4 => ?_⟩⟩
      have r2'' := r2'.carry ok3 s4
      split at h4
      · rename_i d2' d3 hd2' hd3
        exact k' F4 H4 σ env4 d2' d3 y w _ ok4 (r2''.pk ok4 hd2') (r4.pk ok4 hd3) h4
      · exact fin_no h4
    · exact ⟨false, r3, iteF (h3.val ok3 rfl)⟩
    · exact fin_no h3
  · exact fin_no h2
theorem je_chain {op op' : CmpOp} {r r' : R2} {g g' : D → D → En → R T} (ho : OpR X (compareOp op) r) (k : Snd2 X W g r) (ho' : OpR X (compareOp op') r') (k' : Snd2 X W g' r') (ha : JE X W a f1) (hb : JE X W b f2) (hc : JE X W c f3)
    (hm : lastMarks [op, op'] [b, c] = false := by with_unfolding_all rfl) : JE X W (.Compare a [op, op'] [b, c] pos) (eCh f1 f2 f3 g g') :=
  PE.imp (pe_chain ho ho' ha hb hc hm) fun σ H Q h => chain_of k k' h
theorem jt_chain {op op' : CmpOp} {r r' : R2} {g g' : D → D → En → R T} (ho : OpR X (compareOp op) r) (k : Snd2 X W g r) (ho' : OpR X (compareOp op') r') (k' : Snd2 X W g' r') (ha : JE X W a f1) (hb : JE X W b f2) (hc : JE X W c f3)
    (hm : lastMarks [op, op'] [b, c] = false := by with_unfolding_all rfl) : JT X W (.Compare a [op, op'] [b, c] pos) (tb (eCh f1 f2 f3 g g')) :=
  PT.imp (pt_chain ho ho' ha hb hc hm) fun σ H Q h => chain_of k k' (tb_of h)

/-! ### and, or, not -/
def bAnd (g1 g2 : Et) : Et := fun env => (g1 env).bind fun b env1 => if b = true then g2 env1 else .ok false env1
def bOr (g1 g2 : Et) : Et := fun env => (g1 env).bind fun b env1 => if b = true then .ok true env1 else g2 env1
def bNot (g : Et) : Et := fun env => (g env).bind fun b env1 => .ok (!b) env1
abbrev JW (X : Cx) (W : WX) (e : Expr) (f : Et) : Prop := PW X e (tB X W f)
variable {rest : List Expr}
theorem jw_and1 (ha : JT X W a g1) : JW X W (.BoolOp .And [a] pos) g1 := pw_and1 ha
theorem jw_or1 (ha : JT X W a g1) : JW X W (.BoolOp .Or [a] pos) g1 := pw_or1 ha
theorem jw_and (ha : JT X W a g1) (hb : JW X W (.BoolOp .And (b :: rest) pos) g2) : JW X W (.BoolOp .And (a :: b :: rest) pos) (bAnd g1 g2) :=
  PW.imp (pw_and ha hb) fun σ H Q ⟨F, env, e, h⟩ => ⟨F, env, e, fin.seq h fun F1 H1 k k' env1 ok1 s1 r1 h1 => by
    subst r1
    cases k with
    | true => exact iteT ⟨F1, env1, ok1, h1⟩
    | false => exact iteF (fin.bl h1 ok1)⟩
theorem jw_or (ha : JT X W a g1) (hb : JW X W (.BoolOp .Or (b :: rest) pos) g2) : JW X W (.BoolOp .Or (a :: b :: rest) pos) (bOr g1 g2) :=
  PW.imp (pw_or ha hb) fun σ H Q ⟨F, env, e, h⟩ => ⟨F, env, e, fin.seq h fun F1 H1 k k' env1 ok1 s1 r1 h1 => by
    subst r1
    cases k with
    | true => exact iteT (fin.bl h1 ok1)
    | false => exact iteF ⟨F1, env1, ok1, h1⟩⟩
theorem jt_w (h : JW X W a g1) : JT X W a g1 := PW.pt h
theorem jt_not (ha : JT X W a g1) : JT X W (.UnaryOp .Not a pos) (bNot g1) :=
  PT.imp (pt_not ha) fun σ H Q ⟨F, env, e, h⟩ => ⟨F, env, e, fin.seq h fun F1 H1 k k' env1 ok1 s1 r1 h1 => by
    subst r1
    exact fin.bl h1 ok1⟩
/-- as values -/
def eAnd (f1 f2 : Ev) : Ev := fun env => (f1 env).bind fun t env1 => match t with
  | .fz (.bl true) => f2 env1
  | .fz (.bl false) => okB false env1
  | _ => .no
def eOr (f1 f2 : Ev) : Ev := fun env => (f1 env).bind fun t env1 => match t with
  | .fz (.bl true) => okB true env1
  | .fz (.bl false) => f2 env1
  | _ => .no
def eNot (f : Ev) : Ev := fun env => (f env).bind fun t env1 => match t with
  | .fz (.bl b) => okB (!b) env1
  | _ => .no
theorem je_one {op} (ha : JE X W a f) : JE X W (.BoolOp op [a] pos) f := pe_one ha
theorem je_and (ha : JE X W a f1) (hb : JE X W (.BoolOp .And (b :: rest) pos) f2) : JE X W (.BoolOp .And (a :: b :: rest) pos) (eAnd f1 f2) :=
  PE.imp (pe_and ha hb) fun σ H Q ⟨F, env, e, h⟩ => ⟨F, env, e, fin.seq h fun F1 H1 t x env1 ok1 s1 r1 h1 => by
    split at h1
    · exact ⟨true, r1, iteT ⟨F1, env1, ok1, h1⟩⟩
    · exact ⟨false, r1, iteF (h1.val ok1 rfl)⟩
    · exact fin_no h1⟩
theorem je_or (ha : JE X W a f1) (hb : JE X W (.BoolOp .Or (b :: rest) pos) f2) : JE X W (.BoolOp .Or (a :: b :: rest) pos) (eOr f1 f2) :=
  PE.imp (pe_or ha hb) fun σ H Q ⟨F, env, e, h⟩ => ⟨F, env, e, fin.seq h fun F1 H1 t x env1 ok1 s1 r1 h1 => by
    split at h1
    · exact ⟨true, r1, iteT (h1.val ok1 rfl)⟩
    · exact ⟨false, r1, iteF ⟨F1, env1, ok1, h1⟩⟩
    · exact fin_no h1⟩
theorem je_not (ha : JE X W a f) : JE X W (.UnaryOp .Not a pos) (eNot f) :=
  PE.imp (pe_not ha) fun σ H Q ⟨F, env, e, h⟩ => ⟨F, env, e, fin.seq h fun F1 H1 t x env1 ok1 s1 r1 h1 => by
    split at h1
    · rename_i k
      exact ⟨k, r1, h1.val ok1 rfl⟩
    · exact fin_no h1⟩
def eIf (g : Et) (f1 f2 : Ev) : Ev := fun env => (g env).bind fun b env1 => if b = true then f1 env1 else f2 env1
theorem je_if (hc : JT X W c g1) (ha : JE X W a f1) (hb : JE X W b f2) : JE X W (.IfExp c a b pos) (eIf g1 f1 f2) :=
  PE.imp (pe_ifExp hc ha hb) fun σ H Q ⟨F, env, e, h⟩ => ⟨F, env, e, fin.seq h fun F1 H1 k k' env1 ok1 s1 r1 h1 => by
    subst r1
    cases k with
    | true => exact iteT ⟨F1, env1, ok1, h1⟩
    | false => exact iteF ⟨F1, env1, ok1, h1⟩⟩
end

/-! ### subscripts, slices -/
def dIx : D → D → En → R T
  | .tup xs, .int i, env => match atI xs i with
    | some d => .ok (.fz d) env
    | none => .no
  | .lst xs, .int i, env => match atI xs i with
    | some d => .ok (.fz d) env
    | none => .no
  | .scr xs, .int i, env => match atI xs i with
    | some d => .ok (.fz d) env
    | none => .no
  | .str z, .int i, env => if z.length ≤ sizeLine then match atI z.cps.toList i with
      | some c => okS ⟨#[c]⟩ env
      | none => .no
    else .no
  | _, _, _ => .no
theorem atI_rps {K : PySem.W.Frag} {F : Fz} {H : Hp} {ds : List D} {vs : List V} {i : Int} {d : D} (h : Rps K F H ds vs) (e : atI ds i = some d) : ∃ v, atI vs i = some v ∧ Rp K F H d v := by
  unfold atI at e ⊢
  rw [h.length]
  cases q : ixN ds.length i with
  | none => rw [q] at e; cases e
  | some j =>
    rw [q] at e
    exact h.get e
section
variable {X : Cx} {W : WX} {a b c : Expr} {f f1 f2 f3 : Ev} {pos : Pos}
theorem snd_ix : Snd2 X W dIx (rIx X.K) := fun F H σ env d1 d2 x y Q e p1 p2 h => by
  unfold dIx at h
  split at h
  · split at h
    · rename_i d hd
      obtain ⟨a, vs, rfl, hs, r⟩ := Rp.tupOf p1
      obtain ⟨v, hv, rv⟩ := atI_rps r hd
      exact .inr (.inl ⟨a, vs, _, v, rfl, p2, hs, hv, h.val e rv⟩)
    · exact fin_no h
  · split at h
    · rename_i d hd
      obtain ⟨a, vs, rfl, hs, r⟩ := p1
      obtain ⟨v, hv, rv⟩ := atI_rps r hd
      exact .inl ⟨a, vs, _, v, rfl, p2, SqL.of hs, hv, h.val e rv⟩
    · exact fin_no h
  · split at h
    · rename_i d hd
      obtain ⟨a, vs, rfl, hs, r⟩ := Rp.scrOf p1
      obtain ⟨v, hv, rv⟩ := atI_rps r hd
      exact .inl ⟨a, vs, _, v, rfl, p2, hs, hv, h.val e rv⟩
    · exact fin_no h
  · split at h
    · split at h
      · rename_i hz _ k hk
        exact .inr (.inr ⟨_, _, k, p1, p2, hz, hk, h.val e rfl⟩)
      · exact fin_no h
    · exact fin_no h
  · exact fin_no h
theorem je_ix (ha : JE X W a f1) (hb : JE X W b f2) (hs : PlainIx b := by exact fun _ _ => rfl) : JE X W (.Subscript a b pos) (e2 f1 f2 dIx) :=
  PE.imp (pe_ix ix_seq ha hb hs) fun σ H Q h => two_of h fun F H1 env d1 d2 x y e p1 p2 q => snd_ix F H1 σ env d1 d2 x y Q e p1 p2 q
def cutD {α : Type} (xs : List α) (lo hi : Option Int) : List α := (xs.drop (HT.sIx xs.length 0 lo)).take (HT.sIx xs.length xs.length hi - HT.sIx xs.length 0 lo)
theorem cut_rps {K : PySem.W.Frag} {F : Fz} {H : Hp} {ds : List D} {vs : List V} (h : Rps K F H ds vs) (lo hi : Option Int) : Rps K F H (cutD ds lo hi) (cutV vs lo hi) := by
  unfold cutD cutV
  rw [h.length]
  exact (h.drop _).take _
def dSl (d : D) (lo hi : Option Int) (env : En) : R T := match d with
  | .tup xs => .ok (.fz (.tup (cutD xs lo hi))) env
  | .lst xs => .ok (.new (.lst (cutD xs lo hi))) env
  | .scr xs => .ok (.new (.lst (cutD xs lo hi))) env
  | .str z => if z.length ≤ sizeLine then okS (cutS z lo hi) env else .no
  | _ => .no
abbrev Eo := Option Ev
def eo (o : Eo) : En → R (Option Int) := fun env => match o with
  | none => .ok none env
  | some f => (f env).bind fun t env1 => match t with
    | .fz (.int i) => .ok (some i) env1
    | _ => .no
abbrev relO : Rel (Option Int) (Option Int) := fun _ _ _ _ _ a b => a = b
instance : Since relO := ⟨fun h _ => h⟩
def tO (X : Cx) (W : WX) (o : Eo) : TO := fun σ H Q => ∃ F env, EnvOk X.K F H σ env ∧ fin X W relO F H σ env (eo o env) Q
structure JO (X : Cx) (W : WX) (e : Option Expr) (o : Eo) : Prop where
  h : PO X e (tO X W o)
theorem PO.imp {X : Cx} {e : Option Expr} {t t' : TO} (h : PO X e t) (k : ∀ σ H Q, t' σ H Q → t σ H Q) : PO X e t' := ⟨fun pins s σ H Q I q => h.run pins s σ H Q I (k σ H Q q)⟩
theorem jo_none : JO X W none none := ⟨PO.imp po_none fun σ H Q ⟨F, env, e, h⟩ => h F H none e Stp.refl rfl⟩
theorem jo_some {e : Expr} (h : JE X W e f) : JO X W (some e) (some f) := ⟨PO.imp (po_some h) fun σ H Q ⟨F, env, e, h⟩ => ⟨F, env, e, fin.seq h fun F1 H1 t x env1 ok1 s1 r1 h1 => by
  split at h1
  · rename_i i
    exact ⟨i, r1, h1 F1 H1 _ ok1 Stp.refl rfl⟩
  · exact fin_no h1⟩⟩
def eSl (f : Ev) (lo hi : Eo) : Ev := fun env => (f env).bind fun t env1 => (eo lo env1).bind fun l env2 => (eo hi env2).bind fun u env3 => match peek env3 t with
  | some d => dSl d l u env3
  | none => .no
abbrev rSlD (K : PySem.W.Frag) : V → Option Int → Option Int → Hp → VK → Prop := fun x lo hi H Q => rSlL K x lo hi H Q ∨ (rSlA K x lo hi H Q ∨ rSlS x lo hi H Q)
theorem je_slice {e : Expr} {lo hi : Option Expr} {l u : Eo} {p2 : Pos} (ha : JE X W e f) (hl : JO X W lo l) (hu : JO X W hi u) : JE X W (.Subscript e (.Slice lo hi none p2) pos) (eSl f l u) :=
  PE.imp (pe_slice (r := rSlD X.K) (sl_list.or (sl_tupA.or sl_str)) ha hl.h hu.h) fun σ H Q ⟨F, env, e, h⟩ => by
    refine ⟨F, env, e, fin.seq h fun F1 H1 t x env1 ok1 s1 r1 h1 => ⟨F1, env1, ok1, fin.seq h1 fun F2 H2 l1 l2 env2 ok2 s2 r2 h2 => ⟨F2, env2, ok2, fin.seq h2 fun F3 H3 u1 u2 env3 ok3 s3 r3 h3 => ?_⟩⟩⟩
    subst r2 r3
    have r1' := (r1.carry ok1 s2).carry ok2 s3
    split at h3
    · rename_i d hd
      have p := r1'.pk ok3 hd
      unfold dSl at h3
      split at h3
      · rename_i xs
        obtain ⟨a, vs, rfl, hs, r⟩ := Rp.tupOf p
        refine .inr (.inl ⟨a, vs, rfl, hs, fun z => ?_, fun _ q hq => h3.tup ok3 (cut_rps r _ _) hq⟩)
        refine h3.val ok3 ?_
        have e : cutD xs l1 u1 = xs := by
          unfold cutD
          rw [← r.length, z.1, z.2, List.drop_zero, Nat.sub_zero, r.length, List.take_length]
        show Rp X.K F3 H3 (.tup (cutD xs l1 u1)) _
        rw [e]
        exact p
      · obtain ⟨a, vs, rfl, hs, r⟩ := p
        exact .inl ⟨a, vs, rfl, SqL.of hs, fun q hq => h3.lst ok3 (cut_rps r _ _) hq⟩
      · obtain ⟨a, vs, rfl, hs, r⟩ := Rp.scrOf p
        exact .inl ⟨a, vs, rfl, hs, fun q hq => h3.lst ok3 (cut_rps r _ _) hq⟩
      · split at h3
        · exact .inr (.inr ⟨_, p, by assumption, h3.val ok3 rfl⟩)
        · exact fin_no h3
      · exact fin_no h3
    · exact fin_no h3
end

/-! ### argument lists -/
inductive Ar where
  | fz (d : D) | at (i : Nat)
def AR (K : PySem.W.Frag) (F : Fz) (H : Hp) (σ : L2.St) : Ar → V → Prop
  | .fz d, v => Rp K F H d v
  | .at i, v => σ[i]? = some (some v)
def ARs (K : PySem.W.Frag) (F : Fz) (H : Hp) (σ : L2.St) : List Ar → List V → Prop
  | [], vs => vs = []
  | a :: as, vs => ∃ v r, vs = v :: r ∧ AR K F H σ a v ∧ ARs K F H σ as r
abbrev relA (K : PySem.W.Frag) : Rel (List Ar) (List V) := fun _ F' H' σ _ a b => ARs K F' H' σ a b
instance {K} : Since (relA K) := ⟨fun h _ => h⟩
abbrev Ea := En → R (List Ar)
def tA (X : Cx) (W : WX) (f : Ea) : TA := fun σ H Q => ∃ F env, EnvOk X.K F H σ env ∧ fin X W (relA X.K) F H σ env (f env) Q
abbrev JA (X : Cx) (W : WX) (es : List Expr) (f : Ea) : Prop := PA X es (tA X W f)
/-- an argument: b: an owned container is lent, not frozen -/
def arg (b : Bool) (env : En) (t : T) : Option (Ar × En) := match b, t with
  | true, .at i => match env[i]? with
    | some (.ow _ _) => some (.at i, env)
    | some (.fz d) => some (.fz d, env)
    | _ => none
  | _, t => match freeze env t with
    | some (d, env') => some (.fz d, env')
    | none => none
def aNil : Ea := fun env => .ok [] env
def aCons (b : Bool) (f : Ev) (fs : Ea) : Ea := fun env => (f env).bind fun t env1 => match arg b env1 t with
  | some (a, env2) => (fs env2).bind fun as env3 => .ok (a :: as) env3
  | none => .no
section
variable {X : Cx} {W : WX} {e : Expr} {es : List Expr} {f : Ev} {fs : Ea} {pos : Pos}
theorem AR.carry {K : PySem.W.Frag} {F F' : Fz} {H H' : Hp} {σ : L2.St} (x : Ext F H F' H') : ∀ {a : Ar} {v : V}, AR K F H σ a v → AR K F' H' σ a v
  | .fz d, _, h => Rp.ext x d _ h
  | .at i, _, h => h
theorem ja_nil : JA X W [] aNil := PA.imp pa_nil fun σ H Q ⟨F, env, e, h⟩ => h F H [] e Stp.refl rfl
theorem frz_stp {K : PySem.W.Frag} {F F' F'' : Fz} {H0 H : Hp} {σ : L2.St} {env0 env env' : En} (s : Stp F H0 σ env0 F' H σ env) (e0 : EnvOk K F H0 σ env0) (f1 : ∀ a, F' a → F'' a) (f2 : ∀ a, F'' a → F' a ∨ H0 a = none ∨ Own σ env a) (ow : ∀ a, Own σ env' a → Own σ env a)
    (kp : ∀ (i : Nat) (d : D), env[i]? = some (.ow true d) → env'[i]? = some (.ow true d)) (ln : env'.length = env.length) : Stp F H0 σ env0 F'' H σ env' where
  fr := s.fr
  f1 := fun a h => f1 a (s.f1 a h)
  f2 := fun a h => by
    rcases f2 a h with z | z | z
    · exact s.f2 a z
    · exact .inr (.inl z)
    · rcases s.ow a z with z | z
      · exact .inr (.inr z)
      · exact .inr (.inl z)
  ow := fun a h => s.ow a (ow a h)
  dm := s.dm
  kp := fun i d h => by
    obtain ⟨e1, d', h'⟩ := s.kp i d h
    exact ⟨e1, d', kp i d' h'⟩
  ln := ln.trans s.ln
theorem arg_len {b : Bool} {env env' : En} {t : T} {a : Ar} (p : arg b env t = some (a, env')) : env'.length = env.length := by
  unfold arg at p
  split at p
  · split at p
    · cases p; rfl
    · cases p; rfl
    · cases p
  · split at p
    · rename_i q
      cases p
      exact freeze_len q
    · cases p
theorem arg_of {b : Bool} {F : Fz} {H0 H : Hp} {σ : L2.St} {env env' : En} {t : T} {v : V} {a : Ar} (h : TR X.K H0 F H σ env t v) (e : EnvOk X.K F H σ env) (dm : ∀ a o, H0 a = some o → ∃ o', H a = some o') (p : arg b env t = some (a, env')) :
    ∃ F', EnvOk X.K F' H σ env' ∧ (∀ a, F a → F' a) ∧ (∀ a, F' a → F a ∨ H0 a = none ∨ Own σ env a) ∧ (∀ a, Own σ env' a → Own σ env a) ∧ (∀ (i : Nat) (d : D), env[i]? = some (.ow true d) → env'[i]? = some (.ow true d)) ∧ AR X.K F' H σ a v := by
  unfold arg at p
  split at p
  · rename_i i
    split at p
    · cases p
      exact ⟨F, e, fun _ z => z, fun _ z => .inl z, fun _ z => z, fun _ _ z => z, h⟩
    · rename_i d q
      cases p
      obtain ⟨v', h1, h2⟩ := e.fz i d q
      have h : σ[i]? = some (some v) := h
      rw [h] at h1
      cases h1
      exact ⟨F, e, fun _ z => z, fun _ z => .inl z, fun _ z => z, fun _ _ z => z, h2⟩
    · cases p
  · split at p
    · rename_i d env2 q
      cases p
      obtain ⟨F', h1, h2, h3, h4, h5, h6⟩ := h.freeze e dm q
      exact ⟨F', h1, h2, h3, h4, h5, h6⟩
    · cases p
theorem ja_cons (b : Bool) (ha : JE X W e f) (hr : JA X W es fs) (hs : starEach (e :: es) X.env = (false, eval e X.env) :: starEach es X.env := by rfl) : JA X W (e :: es) (aCons b f fs) :=
  PA.imp (pa_cons ha hr hs) fun σ H Q ⟨F, env, e, h⟩ => by
    refine ⟨F, env, e, ?_⟩
    unfold aCons at h
    cases q : f env with
    | no => rw [q] at h; exact h
    | ex x env' => rw [q] at h; exact h
    | ok t env1 =>
      rw [q] at h
      intro F1 H1 v ok1 s1 r1
      have h1 : fin X W (relA X.K) F H σ env (match arg b env1 t with
        | some (a, env2) => (fs env2).bind fun as env3 => R.ok (a :: as) env3
        | none => R.no) Q := h
      split at h1
      · rename_i a env2 ha
        obtain ⟨F2, ok2, f1, f2, ow, kp, ar⟩ := arg_of r1 ok1 s1.dm ha
        have s2 := frz_stp s1 e f1 f2 ow kp (arg_len ha)
        refine ⟨F2, env2, ok2, fin.seq (fin.shift h1 s2) fun F3 H3 as vs env3 ok3 s3 r3 h3 => ?_⟩
        exact h3 F3 H3 _ ok3 Stp.refl ⟨v, vs, rfl, ar.carry (s3.ext ok2), r3⟩
      · exact fin_no h1
/-- displays -/
def dsOf : List Ar → Option (List D)
  | [] => some []
  | .fz d :: r => (dsOf r).map (d :: ·)
  | .at _ :: _ => none
theorem ds_rps {K : PySem.W.Frag} {F : Fz} {H : Hp} {σ : L2.St} : ∀ {as : List Ar} {vs : List V} {ds : List D}, ARs K F H σ as vs → dsOf as = some ds → Rps K F H ds vs
  | [], _, _, h, e => by have h : _ = [] := h; subst h; cases e; rfl
  | .fz d :: r, _, _, h, e => by
    obtain ⟨v, w, rfl, h1, h2⟩ := h
    obtain ⟨ds, e1, rfl⟩ := Option.map_eq_some_iff.mp e
    exact ⟨v, w, rfl, h1, ds_rps h2 e1⟩
  | .at _ :: _, _, _, _, e => by cases e
def eTup (fs : Ea) : Ev := fun env => (fs env).bind fun as env1 => match dsOf as with
  | some ds => if ds.length ≤ 1000 then .ok (.fz (.tup ds)) env1 else .no
  | none => .no
def eLst (fs : Ea) : Ev := fun env => (fs env).bind fun as env1 => match dsOf as with
  | some ds => if ds.length ≤ 1000 then .ok (.new (.lst ds)) env1 else .no
  | none => .no
theorem line1000 {n : Nat} (h : n ≤ 1000) : n ≤ sizeLine := Nat.le_trans h (by rw [sizeLine_eq]; decide)
theorem je_tup {x1} (h : JA X W es fs) : JE X W (.Tuple es x1 pos) (eTup fs) :=
  PE.imp (pe_tup h) fun σ H Q ⟨F, env, e, h⟩ => ⟨F, env, e, fin.seq h fun F1 H1 as vs env1 ok1 s1 r1 h1 => by
    split at h1
    · rename_i ds hd
      split at h1
      · have r := ds_rps r1 hd
        exact ⟨by rw [r.length]; exact line1000 (by assumption), fun p hp => h1.tup ok1 r hp⟩
      · exact fin_no h1
    · exact fin_no h1⟩
theorem je_lst (h : JA X W es fs) : JE X W (.List es pos) (eLst fs) :=
  PE.imp (pe_lst h) fun σ H Q ⟨F, env, e, h⟩ => ⟨F, env, e, fin.seq h fun F1 H1 as vs env1 ok1 s1 r1 h1 => by
    split at h1
    · rename_i ds hd
      split at h1
      · have r := ds_rps r1 hd
        exact ⟨by rw [r.length]; exact line1000 (by assumption), fun p hp => h1.lst ok1 r hp⟩
      · exact fin_no h1
    · exact fin_no h1⟩
end
end Dl
namespace Dl
open PySem PySem.Spec PyProof.Rows L2

/-! ### built-in functions -/
def peekA (env : En) : Ar → Option D
  | .fz d => some d
  | .at i => peek env (.at i)
def peeks (env : En) : List Ar → Option (List D)
  | [] => some []
  | a :: as => match peekA env a, peeks env as with
    | some d, some ds => some (d :: ds)
    | _, _ => none
def Pks (K : PySem.W.Frag) (F : Fz) (H : Hp) : List D → List V → Prop
  | [], vs => vs = []
  | d :: ds, vs => ∃ v r, vs = v :: r ∧ Pk K F H d v ∧ Pks K F H ds r
theorem AR.pk {K : PySem.W.Frag} {F : Fz} {H : Hp} {σ : L2.St} {env : En} (e : EnvOk K F H σ env) : ∀ {a : Ar} {v : V} {d : D}, AR K F H σ a v → peekA env a = some d → Pk K F H d v
  | .fz d, _, _, h, q => by cases q; exact Rp.pk h
  | .at i, v, d, h, q => TR.pk (H0 := H) (t := .at i) h e q
theorem ARs.pks {K : PySem.W.Frag} {F : Fz} {H : Hp} {σ : L2.St} {env : En} (e : EnvOk K F H σ env) : ∀ {as : List Ar} {vs : List V} {ds : List D}, ARs K F H σ as vs → peeks env as = some ds → Pks K F H ds vs
  | [], _, _, h, q => by have h : _ = [] := h; subst h; cases q; rfl
  | a :: as, _, _, h, q => by
    obtain ⟨v, r, rfl, h1, h2⟩ := h
    unfold peeks at q
    split at q
    · rename_i d ds q1 q2
      cases q
      exact ⟨v, r, rfl, h1.pk e q1, h2.pks e q2⟩
    · cases q
def eCB (fs : Ea) (g : List D → En → R T) : Ev := fun env => (fs env).bind fun as env1 => match peeks env1 as with
  | some ds => g ds env1
  | none => .no
section
variable {X : Cx} {W : WX} {e : Expr} {es : List Expr} {f : Ev} {fs : Ea} {pos : Pos}
abbrev SndC (X : Cx) (W : WX) (g : List D → En → R T) (r : List V → Hp → VK → Prop) : Prop := ∀ F H σ env ds vs Q, EnvOk X.K F H σ env → Pks X.K F H ds vs → fin X W (relT X.K) F H σ env (g ds env) Q → r vs H Q
theorem cb_of {g : List D → En → R T} {r : List V → Hp → VK → Prop} (k : SndC X W g r) {σ : L2.St} {H : Hp} {Q : VK} (h : tE X W (eCB fs g) σ H Q) : tA X W fs σ H fun vs H1 => r vs H1 Q := by
  obtain ⟨F, env, e, h⟩ := h
  refine ⟨F, env, e, fin.seq h fun F1 H1 as vs env1 ok1 s1 r1 h1 => ?_⟩
  split at h1
  · rename_i ds hd
    exact k F1 H1 σ env1 ds vs Q ok1 (r1.pks ok1 hd) h1
  · exact fin_no h1
theorem je_cb {id : String} {x : Str} {p : Pos} {r : List V → Hp → VK → Prop} {g : List D → En → R T} (hc : CallR X (.builtin id) r) (k : SndC X W g r) (hm : X.mg x = none) (hv : bootBuiltins x = some (.builtin id)) (ha : JA X W (e :: es) fs)
    (hg : Gl X x := by rfl) (hn : x ≠ "__name__" := by decide) (hdb : (x == ("__debug__" : Str)) = false := by decide)
    (he : starEach (e :: es) X.env = (false, eval e X.env) :: starEach es X.env := by rfl) (hpl : (backTo pos (starEach es X.env)).any (·.1) = false := by rfl) : JE X W (.Call (.Name x p) (e :: es) [] pos) (eCB fs g) :=
  PE.imp (pe_callB hc hg hm hv ha hn hdb he hpl) fun σ H Q h => cb_of k h
theorem je_ct {id : String} {x : Str} {p : Pos} {r : List V → Hp → VK → Prop} {g : List D → En → R T} (hc : CallR X (.type id) r) (k : SndC X W g r) (hm : X.mg x = none) (hv : bootBuiltins x = some (.type id)) (ha : JA X W (e :: es) fs)
    (hg : Gl X x := by rfl) (hn : x ≠ "__name__" := by decide) (hdb : (x == ("__debug__" : Str)) = false := by decide)
    (he : starEach (e :: es) X.env = (false, eval e X.env) :: starEach es X.env := by rfl) (hpl : (backTo pos (starEach es X.env)).any (·.1) = false := by rfl) : JE X W (.Call (.Name x p) (e :: es) [] pos) (eCB fs g) :=
  PE.imp (pe_callTy hc hg hm hv ha hn hdb he hpl) fun σ H Q h => cb_of k h
/-- one from outside the program's own module (math.gcd) -/
theorem je_cbf {id : String} {x : Str} {p : Pos} {r : List V → Hp → VK → Prop} {g : List D → En → R T} (hc : CallR X (.builtin id) r) (k : SndC X W g r) (hm : X.mg x = some (.builtin id)) (ha : JA X W (e :: es) fs)
    (hg : Gl X x := by rfl) (hdb : (x == ("__debug__" : Str)) = false := by decide)
    (he : starEach (e :: es) X.env = (false, eval e X.env) :: starEach es X.env := by rfl) (hpl : (backTo pos (starEach es X.env)).any (·.1) = false := by rfl) : JE X W (.Call (.Name x p) (e :: es) [] pos) (eCB fs g) :=
  PE.imp (pe_callBfun hc hg hm ha hdb he hpl) fun σ H Q h => cb_of k h
end
def dLen : D → Option Nat
  | .str x => if x.length ≤ sizeLine then some x.length else none
  | .tup xs => some xs.length
  | .lst xs => some xs.length
  | .scr xs => some xs.length
  | _ => none
def gLen (ds : List D) (env : En) : R T := match ds with
  | [d] => match dLen d with
    | some n => okI n env
    | none => .no
  | _ => .no
theorem pks1 {K : PySem.W.Frag} {F : Fz} {H : Hp} {d : D} {vs : List V} (h : Pks K F H [d] vs) : ∃ v, vs = [v] ∧ Pk K F H d v := by
  obtain ⟨v, r, rfl, h1, h2⟩ := h
  have h2 : r = [] := h2
  subst h2
  exact ⟨v, rfl, h1⟩
theorem pks2 {K : PySem.W.Frag} {F : Fz} {H : Hp} {d d' : D} {vs : List V} (h : Pks K F H [d, d'] vs) : ∃ v v', vs = [v, v'] ∧ Pk K F H d v ∧ Pk K F H d' v' := by
  obtain ⟨v, r, rfl, h1, h2⟩ := h
  obtain ⟨v', rfl, h3⟩ := pks1 h2
  exact ⟨v, v', rfl, h1, h3⟩
theorem pk_len {K : PySem.W.Frag} {F : Fz} {H : Hp} : ∀ {d : D} {v : V} {n : Nat}, Pk K F H d v → dLen d = some n → LenV K v H n
  | .str x, _, n, h, e => by
    have h : _ = V.str x := h
    subst h
    have e : (if x.length ≤ sizeLine then some x.length else none) = some n := e
    split at e
    · cases e; exact ⟨by assumption, rfl⟩
    · cases e
  | .tup ds, _, _, h, e => by obtain ⟨a, vs, rfl, hs, r⟩ := Rp.tupOf h; cases e; exact .inr ⟨vs, hs, r.length.symm⟩
  | .lst ds, _, _, h, e => by obtain ⟨a, vs, rfl, hs, r⟩ := h; cases e; exact .inl ⟨vs, SqL.of hs, r.length.symm⟩
  | .scr ds, _, _, h, e => by obtain ⟨a, vs, rfl, hs, r⟩ := Rp.scrOf h; cases e; exact .inl ⟨vs, hs, r.length.symm⟩
  | .non, _, _, _, e => by cases e
  | .bl _, _, _, _, e => by cases e
  | .int _, _, _, _, e => by cases e
  | .dK _ _, _, _, _, e => by cases e
def gAbs (ds : List D) (env : En) : R T := match ds with
  | [.int i] => okI (if i < 0 then -i else i) env
  | _ => .no
def gMax2 (ds : List D) (env : En) : R T := match ds with
  | [.int i, .int j] => okI (if j > i then j else i) env
  | _ => .no
def gMin2 (ds : List D) (env : En) : R T := match ds with
  | [.int i, .int j] => okI (if j < i then j else i) env
  | _ => .no
def gInt (ds : List D) (env : En) : R T := match ds with
  | [.int i] => okI i env
  | [.bl b] => okI (if b = true then 1 else 0) env
  | _ => .no
def gStr (ds : List D) (env : En) : R T := match ds with
  | [.int i] => if i.natAbs.log2 < 1920 then okS (toString i) env else .no
  | _ => .no
def intsD : List D → Option (List Int)
  | [] => some []
  | .int i :: r => (intsD r).map (i :: ·)
  | _ :: _ => none
def blsOf : List D → Option (List Bool)
  | [] => some []
  | .bl i :: r => (blsOf r).map (i :: ·)
  | _ :: _ => none
theorem ints_eq : ∀ {ds : List D} {ns : List Int}, intsD ds = some ns → ds = ns.map D.int
  | [], _, e => by cases e; rfl
  | .int i :: r, _, e => by
    obtain ⟨q, e1, rfl⟩ := Option.map_eq_some_iff.mp e
    rw [ints_eq e1]; rfl
  | .non :: _, _, e => by cases e
  | .bl _ :: _, _, e => by cases e
  | .str _ :: _, _, e => by cases e
  | .tup _ :: _, _, e => by cases e
  | .lst _ :: _, _, e => by cases e
  | .scr _ :: _, _, e => by cases e
  | .dK _ _ :: _, _, e => by cases e
theorem bls_eq : ∀ {ds : List D} {ns : List Bool}, blsOf ds = some ns → ds = ns.map D.bl
  | [], _, e => by cases e; rfl
  | .bl i :: r, _, e => by
    obtain ⟨q, e1, rfl⟩ := Option.map_eq_some_iff.mp e
    rw [bls_eq e1]; rfl
  | .non :: _, _, e => by cases e
  | .int _ :: _, _, e => by cases e
  | .str _ :: _, _, e => by cases e
  | .tup _ :: _, _, e => by cases e
  | .lst _ :: _, _, e => by cases e
  | .scr _ :: _, _, e => by cases e
  | .dK _ _ :: _, _, e => by cases e
@[simp] theorem ints_map (ns : List Int) : intsD (ns.map D.int) = some ns := by
  induction ns with
  | nil => rfl
  | cons n ns ih => simp [intsD, ih]
@[simp] theorem bls_map (ns : List Bool) : blsOf (ns.map D.bl) = some ns := by
  induction ns with
  | nil => rfl
  | cons n ns ih => simp [blsOf, ih]
def gSum (ds : List D) (env : En) : R T := match ds with
  | [.lst xs] => match intsD xs with
    | some ns => okI ns.sum env
    | none => .no
  | _ => .no
def gAll (ds : List D) (env : En) : R T := match ds with
  | [.lst xs] => match blsOf xs with
    | some bs => okB (bs.all id) env
    | none => .no
  | _ => .no
def gAny (ds : List D) (env : En) : R T := match ds with
  | [.lst xs] => match blsOf xs with
    | some bs => okB (bs.any id) env
    | none => .no
  | _ => .no
/-- the greatest, the least of intsD -/
def maxI : Int → List Int → Int
  | m, [] => m
  | m, n :: r => maxI (if n > m then n else m) r
def minI : Int → List Int → Int
  | m, [] => m
  | m, n :: r => minI (if n < m then n else m) r
theorem maxI_ge : ∀ (r : List Int) (m : Int), m ≤ maxI m r ∧ ∀ y ∈ r, y ≤ maxI m r
  | [], m => ⟨Int.le_refl _, fun _ h => by cases h⟩
  | n :: r, m => by
    have := maxI_ge r (if n > m then n else m)
    have h0 : m ≤ (if n > m then n else m) ∧ n ≤ (if n > m then n else m) := by split <;> omega
    refine ⟨Int.le_trans h0.1 this.1, fun y h => ?_⟩
    rcases List.mem_cons.mp h with rfl | h
    · exact Int.le_trans h0.2 this.1
    · exact this.2 y h
theorem maxI_mem : ∀ (r : List Int) (m : Int), maxI m r ∈ m :: r
  | [], m => List.mem_cons_self
  | n :: r, m => by
    have := maxI_mem r (if n > m then n else m)
    show maxI (if n > m then n else m) r ∈ m :: n :: r
    rcases List.mem_cons.mp this with h | h
    · rw [h]; split <;> simp
    · exact List.mem_cons_of_mem _ (List.mem_cons_of_mem _ h)
theorem minI_le : ∀ (r : List Int) (m : Int), minI m r ≤ m ∧ ∀ y ∈ r, minI m r ≤ y
  | [], m => ⟨Int.le_refl _, fun _ h => by cases h⟩
  | n :: r, m => by
    have := minI_le r (if n < m then n else m)
    have h0 : (if n < m then n else m) ≤ m ∧ (if n < m then n else m) ≤ n := by split <;> omega
    refine ⟨Int.le_trans this.1 h0.1, fun y h => ?_⟩
    rcases List.mem_cons.mp h with rfl | h
    · exact Int.le_trans this.1 h0.2
    · exact this.2 y h
theorem minI_mem : ∀ (r : List Int) (m : Int), minI m r ∈ m :: r
  | [], m => List.mem_cons_self
  | n :: r, m => by
    have := minI_mem r (if n < m then n else m)
    show minI (if n < m then n else m) r ∈ m :: n :: r
    rcases List.mem_cons.mp this with h | h
    · rw [h]; split <;> simp
    · exact List.mem_cons_of_mem _ (List.mem_cons_of_mem _ h)
def gMax (ds : List D) (env : En) : R T := match ds with
  | [.lst xs] => match intsD xs with
    | some (n :: ns) => okI (maxI n ns) env
    | _ => .no
  | _ => .no
def gMin (ds : List D) (env : En) : R T := match ds with
  | [.lst xs] => match intsD xs with
    | some (n :: ns) => okI (minI n ns) env
    | _ => .no
  | _ => .no
def gGcd (ds : List D) (env : En) : R T := match ds with
  | [.int i, .int j] => okI ((Nat.gcd i.natAbs j.natAbs : Nat) : Int) env
  | _ => .no
/-- list(x), tuple(x) -/
def gList (ds : List D) (env : En) : R T := match ds with
  | [.lst xs] => .ok (.new (.lst xs)) env
  | [.tup xs] => .ok (.new (.lst xs)) env
  | [.scr xs] => .ok (.new (.lst xs)) env
  | _ => .no
def gTuple (ds : List D) (env : En) : R T := match ds with
  | [.lst xs] => .ok (.fz (.tup xs)) env
  | [.scr xs] => .ok (.fz (.tup xs)) env
  | [.tup xs] => .ok (.fz (.tup xs)) env
  | _ => .no
/-- isinstance(x, T) -/
def tyD : D → String
  | .non => "NoneType" | .bl _ => "bool" | .int _ => "int" | .str _ => "str" | .tup _ => "tuple" | .lst _ => "list" | .scr _ => "list" | .dK _ _ => "dict"
section
variable {X : Cx} {W : WX} {e e' : Expr} {es : List Expr} {f : Ev} {fs : Ea} {p pos : Pos}
theorem sc_len : SndC X W gLen (fun xs H Q => ∃ x n, xs = [x] ∧ LenV X.K x H n ∧ Q (.int n) H) := fun F H σ env ds vs Q e p h => by
  unfold gLen at h
  split at h
  · split at h
    · rename_i n hn
      obtain ⟨v, rfl, p1⟩ := pks1 p
      exact ⟨v, n, rfl, pk_len p1 hn, h.val e rfl⟩
    · exact fin_no h
  · exact fin_no h
theorem sc_abs : SndC X W gAbs (fun xs H Q => ∃ i, xs = [.int i] ∧ Q (.int (if i < 0 then -i else i)) H) := fun F H σ env ds vs Q e p h => by
  unfold gAbs at h
  split at h
  · obtain ⟨v, rfl, p1⟩ := pks1 p
    have p1 : v = V.int _ := p1
    subst p1
    exact ⟨_, rfl, h.val e rfl⟩
  · exact fin_no h
theorem sc_max2 : SndC X W gMax2 (fun xs H Q => ∃ i j, xs = [.int i, .int j] ∧ Q (.int (if j > i then j else i)) H) := fun F H σ env ds vs Q e p h => by
  unfold gMax2 at h
  split at h
  · obtain ⟨v, w, rfl, p1, p2⟩ := pks2 p
    have p1 : v = V.int _ := p1
    have p2 : w = V.int _ := p2
    subst p1 p2
    exact ⟨_, _, rfl, h.val e rfl⟩
  · exact fin_no h
theorem sc_min2 : SndC X W gMin2 (fun xs H Q => ∃ i j, xs = [.int i, .int j] ∧ Q (.int (if j < i then j else i)) H) := fun F H σ env ds vs Q e p h => by
  unfold gMin2 at h
  split at h
  · obtain ⟨v, w, rfl, p1, p2⟩ := pks2 p
    have p1 : v = V.int _ := p1
    have p2 : w = V.int _ := p2
    subst p1 p2
    exact ⟨_, _, rfl, h.val e rfl⟩
  · exact fin_no h
theorem sc_gcd : SndC X W gGcd rGcd := fun F H σ env ds vs Q e p h => by
  unfold gGcd at h
  split at h
  · obtain ⟨v, w, rfl, p1, p2⟩ := pks2 p
    have p1 : v = V.int _ := p1
    have p2 : w = V.int _ := p2
    subst p1 p2
    exact ⟨_, _, rfl, h.val e rfl⟩
  · exact fin_no h
theorem sc_int : SndC X W gInt (fun xs H Q => (∃ i, xs = [.int i] ∧ Q (.int i) H) ∨ ∃ k, xs = [.bl k] ∧ Q (.int (if k then 1 else 0)) H) := fun F H σ env ds vs Q e p h => by
  unfold gInt at h
  split at h
  · obtain ⟨v, rfl, p1⟩ := pks1 p
    have p1 : v = V.int _ := p1
    subst p1
    exact .inl ⟨_, rfl, h.val e rfl⟩
  · obtain ⟨v, rfl, p1⟩ := pks1 p
    have p1 : v = V.bl _ := p1
    subst p1
    exact .inr ⟨_, rfl, h.val e rfl⟩
  · exact fin_no h
theorem sc_str : SndC X W gStr (fun xs H Q => ∃ i, xs = [.int i] ∧ i.natAbs.log2 < 1920 ∧ Q (.str (toString i)) H) := fun F H σ env ds vs Q e p h => by
  unfold gStr at h
  split at h
  · split at h
    · obtain ⟨v, rfl, p1⟩ := pks1 p
      have p1 : v = V.int _ := p1
      subst p1
      exact ⟨_, rfl, by assumption, h.val e rfl⟩
    · exact fin_no h
  · exact fin_no h
theorem lst_ints {F : Fz} {H : Hp} {xs : List D} {ns : List Int} {v : V} (h : Pk X.K F H (.lst xs) v) (e : intsD xs = some ns) : ∃ a, v = .ref a ∧ SqL X.K H a (ns.map V.int) := by
  obtain ⟨a, vs, rfl, hs, r⟩ := h
  rw [ints_eq e] at r
  rw [r.ints] at hs
  exact ⟨a, rfl, SqL.of hs⟩
theorem sc_sum : SndC X W gSum (rSum X.K) := fun F H σ env ds vs Q e p h => by
  unfold gSum at h
  split at h
  · split at h
    · rename_i hn
      obtain ⟨v, rfl, p1⟩ := pks1 p
      obtain ⟨a, rfl, hs⟩ := lst_ints p1 hn
      exact ⟨a, _, rfl, hs, h.val e rfl⟩
    · exact fin_no h
  · exact fin_no h
theorem lst_bls {F : Fz} {H : Hp} {xs : List D} {ns : List Bool} {v : V} (h : Pk X.K F H (.lst xs) v) (e : blsOf xs = some ns) : ∃ a, v = .ref a ∧ SqL X.K H a (ns.map V.bl) := by
  obtain ⟨a, vs, rfl, hs, r⟩ := h
  rw [bls_eq e] at r
  rw [r.bls] at hs
  exact ⟨a, rfl, SqL.of hs⟩
theorem sc_all : SndC X W gAll (rAll X.K) := fun F H σ env ds vs Q e p h => by
  unfold gAll at h
  split at h
  · split at h
    · rename_i hn
      obtain ⟨v, rfl, p1⟩ := pks1 p
      obtain ⟨a, rfl, hs⟩ := lst_bls p1 hn
      exact ⟨a, _, rfl, hs, h.val e rfl⟩
    · exact fin_no h
  · exact fin_no h
theorem sc_any : SndC X W gAny (rAny X.K) := fun F H σ env ds vs Q e p h => by
  unfold gAny at h
  split at h
  · split at h
    · rename_i hn
      obtain ⟨v, rfl, p1⟩ := pks1 p
      obtain ⟨a, rfl, hs⟩ := lst_bls p1 hn
      exact ⟨a, _, rfl, hs, h.val e rfl⟩
    · exact fin_no h
  · exact fin_no h
theorem sc_max : SndC X W gMax (rMax X.K) := fun F H σ env ds vs Q e p h => by
  unfold gMax at h
  split at h
  · split at h
    · rename_i n ns hn
      obtain ⟨v, rfl, p1⟩ := pks1 p
      obtain ⟨a, rfl, hs⟩ := lst_ints p1 hn
      refine ⟨a, _, rfl, hs, by simp, fun m hm hle => ?_⟩
      have e1 : m = maxI n ns := by
        have h1 := hle _ (maxI_mem ns n)
        have h2 := maxI_ge ns n
        rcases List.mem_cons.mp hm with q | q
        · subst q; omega
        · have := h2.2 m q; omega
      rw [e1]
      exact h.val e rfl
    · exact fin_no h
  · exact fin_no h
theorem sc_min : SndC X W gMin (rMin X.K) := fun F H σ env ds vs Q e p h => by
  unfold gMin at h
  split at h
  · split at h
    · rename_i n ns hn
      obtain ⟨v, rfl, p1⟩ := pks1 p
      obtain ⟨a, rfl, hs⟩ := lst_ints p1 hn
      refine ⟨a, _, rfl, hs, by simp, fun m hm hle => ?_⟩
      have e1 : m = minI n ns := by
        have h1 := hle _ (minI_mem ns n)
        have h2 := minI_le ns n
        rcases List.mem_cons.mp hm with q | q
        · subst q; omega
        · have := h2.2 m q; omega
      rw [e1]
      exact h.val e rfl
    · exact fin_no h
  · exact fin_no h
theorem sc_list : SndC X W gList (fun xs H Q => ∃ p ys, xs = [.ref p] ∧ (SqL X.K H p ys ∨ SqT X.K H p ys) ∧ ∀ l, H l = none → Q (.ref l) (upd H l (.lst ys))) := fun F H σ env ds vs Q e p h => by
  unfold gList at h
  split at h
  · obtain ⟨v, rfl, p1⟩ := pks1 p
    obtain ⟨a, ws, rfl, hs, r⟩ := p1
    exact ⟨a, ws, rfl, .inl (SqL.of hs), fun l hl => h.lst e r hl⟩
  · obtain ⟨v, rfl, p1⟩ := pks1 p
    obtain ⟨a, ws, rfl, hs, r⟩ := Rp.tupOf p1
    exact ⟨a, ws, rfl, .inr hs, fun l hl => h.lst e r hl⟩
  · obtain ⟨v, rfl, p1⟩ := pks1 p
    obtain ⟨a, ws, rfl, hs, r⟩ := Rp.scrOf p1
    exact ⟨a, ws, rfl, .inl hs, fun l hl => h.lst e r hl⟩
  · exact fin_no h
theorem sc_tuple : SndC X W gTuple (fun xs H Q => ∃ p ys, xs = [.ref p] ∧ ((SqL X.K H p ys ∧ ∀ l, H l = none → Q (.ref l) (upd H l (.tup ys))) ∨ (SqT X.K H p ys ∧ Q (.ref p) H))) := fun F H σ env ds vs Q e p h => by
  unfold gTuple at h
  split at h
  · obtain ⟨v, rfl, p1⟩ := pks1 p
    obtain ⟨a, ws, rfl, hs, r⟩ := p1
    exact ⟨a, ws, rfl, .inl ⟨SqL.of hs, fun l hl => h.tup e r hl⟩⟩
  · obtain ⟨v, rfl, p1⟩ := pks1 p
    obtain ⟨a, ws, rfl, hs, r⟩ := Rp.scrOf p1
    exact ⟨a, ws, rfl, .inl ⟨hs, fun l hl => h.tup e r hl⟩⟩
  · obtain ⟨v, rfl, p1⟩ := pks1 p
    obtain ⟨a, ws, rfl, hs, r⟩ := Rp.tupOf p1
    exact ⟨a, ws, rfl, .inr ⟨hs, h.val e p1⟩⟩
  · exact fin_no h
theorem je_len (hm : X.mg "len" = none) (ha : JA X W (e :: es) fs) (hg : Gl X "len" := by rfl) (he : starEach (e :: es) X.env = (false, eval e X.env) :: starEach es X.env := by rfl) (hpl : (backTo pos (starEach es X.env)).any (·.1) = false := by rfl) :
    JE X W (.Call (.Name "len" p) (e :: es) [] pos) (eCB fs gLen) := je_cb call_len sc_len hm (by decide +kernel) ha hg (by decide) (by decide) he hpl
theorem je_abs (hm : X.mg "abs" = none) (ha : JA X W (e :: es) fs) (hg : Gl X "abs" := by rfl) (he : starEach (e :: es) X.env = (false, eval e X.env) :: starEach es X.env := by rfl) (hpl : (backTo pos (starEach es X.env)).any (·.1) = false := by rfl) :
    JE X W (.Call (.Name "abs" p) (e :: es) [] pos) (eCB fs gAbs) := je_cb call_abs sc_abs hm (by decide +kernel) ha hg (by decide) (by decide) he hpl
theorem je_max2 (hc : X.calm = true) (hm : X.mg "max" = none) (ha : JA X W (e :: es) fs) (hg : Gl X "max" := by rfl) (he : starEach (e :: es) X.env = (false, eval e X.env) :: starEach es X.env := by rfl) (hpl : (backTo pos (starEach es X.env)).any (·.1) = false := by rfl) :
    JE X W (.Call (.Name "max" p) (e :: es) [] pos) (eCB fs gMax2) := je_cb (call_max2 hc) sc_max2 hm (by decide +kernel) ha hg (by decide) (by decide) he hpl
theorem je_min2 (hc : X.calm = true) (hm : X.mg "min" = none) (ha : JA X W (e :: es) fs) (hg : Gl X "min" := by rfl) (he : starEach (e :: es) X.env = (false, eval e X.env) :: starEach es X.env := by rfl) (hpl : (backTo pos (starEach es X.env)).any (·.1) = false := by rfl) :
    JE X W (.Call (.Name "min" p) (e :: es) [] pos) (eCB fs gMin2) := je_cb (call_min2 hc) sc_min2 hm (by decide +kernel) ha hg (by decide) (by decide) he hpl
theorem je_max1 (hc : X.calm = true) (hm : X.mg "max" = none) (ha : JA X W (e :: es) fs) (hg : Gl X "max" := by rfl) (he : starEach (e :: es) X.env = (false, eval e X.env) :: starEach es X.env := by rfl) (hpl : (backTo pos (starEach es X.env)).any (·.1) = false := by rfl) :
    JE X W (.Call (.Name "max" p) (e :: es) [] pos) (eCB fs gMax) := je_cb (cr_max hc) sc_max hm (by decide +kernel) ha hg (by decide) (by decide) he hpl
theorem je_min1 (hc : X.calm = true) (hm : X.mg "min" = none) (ha : JA X W (e :: es) fs) (hg : Gl X "min" := by rfl) (he : starEach (e :: es) X.env = (false, eval e X.env) :: starEach es X.env := by rfl) (hpl : (backTo pos (starEach es X.env)).any (·.1) = false := by rfl) :
    JE X W (.Call (.Name "min" p) (e :: es) [] pos) (eCB fs gMin) := je_cb (cr_min hc) sc_min hm (by decide +kernel) ha hg (by decide) (by decide) he hpl
theorem je_sum (hc : X.calm = true) (hm : X.mg "sum" = none) (ha : JA X W (e :: es) fs) (hg : Gl X "sum" := by rfl) (he : starEach (e :: es) X.env = (false, eval e X.env) :: starEach es X.env := by rfl) (hpl : (backTo pos (starEach es X.env)).any (·.1) = false := by rfl) :
    JE X W (.Call (.Name "sum" p) (e :: es) [] pos) (eCB fs gSum) := je_cb (cr_sum hc) sc_sum hm (by decide +kernel) ha hg (by decide) (by decide) he hpl
theorem je_all (hc : X.calm = true) (hm : X.mg "all" = none) (ha : JA X W (e :: es) fs) (hg : Gl X "all" := by rfl) (he : starEach (e :: es) X.env = (false, eval e X.env) :: starEach es X.env := by rfl) (hpl : (backTo pos (starEach es X.env)).any (·.1) = false := by rfl) :
    JE X W (.Call (.Name "all" p) (e :: es) [] pos) (eCB fs gAll) := je_cb (cr_all hc) sc_all hm (by decide +kernel) ha hg (by decide) (by decide) he hpl
theorem je_any (hc : X.calm = true) (hm : X.mg "any" = none) (ha : JA X W (e :: es) fs) (hg : Gl X "any" := by rfl) (he : starEach (e :: es) X.env = (false, eval e X.env) :: starEach es X.env := by rfl) (hpl : (backTo pos (starEach es X.env)).any (·.1) = false := by rfl) :
    JE X W (.Call (.Name "any" p) (e :: es) [] pos) (eCB fs gAny) := je_cb (cr_any hc) sc_any hm (by decide +kernel) ha hg (by decide) (by decide) he hpl
theorem je_gcd {x : Str} (hm : X.mg x = some (.builtin "math.gcd")) (ha : JA X W (e :: es) fs) (hg : Gl X x := by rfl) (hdb : (x == ("__debug__" : Str)) = false := by decide) (he : starEach (e :: es) X.env = (false, eval e X.env) :: starEach es X.env := by rfl) (hpl : (backTo pos (starEach es X.env)).any (·.1) = false := by rfl) :
    JE X W (.Call (.Name x p) (e :: es) [] pos) (eCB fs gGcd) := je_cbf cr_gcd sc_gcd hm ha hg hdb he hpl
theorem je_intC (hm : X.mg "int" = none) (ha : JA X W (e :: es) fs) (hg : Gl X "int" := by rfl) (he : starEach (e :: es) X.env = (false, eval e X.env) :: starEach es X.env := by rfl) (hpl : (backTo pos (starEach es X.env)).any (·.1) = false := by rfl) :
    JE X W (.Call (.Name "int" p) (e :: es) [] pos) (eCB fs gInt) := je_ct call_int1 sc_int hm (by decide +kernel) ha hg (by decide) (by decide) he hpl
theorem je_strC (hm : X.mg "str" = none) (ha : JA X W (e :: es) fs) (hg : Gl X "str" := by rfl) (he : starEach (e :: es) X.env = (false, eval e X.env) :: starEach es X.env := by rfl) (hpl : (backTo pos (starEach es X.env)).any (·.1) = false := by rfl) :
    JE X W (.Call (.Name "str" p) (e :: es) [] pos) (eCB fs gStr) := je_ct call_str_int sc_str hm (by decide +kernel) ha hg (by decide) (by decide) he hpl
theorem je_listC (hm : X.mg "list" = none) (ha : JA X W (e :: es) fs) (hg : Gl X "list" := by rfl) (he : starEach (e :: es) X.env = (false, eval e X.env) :: starEach es X.env := by rfl) (hpl : (backTo pos (starEach es X.env)).any (·.1) = false := by rfl) :
    JE X W (.Call (.Name "list" p) (e :: es) [] pos) (eCB fs gList) := je_ct call_list_of sc_list hm (by decide +kernel) ha hg (by decide) (by decide) he hpl
theorem je_tupleC (hm : X.mg "tuple" = none) (ha : JA X W (e :: es) fs) (hg : Gl X "tuple" := by rfl) (he : starEach (e :: es) X.env = (false, eval e X.env) :: starEach es X.env := by rfl) (hpl : (backTo pos (starEach es X.env)).any (·.1) = false := by rfl) :
    JE X W (.Call (.Name "tuple" p) (e :: es) [] pos) (eCB fs gTuple) := je_ct call_tuple_of sc_tuple hm (by decide +kernel) ha hg (by decide) (by decide) he hpl
end
end Dl
namespace Dl
open PySem PySem.Spec PyProof.Rows L2

/-! ### what a def does: a function of its arguments' slots -/
inductive RD where
  | rt (t : T) (fin : En) | ex (x : Exn) (fin : En) | no
/-- the arguments: frozen values, and owned containers that are lent -/
def Lent (args : En) : Prop := ∀ (i : Nat) (s : Sl), args[i]? = some s → (∃ d, s = .fz d) ∨ ∃ d, s = .ow true d
def spM (K : PySem.W.Frag) (mg : Str → Option Value) (np : Nat) (m : En → RD) : Sp := fun vs H Q E => vs.length = np ∧ ∃ F args, EnvOk K F H (vs.map some) args ∧ Lent args ∧ match m args with
  | .rt t fin => ∀ F' H' v, EnvOk K F' H' (vs.map some) fin → Stp F H (vs.map some) args F' H' (vs.map some) fin → TR K H F' H' (vs.map some) fin t v → Q v H'
  | .ex x fin => ∀ F' H' cls d, EnvOk K F' H' (vs.map some) fin → Stp F H (vs.map some) args F' H' (vs.map some) fin → ExR mg H' x cls d → E cls d H'
  | .no => False

/-! ### a call -/
def slots (env : En) : List Ar → Option En
  | [] => some []
  | .fz d :: r => (slots env r).map (.fz d :: ·)
  | .at i :: r => match env[i]? with
    | some (.ow _ d) => (slots env r).map (.ow true d :: ·)
    | _ => none
def atIx : List Ar → List Nat
  | [] => []
  | .fz _ :: r => atIx r
  | .at i :: r => i :: atIx r
def put (env : En) (i : Nat) (d : D) : En := match env[i]? with
  | some (.ow b _) => env.set i (.ow b d)
  | _ => env
def backs : List Ar → En → En → En
  | .at i :: as, .ow _ d :: fs, env => backs as fs (put env i d)
  | _ :: as, _ :: fs, env => backs as fs env
  | _, _, env => env
def callM (m : En → RD) (as : List Ar) (env : En) : R T := match slots env as with
  | some sl => if (atIx as).Nodup then match m sl with
      | .rt (.fz d) fin => .ok (.fz d) (backs as fin env)
      | .rt (.new d) fin => .ok (.new d) (backs as fin env)
      | .rt (.at _) _ => .no
      | .ex x fin => .ex x (backs as fin env)
      | .no => .no
    else .no
  | none => .no
def eCall (m : En → RD) (fs : Ea) : Ev := fun env => (fs env).bind fun as env1 => callM m as env1

theorem put_len (env : En) (i : Nat) (d : D) : (put env i d).length = env.length := by
  unfold put
  split <;> simp
theorem put_ne {env : En} {i j : Nat} {d : D} (h : j ≠ i) : (put env i d)[j]? = env[j]? := by
  unfold put
  split
  · rw [List.getElem?_set_ne (Ne.symm h)]
  · rfl
theorem put_self {env : En} {i : Nat} {b : Bool} {d d0 : D} (h : env[i]? = some (.ow b d0)) : (put env i d)[i]? = some (.ow b d) := by
  unfold put
  rw [h]
  exact List.getElem?_set_self (List.getElem?_eq_some_iff.mp h).1
theorem backs_len : ∀ (as : List Ar) (fs env : En), (backs as fs env).length = env.length
  | [], fs, env => by cases fs <;> rfl
  | .fz _ :: as, [], env => rfl
  | .at _ :: as, [], env => rfl
  | .fz _ :: as, f :: fs, env => by unfold backs; exact backs_len as fs env
  | .at i :: as, .ow b d :: fs, env => by unfold backs; rw [backs_len as fs _, put_len]
  | .at i :: as, .un :: fs, env => by unfold backs; exact backs_len as fs env
  | .at i :: as, .fz d :: fs, env => by unfold backs; exact backs_len as fs env
theorem backs_out : ∀ (as : List Ar) (fs env : En) (j : Nat), j ∉ atIx as → (backs as fs env)[j]? = env[j]?
  | [], fs, env, j, _ => by cases fs <;> rfl
  | .fz _ :: as, [], env, j, _ => rfl
  | .at _ :: as, [], env, j, _ => rfl
  | .fz _ :: as, f :: fs, env, j, h => by unfold backs; exact backs_out as fs env j h
  | .at i :: as, .ow b d :: fs, env, j, h => by
    have h1 : j ≠ i := fun e => h (by rw [e]; exact List.mem_cons_self)
    unfold backs
    rw [backs_out as fs _ j (fun z => h (List.mem_cons_of_mem _ z)), put_ne h1]
  | .at i :: as, .un :: fs, env, j, h => by unfold backs; exact backs_out as fs env j (fun z => h (List.mem_cons_of_mem _ z))
  | .at i :: as, .fz d :: fs, env, j, h => by unfold backs; exact backs_out as fs env j (fun z => h (List.mem_cons_of_mem _ z))
theorem atIx_mem : ∀ {as : List Ar} {j : Nat}, j ∈ atIx as ↔ ∃ p : Nat, as[p]? = some (.at j)
  | [], j => by simp [atIx]
  | .fz d :: as, j => by
    rw [show atIx (.fz d :: as) = atIx as from rfl, atIx_mem (as := as)]
    constructor
    · rintro ⟨p, h⟩; exact ⟨p + 1, by simpa using h⟩
    · rintro ⟨p, h⟩
      cases p with
      | zero => simp at h
      | succ p => exact ⟨p, by simpa using h⟩
  | .at i :: as, j => by
    rw [show atIx (.at i :: as) = i :: atIx as from rfl, List.mem_cons, atIx_mem (as := as)]
    constructor
    · rintro (h | ⟨p, h⟩)
      · exact ⟨0, by simp [h]⟩
      · exact ⟨p + 1, by simpa using h⟩
    · rintro ⟨p, h⟩
      cases p with
      | zero => simp at h; exact .inl h.symm
      | succ p => exact .inr ⟨p, by simpa using h⟩
theorem backs_in : ∀ (as : List Ar) (fs env : En) (p j : Nat) (b c : Bool) (d d0 : D), (atIx as).Nodup → as[p]? = some (.at j) → fs[p]? = some (.ow c d) → env[j]? = some (.ow b d0) → (backs as fs env)[j]? = some (.ow b d)
  | [], _, _, p, _, _, _, _, _, _, h, _, _ => by simp at h
  | _ :: _, [], _, p, _, _, _, _, _, _, _, h, _ => by simp at h
  | .at i :: as, f :: fs, env, 0, j, b, c, d, d0, nd, h1, h2, h3 => by
    simp at h1 h2
    subst h1 h2
    unfold backs
    rw [backs_out as fs _ i (List.nodup_cons.mp nd).1]
    exact put_self h3
  | .fz _ :: as, f :: fs, env, 0, j, _, _, _, _, _, h1, _, _ => by simp at h1
  | .fz _ :: as, f :: fs, env, p + 1, j, b, c, d, d0, nd, h1, h2, h3 => by
    unfold backs
    exact backs_in as fs env p j b c d d0 nd (by simpa using h1) (by simpa using h2) h3
  | .at i :: as, .un :: fs, env, p + 1, j, b, c, d, d0, nd, h1, h2, h3 => by
    unfold backs
    exact backs_in as fs env p j b c d d0 (List.nodup_cons.mp nd).2 (by simpa using h1) (by simpa using h2) h3
  | .at i :: as, .fz _ :: fs, env, p + 1, j, b, c, d, d0, nd, h1, h2, h3 => by
    unfold backs
    exact backs_in as fs env p j b c d d0 (List.nodup_cons.mp nd).2 (by simpa using h1) (by simpa using h2) h3
  | .at i :: as, .ow _ d1 :: fs, env, p + 1, j, b, c, d, d0, nd, h1, h2, h3 => by
    have hji : j ≠ i := fun e => by
      subst e
      exact (List.nodup_cons.mp nd).1 (atIx_mem.mpr ⟨p, by simpa using h1⟩)
    unfold backs
    exact backs_in as fs _ p j b c d d0 (List.nodup_cons.mp nd).2 (by simpa using h1) (by simpa using h2) (by rw [put_ne hji]; exact h3)
/-- the slots that a call hands over -/
theorem slots_get : ∀ {as : List Ar} {env sl : En}, slots env as = some sl → sl.length = as.length ∧ ∀ p : Nat, (∀ d, as[p]? = some (.fz d) → sl[p]? = some (.fz d)) ∧ (∀ i, as[p]? = some (.at i) → ∃ b d, env[i]? = some (.ow b d) ∧ sl[p]? = some (.ow true d))
  | [], env, _, e => by cases e; exact ⟨rfl, fun p => ⟨fun d h => by simp at h, fun i h => by simp at h⟩⟩
  | .fz d :: as, env, _, e => by
    obtain ⟨q, e1, rfl⟩ := Option.map_eq_some_iff.mp e
    obtain ⟨h1, h2⟩ := slots_get e1
    refine ⟨by simp [h1], fun p => ?_⟩
    cases p with
    | zero => exact ⟨fun d' h => by simpa using h, fun i h => by simp at h⟩
    | succ p => exact ⟨fun d' h => by simpa using (h2 p).1 d' (by simpa using h), fun i h => by simpa using (h2 p).2 i (by simpa using h)⟩
  | .at i :: as, env, _, e => by
    unfold slots at e
    split at e
    · rename_i b d he
      obtain ⟨q, e1, rfl⟩ := Option.map_eq_some_iff.mp e
      obtain ⟨h1, h2⟩ := slots_get e1
      refine ⟨by simp [h1], fun p => ?_⟩
      cases p with
      | zero => exact ⟨fun d' h => by simp at h, fun j h => by
          simp at h
          subst h
          exact ⟨b, d, he, rfl⟩⟩
      | succ p => exact ⟨fun d' h => by simpa using (h2 p).1 d' (by simpa using h), fun i h => by simpa using (h2 p).2 i (by simpa using h)⟩
    · cases e
theorem ARs.get {K : PySem.W.Frag} {F : Fz} {H : Hp} {σ : L2.St} : ∀ {as : List Ar} {vs : List V}, ARs K F H σ as vs → vs.length = as.length ∧ ∀ (p : Nat) (a : Ar), as[p]? = some a → ∃ v, vs[p]? = some v ∧ AR K F H σ a v
  | [], _, h => by have h : _ = [] := h; subst h; exact ⟨rfl, fun p a h => by simp at h⟩
  | a :: as, _, h => by
    obtain ⟨v, r, rfl, h1, h2⟩ := h
    obtain ⟨l, g⟩ := ARs.get h2
    refine ⟨by simp [l], fun p a' h => ?_⟩
    cases p with
    | zero => simp at h; subst h; exact ⟨v, rfl, h1⟩
    | succ p => simpa using g p a' (by simpa using h)
section
variable {K : PySem.W.Frag} {F F' : Fz} {H H' : Hp} {σ : L2.St} {env sl fin : En} {as : List Ar} {vs : List V}
theorem map_some {vs : List V} {p : Nat} {v : V} : (vs.map some)[p]? = some (some v) ↔ vs[p]? = some v := by
  rw [List.getElem?_map]
  cases vs[p]? <;> simp
theorem sl_cases (e : EnvOk K F H σ env) (r : ARs K F H σ as vs) (hs : slots env as = some sl) {p : Nat} {s : Sl} (h : sl[p]? = some s) :
    (∃ d v, s = .fz d ∧ as[p]? = some (.fz d) ∧ vs[p]? = some v ∧ Rp K F H d v) ∨ ∃ (i : Nat) (b : Bool) (d : D) (a : Addr), s = .ow true d ∧ as[p]? = some (.at i) ∧ env[i]? = some (.ow b d) ∧ vs[p]? = some (.ref a) ∧ σ[i]? = some (some (.ref a)) ∧ ¬F a ∧ Ow K F H a d := by
  obtain ⟨l1, g1⟩ := slots_get hs
  obtain ⟨l2, g2⟩ := r.get
  have hp : p < as.length := by rw [← l1]; exact (List.getElem?_eq_some_iff.mp h).1
  have ha : as[p]? = some as[p] := List.getElem?_eq_getElem hp
  obtain ⟨v, hv, rv⟩ := g2 p _ ha
  cases q : as[p] with
  | fz d =>
    rw [q] at ha rv
    have h1 := (g1 p).1 d ha
    rw [h1] at h
    cases h
    exact .inl ⟨d, v, rfl, ha, hv, rv⟩
  | «at» i =>
    rw [q] at ha rv
    obtain ⟨b, d, h1, h2⟩ := (g1 p).2 i ha
    rw [h2] at h
    cases h
    obtain ⟨a, h3, h4, h5⟩ := e.ow i b d h1
    have rv : σ[i]? = some (some v) := rv
    rw [rv] at h3
    cases h3
    exact .inr ⟨i, b, d, a, rfl, ha, h1, hv, rv, h4, h5⟩
theorem nodup_at : ∀ {as : List Ar} {p q i : Nat}, (atIx as).Nodup → as[p]? = some (.at i) → as[q]? = some (.at i) → p = q
  | [], p, _, _, _, h, _ => by simp at h
  | .fz d :: as, 0, _, _, _, h, _ => by simp at h
  | .fz d :: as, p + 1, 0, _, _, _, h => by simp at h
  | .fz d :: as, p + 1, q + 1, i, nd, h1, h2 => congrArg Nat.succ (nodup_at (as := as) nd (by simpa using h1) (by simpa using h2))
  | .at j :: as, 0, 0, _, _, _, _ => rfl
  | .at j :: as, 0, q + 1, i, nd, h1, h2 => by
    simp at h1
    subst h1
    exact absurd (atIx_mem.mpr ⟨q, by simpa using h2⟩) (List.nodup_cons.mp nd).1
  | .at j :: as, p + 1, 0, i, nd, h1, h2 => by
    simp at h2
    subst h2
    exact absurd (atIx_mem.mpr ⟨p, by simpa using h1⟩) (List.nodup_cons.mp nd).1
  | .at j :: as, p + 1, q + 1, i, nd, h1, h2 => congrArg Nat.succ (nodup_at (as := as) (List.nodup_cons.mp nd).2 (by simpa using h1) (by simpa using h2))
theorem sl_own (e : EnvOk K F H σ env) (r : ARs K F H σ as vs) (hs : slots env as = some sl) {a : Addr} : Own (vs.map some) sl a ↔ ∃ (p i : Nat) (b : Bool) (d : D), as[p]? = some (.at i) ∧ env[i]? = some (.ow b d) ∧ σ[i]? = some (some (.ref a)) := by
  constructor
  · rintro ⟨p, b, d, h1, h2⟩
    rcases sl_cases e r hs h1 with ⟨d', v, h, _⟩ | ⟨i, b', d', a', h, h3, h4, h5, h6, _⟩
    · cases h
    · rw [map_some, h5] at h2
      cases h2
      exact ⟨p, i, b', d', h3, h4, h6⟩
  · rintro ⟨p, i, b, d, h1, h2, h3⟩
    obtain ⟨l1, g1⟩ := slots_get hs
    obtain ⟨l2, g2⟩ := r.get
    obtain ⟨b', d', h4, h5⟩ := (g1 p).2 i h1
    obtain ⟨v, hv, rv⟩ := g2 p _ h1
    have rv : σ[i]? = some (some v) := rv
    rw [h3] at rv
    cases rv
    exact ⟨p, true, d', h5, map_some.mpr hv⟩
theorem sl_ok (e : EnvOk K F H σ env) (r : ARs K F H σ as vs) (hs : slots env as = some sl) (nd : (atIx as).Nodup) : EnvOk K F H (vs.map some) sl ∧ Lent sl := by
  obtain ⟨l1, g1⟩ := slots_get hs
  obtain ⟨l2, g2⟩ := r.get
  refine ⟨⟨by rw [List.length_map, l1, l2], fun p d h => ?_, fun p b d h => ?_, fun p q b b' d d' a h1 h2 s1 s2 => ?_, e.tr⟩, fun p s h => ?_⟩
  · rcases sl_cases e r hs h with ⟨d', v, h, _, hv, rv⟩ | ⟨_, _, _, _, h, _⟩
    · cases h; exact ⟨v, map_some.mpr hv, rv⟩
    · cases h
  · rcases sl_cases e r hs h with ⟨_, _, h, _⟩ | ⟨i, b', d', a', h, h3, h4, h5, h6, h7, h8⟩
    · cases h
    · cases h; exact ⟨a', map_some.mpr h5, h7, h8⟩
  · rcases sl_cases e r hs h1 with ⟨_, _, h, _⟩ | ⟨i, b1, d1, a1, z1, z2, z3, z4, z5, _⟩
    · cases h
    rcases sl_cases e r hs h2 with ⟨_, _, h, _⟩ | ⟨j, b2, d2, a2, y1, y2, y3, y4, y5, _⟩
    · cases h
    rw [map_some] at s1 s2
    rw [s1] at z4; cases z4
    rw [s2] at y4; cases y4
    have := e.ne i j _ _ _ _ a z3 y3 z5 y5
    subst this
    exact nodup_at nd z2 y2
  · rcases sl_cases e r hs h with ⟨d', v, h, _⟩ | ⟨_, _, d', _, h, _⟩
    · exact .inl ⟨d', h⟩
    · exact .inr ⟨d', h⟩
/-- behind the call -/
theorem backs_ok (e : EnvOk K F H σ env) (r : ARs K F H σ as vs) (hs : slots env as = some sl) (nd : (atIx as).Nodup) (e' : EnvOk K F' H' (vs.map some) fin) (s' : Stp F H (vs.map some) sl F' H' (vs.map some) fin) :
    EnvOk K F' H' σ (backs as fin env) ∧ Stp F H σ env F' H' σ (backs as fin env) := by
  obtain ⟨l1, g1⟩ := slots_get hs
  obtain ⟨l2, g2⟩ := r.get
  have esl := (sl_ok e r hs nd).1
  have x : Ext F H F' H' := s'.ext esl
  -- a slot that is not lent, a slot that is
  have inn : ∀ {p i : Nat}, as[p]? = some (.at i) → ∃ (b : Bool) (d d' : D) (a : Addr), env[i]? = some (.ow b d) ∧ (backs as fin env)[i]? = some (.ow b d') ∧ σ[i]? = some (some (.ref a)) ∧ vs[p]? = some (.ref a) ∧ fin[p]? = some (.ow true d') := fun {p i} h => by
    obtain ⟨b, d, h1, h2⟩ := (g1 p).2 i h
    obtain ⟨_, d', h3⟩ := s'.kp p d h2
    obtain ⟨v, hv, rv⟩ := g2 p _ h
    obtain ⟨a, h4, _⟩ := e.ow i b d h1
    have rv : σ[i]? = some (some v) := rv
    rw [h4] at rv
    cases rv
    exact ⟨b, d, d', a, h1, backs_in as fin env p i b true d' d nd h h3 h1, h4, hv, h3⟩
  have shape : ∀ (j : Nat) (s : Sl), (backs as fin env)[j]? = some s → (j ∉ atIx as ∧ env[j]? = some s) ∨ ∃ (p : Nat) (b : Bool) (d d' : D) (a : Addr), as[p]? = some (.at j) ∧ env[j]? = some (.ow b d) ∧ s = .ow b d' ∧ σ[j]? = some (some (.ref a)) ∧ vs[p]? = some (.ref a) ∧ fin[p]? = some (.ow true d') := fun j s h => by
    by_cases hj : j ∈ atIx as
    · obtain ⟨p, hp⟩ := atIx_mem.mp hj
      obtain ⟨b, d, d', a, h1, h2, h3, h4, h5⟩ := inn hp
      rw [h2] at h
      cases h
      exact .inr ⟨p, b, d, d', a, hp, h1, rfl, h3, h4, h5⟩
    · exact .inl ⟨hj, by rw [backs_out as fin env j hj] at h; exact h⟩
  have notlent : ∀ {j : Nat} {b : Bool} {d : D} {a : Addr}, j ∉ atIx as → env[j]? = some (.ow b d) → σ[j]? = some (some (.ref a)) → ¬Own (vs.map some) sl a := fun {j b d a} hj h1 h2 z => by
    obtain ⟨p, i, b', d', z1, z2, z3⟩ := (sl_own e r hs).mp z
    have := e.ne i j _ _ _ _ a z2 h1 z3 h2
    subst this
    exact hj (atIx_mem.mpr ⟨p, z1⟩)
  refine ⟨⟨by rw [backs_len]; exact e.len, fun j d h => ?_, fun j b d h => ?_, fun i j b b' d d' a h1 h2 s1 s2 => ?_, e'.tr⟩, ⟨fun a o h n => s'.fr a o h fun z => n ?_, s'.f1, fun a h => ?_, fun a h => ?_, s'.dm, fun j d h => ⟨rfl, ?_⟩, backs_len as fin env⟩⟩
  · rcases shape j _ h with ⟨_, h1⟩ | ⟨_, _, _, _, _, _, _, h1, _⟩
    · obtain ⟨v, z1, z2⟩ := e.fz j d h1
      exact ⟨v, z1, Rp.ext x d v z2⟩
    · cases h1
  · rcases shape j _ h with ⟨hj, h1⟩ | ⟨p, b1, d1, d2, a, h1, h2, h3, h4, h5, h6⟩
    · obtain ⟨a, z1, z2, z3⟩ := e.ow j b d h1
      obtain ⟨o, ho⟩ := z3.there
      have nl := notlent hj h1 z1
      refine ⟨a, z1, fun z => ?_, z3.ext x (fun o q => s'.fr a o q nl)⟩
      rcases s'.f2 a z with y | y | y
      · exact z2 y
      · rw [ho] at y; cases y
      · exact nl y
    · cases h3
      obtain ⟨a', z1, z2, z3⟩ := e'.ow p true _ h6
      rw [map_some, h5] at z1
      cases z1
      exact ⟨a, h4, z2, z3⟩
  · have oldOw : ∀ {m : Nat} {c : Bool} {d4 : D}, (backs as fin env)[m]? = some (.ow c d4) → ∃ c' d5, env[m]? = some (.ow c' d5) := fun {m c d4} z => by
      rcases shape m _ z with ⟨_, h1⟩ | ⟨p, b1, d1, d2, a, h1, h2, _⟩
      · exact ⟨_, _, h1⟩
      · exact ⟨_, _, h2⟩
    obtain ⟨c1, d1, q1⟩ := oldOw h1
    obtain ⟨c2, d2, q2⟩ := oldOw h2
    exact e.ne i j _ _ _ _ a q1 q2 s1 s2
  · obtain ⟨p, i, b', d', z1, z2, z3⟩ := (sl_own e r hs).mp z
    exact ⟨i, b', d', z2, z3⟩
  · rcases s'.f2 a h with y | y | y
    · exact .inl y
    · exact .inr (.inl y)
    · obtain ⟨p, i, b', d', z1, z2, z3⟩ := (sl_own e r hs).mp y
      exact .inr (.inr ⟨i, b', d', z2, z3⟩)
  · obtain ⟨j, b, d, h1, h2⟩ := h
    rcases shape j _ h1 with ⟨_, h3⟩ | ⟨p, b1, d1, d2, a', h3, h4, h5, h6, _⟩
    · exact .inl ⟨j, b, d, h3, h2⟩
    · exact .inl ⟨j, b1, d1, h4, h2⟩
  · by_cases hj : j ∈ atIx as
    · obtain ⟨p, hp⟩ := atIx_mem.mp hj
      obtain ⟨b, d1, d2, a, h1, h2, _⟩ := inn hp
      rw [h1] at h
      cases h
      exact ⟨d2, h2⟩
    · exact ⟨d, by rw [backs_out as fin env j hj]; exact h⟩
end
section
variable {X : Cx} {W : WX} {e : Expr} {es : List Expr} {fs : Ea} {x : Str} {p pos : Pos}
theorem call_of {m : En → RD} {np : Nat} {σ : L2.St} {H : Hp} {Q : VK} (h : tE X W (eCall m fs) σ H Q) (hl : ∀ sl, m sl ≠ .no → sl.length = np) : tA X W fs σ H fun vs H1 => spM X.K X.mg np m vs H1 Q (WE W σ) := by
  obtain ⟨F, env, e, h⟩ := h
  refine ⟨F, env, e, fin.seq h fun F1 H1 as vs env1 ok1 s1 r1 h1 => ?_⟩
  unfold callM at h1
  split at h1
  · rename_i sl hs
    split at h1
    · rename_i nd
      obtain ⟨es, lt⟩ := sl_ok ok1 r1 hs nd
      have hlen : m sl ≠ .no → vs.length = np := fun z => by
        rw [← hl sl z, (slots_get hs).1, r1.get.1]
      split at h1
      · rename_i d fin hm
        refine ⟨hlen (by rw [hm]; exact fun z => nomatch z), F1, sl, es, lt, ?_⟩
        rw [hm]
        intro F' H' v e' s' t'
        obtain ⟨b1, b2⟩ := backs_ok ok1 r1 hs nd e' s'
        exact h1 F' H' v b1 b2 t'
      · rename_i d fin hm
        refine ⟨hlen (by rw [hm]; exact fun z => nomatch z), F1, sl, es, lt, ?_⟩
        rw [hm]
        intro F' H' v e' s' t'
        obtain ⟨b1, b2⟩ := backs_ok ok1 r1 hs nd e' s'
        refine h1 F' H' v b1 b2 ?_
        obtain ⟨a, rfl, nf, w, no, f0⟩ := t'
        refine ⟨a, rfl, nf, w, fun z => ?_, f0⟩
        rcases b2.ow a z with y | y
        · obtain ⟨o, ho⟩ := ok1.own_tr y
          rw [f0] at ho; cases ho
        · -- an owned slot's object stood already
          obtain ⟨j, b, d', z1, z2⟩ := z
          have z0 := b2.ow a ⟨j, b, d', z1, z2⟩
          rcases z0 with y' | y'
          · obtain ⟨o, ho⟩ := ok1.own_tr y'
            rw [f0] at ho; cases ho
          · by_cases hj : j ∈ atIx as
            · obtain ⟨p, hp⟩ := atIx_mem.mp hj
              obtain ⟨b', d2, q1, q2⟩ := ((slots_get hs).2 p).2 j hp
              obtain ⟨a', q3, q4, q5⟩ := ok1.ow j b' d2 q1
              rw [z2] at q3; cases q3
              obtain ⟨o, ho⟩ := q5.there
              rw [f0] at ho; cases ho
            · rw [backs_out as fin env1 j hj] at z1
              obtain ⟨a', q3, q4, q5⟩ := ok1.ow j b d' z1
              rw [z2] at q3; cases q3
              obtain ⟨o, ho⟩ := q5.there
              rw [f0] at ho; cases ho
      · exact fin_no h1
      · rename_i y fin hm
        refine ⟨hlen (by rw [hm]; exact fun z => nomatch z), F1, sl, es, lt, ?_⟩
        rw [hm]
        intro F' H' cls d e' s' t'
        obtain ⟨b1, b2⟩ := backs_ok ok1 r1 hs nd e' s'
        exact h1 F' H' cls d b1 b2 t'
      · exact fin_no h1
    · exact fin_no h1
  · exact fin_no h1
/-- f(e, ..) -/
theorem je_call {m : En → RD} {k : Nat} {f : Addr} {fd : FuncData} {ps : List Str} (G : FnOk X.prog X.w X.K X.mg X.base (L2.CX X.prog X.w) k f fd ps (spM X.K X.mg ps.length m)) (hl : ∀ sl, m sl ≠ .no → sl.length = ps.length) (hr : Room k X.A) (tk : Takes X W)
    (hm : X.mg x = some (.ref f)) (hk : PySem.W.keepIn X.K (.ref f) = true) (hb : Binds X.K fd ps []) (ha : JA X W (e :: es) fs) (hg : Gl X x := by rfl) (hdb : (x == ("__debug__" : Str)) = false := by decide)
    (he : starEach (e :: es) X.env = (false, eval e X.env) :: starEach es X.env := by rfl) (hpl : (backTo pos (starEach es X.env)).any (·.1) = false := by rfl) : JE X W (.Call (.Name x p) (e :: es) [] pos) (eCall m fs) :=
  PE.imp (pe_callS G hr hg hm hk hb (fun σ => passAt tk σ) ha hdb he hpl) fun σ H Q h => call_of h hl
end
end Dl
namespace Dl
open PySem PySem.Spec PyProof.Rows L2

/-! ### statements -/
inductive SO where
  | nx (env : En) | rt (t : T) (env : En) | bk (env : En) | ct (env : En) | ex (x : Exn) (env : En) | no
abbrev Es := En → SO
def R.so {α : Type} (r : R α) (k : α → En → SO) : SO := match r with
  | .ok a e => k a e
  | .ex x e => .ex x e
  | .no => .no
def finS (X : Cx) (W : WX) (F : Fz) (H : Hp) (σ : L2.St) (env : En) (r : SO) (D : Ends) : Prop := match r with
  | .nx env' => ∀ F' H' σ', EnvOk X.K F' H' σ' env' → Stp F H σ env F' H' σ' env' → D.nx σ' H'
  | .bk env' => ∀ F' H' σ', EnvOk X.K F' H' σ' env' → Stp F H σ env F' H' σ' env' → D.bk σ' H'
  | .ct env' => ∀ F' H' σ', EnvOk X.K F' H' σ' env' → Stp F H σ env F' H' σ' env' → D.ct σ' H'
  | .rt t env' => ∀ F' H' σ' v, EnvOk X.K F' H' σ' env' → Stp F H σ env F' H' σ' env' → TR X.K H F' H' σ' env' t v → D.rt v H'
  | .ex x env' => ∀ F' H' σ' cls d, EnvOk X.K F' H' σ' env' → Stp F H σ env F' H' σ' env' → ExR X.mg H' x cls d → W cls d σ' H'
  | .no => False
def tS (X : Cx) (W : WX) (g : Es) : TS := fun D σ H => ∃ F env, EnvOk X.K F H σ env ∧ finS X W F H σ env (g env) D
abbrev JS (X : Cx) (W : WX) (st : Stmt) (g : Es) : Prop := PS X st (tS X W g)
abbrev JSs (X : Cx) (W : WX) (st : List Stmt) (g : Es) : Prop := PSs X st (tS X W g)
section
variable {X : Cx} {W : WX} {F F1 : Fz} {H H1 : Hp} {σ σ1 : L2.St} {env env1 : En} {D : Ends}
theorem finS.shift {r : SO} (h : finS X W F H σ env r D) (s : Stp F H σ env F1 H1 σ1 env1) : finS X W F1 H1 σ1 env1 r D := by
  cases r with
  | nx env' => exact fun F' H' σ' e s2 => h F' H' σ' e (s.trans s2)
  | bk env' => exact fun F' H' σ' e s2 => h F' H' σ' e (s.trans s2)
  | ct env' => exact fun F' H' σ' e s2 => h F' H' σ' e (s.trans s2)
  | rt t env' => exact fun F' H' σ' v e s2 q => h F' H' σ' v e (s.trans s2) (q.since s.dm)
  | ex x env' => exact fun F' H' σ' cls d e s2 q => h F' H' σ' cls d e (s.trans s2) q
  | no => exact h
theorem finS.seqE {γ δ : Type} {relA : Rel γ δ} {r : R γ} {g : γ → En → SO} (h : finS X W F H σ env (r.so g) D) {Q1 : δ → Hp → Prop}
    (k : ∀ F1 H1 a c env1, EnvOk X.K F1 H1 σ env1 → Stp F H σ env F1 H1 σ env1 → relA H F1 H1 σ env1 a c → finS X W F1 H1 σ env1 (g a env1) D → Q1 c H1) : fin X W relA F H σ env r Q1 := by
  cases r with
  | ok a env' => exact fun F' H' b e s q => k F' H' a b env' e s q (finS.shift (show finS X W F H σ env (g a env') D from h) s)
  | ex x env' => exact fun F' H' cls d e s q => h F' H' σ cls d e s q
  | no => exact h
theorem finS_no {p : Prop} (h : finS X W F H σ env SO.no D) : p := False.elim h
end
def sSeq (g1 g2 : Es) : Es := fun env => match g1 env with
  | .nx env' => g2 env'
  | r => r
def sNil : Es := fun env => .nx env
def sRet (f : Ev) : Es := fun env => (f env).so fun t env1 => .rt t env1
def sRetN : Es := fun env => .rt (.fz .non) env
def sBrk : Es := fun env => .bk env
def sCnt : Es := fun env => .ct env
def sIf (c : Et) (g1 g2 : Es) : Es := fun env => (c env).so fun b env1 => if b = true then g1 env1 else g2 env1
def sExpr (f : Ev) : Es := fun env => (f env).so fun _ env1 => .nx env1
def setSl (i : Nat) (s : Sl) (env : En) : SO := match env[i]? with
  | some (.ow true _) => .no
  | none => .no
  | _ => .nx (env.set i s)
def asg (i : Nat) (t : T) (env : En) : SO := match t with
  | .fz d => setSl i (.fz d) env
  | .new d => setSl i (.ow false d) env
  | .at j => match freeze env (.at j) with
    | some (d, env') => setSl i (.fz d) env'
    | none => .no
def sSet (i : Nat) (f : Ev) : Es := fun env => (f env).so fun t env1 => asg i t env1
section
variable {X : Cx} {W : WX} {st : Stmt} {rest : List Stmt} {e c : Expr} {f f1 : Ev} {g g1 g2 : Es} {b : Et} {pos : Pos}
theorem jss_nil : JSs X W [] sNil := PSs.imp pss_nil fun D σ H ⟨F, env, e, h⟩ => h F H σ e Stp.refl
theorem seq_of {D : Ends} {σ : L2.St} {H : Hp} (h : tS X W (sSeq g1 g2) D σ H) : tSeq (tS X W g1) (tS X W g2) D σ H := by
  obtain ⟨F, env, e, h⟩ := h
  refine ⟨F, env, e, ?_⟩
  unfold sSeq at h
  cases q : g1 env with
  | nx env' => rw [q] at h; exact fun F' H' σ' e' s => ⟨F', env', e', finS.shift (show finS X W F H σ env (g2 env') D from h) s⟩
  | bk env' => rw [q] at h; exact h
  | ct env' => rw [q] at h; exact h
  | rt t env' => rw [q] at h; exact h
  | ex x env' => rw [q] at h; exact h
  | no => rw [q] at h; exact h
theorem jss_cons (h1 : JS X W st g1) (h2 : JSs X W rest g2) : JSs X W (st :: rest) (sSeq g1 g2) := PSs.imp (pss_cons h1 h2) fun D σ H h => seq_of h
theorem jss_one (h1 : JS X W st g1) : JSs X W [st] g1 := pss_one h1
theorem js_ret (he : JE X W e f) : JS X W (.Return (some e) pos) (sRet f) := PS.imp (ps_ret he) fun D σ H ⟨F, env, e, h⟩ => by
  refine ⟨F, env, e, ?_⟩
  unfold sRet at h
  cases q : f env with
  | ok t env' => rw [q] at h; exact fun F' H' v e' s r => h F' H' σ v e' s r
  | ex x env' => rw [q] at h; exact fun F' H' cls d e' s r => h F' H' σ cls d e' s r
  | no => rw [q] at h; exact h
theorem js_retN : JS X W (.Return none pos) sRetN := PS.imp ps_retN fun D σ H ⟨F, env, e, h⟩ => h F H σ .non e Stp.refl rfl
theorem js_pass : JS X W (.Pass pos) sNil := PS.imp ps_pass fun D σ H ⟨F, env, e, h⟩ => h F H σ e Stp.refl
theorem js_break : JS X W (.Break pos) sBrk := PS.imp ps_break fun D σ H ⟨F, env, e, h⟩ => h F H σ e Stp.refl
theorem js_cont : JS X W (.Continue pos) sCnt := PS.imp ps_continue fun D σ H ⟨F, env, e, h⟩ => h F H σ e Stp.refl
theorem js_if {a1 a2 : List Stmt} (hc : JT X W c b) (h1 : JSs X W a1 g1) (h2 : JSs X W a2 g2) : JS X W (.If c a1 a2 pos) (sIf b g1 g2) := PS.imp (ps_if hc h1 h2) fun D σ H ⟨F, env, e, h⟩ => ⟨F, env, e, finS.seqE h fun F1 H1 k k' env1 ok1 s1 r1 h1 => by
  subst r1
  cases k with
  | true => exact iteT ⟨F1, env1, ok1, h1⟩
  | false => exact iteF ⟨F1, env1, ok1, h1⟩⟩
theorem js_expr (he : JE X W e f) (hs : swapsWith e none pos.line X.env = pure false := by rfl) : JS X W (.Expr e pos) (sExpr f) := PS.imp (ps_expr he hs) fun D σ H ⟨F, env, e, h⟩ => ⟨F, env, e, finS.seqE h fun F1 H1 t x env1 ok1 s1 r1 h1 => h1 F1 H1 σ ok1 Stp.refl⟩
end

/-! ### a slot is stored -/
section
variable {K : PySem.W.Frag} {F : Fz} {H : Hp} {σ : L2.St} {env env' : En} {i : Nat} {s : Sl}
theorem setSl_inv (h : setSl i s env = .nx env') : env' = env.set i s ∧ i < env.length ∧ ∀ d, env[i]? ≠ some (.ow true d) := by
  unfold setSl at h
  split at h
  · cases h
  · cases h
  · rename_i q1 q2
    injection h with h
    refine ⟨h.symm, ?_, fun d z => q1 d z⟩
    cases q : env[i]? with
    | none => exact absurd q q2
    | some z => exact (List.getElem?_eq_some_iff.mp q).1
theorem setSl_nx (h : setSl i s env ≠ .no) : ∃ env', setSl i s env = .nx env' := by
  unfold setSl at h ⊢
  split
  · rename_i q; rw [q] at h; exact absurd rfl h
  · rename_i q; rw [q] at h; exact absurd rfl h
  · exact ⟨_, rfl⟩
theorem own_set_un {a : Addr} {v : Option V} {s : Sl} (hi : i < env.length) (hn : ∀ b d, s ≠ .ow b d) (h : Own (σ.set i v) (env.set i s) a) : Own σ env a := by
  obtain ⟨j, b, d, h1, h2⟩ := h
  by_cases hj : j = i
  · subst hj
    rw [List.getElem?_set_self hi] at h1
    cases h1
    exact absurd rfl (hn b d)
  · rw [List.getElem?_set_ne (Ne.symm hj)] at h1 h2
    exact ⟨j, b, d, h1, h2⟩
theorem kp_set {v : Option V} {s : Sl} (hn : ∀ d, env[i]? ≠ some (.ow true d)) : ∀ (j : Nat) (d : D), env[j]? = some (.ow true d) → (σ.set i v)[j]? = σ[j]? ∧ ∃ d', (env.set i s)[j]? = some (.ow true d') := fun j d h => by
  have hj : j ≠ i := fun z => by subst z; exact hn d h
  rw [List.getElem?_set_ne (Ne.symm hj), List.getElem?_set_ne (Ne.symm hj)]
  exact ⟨rfl, d, h⟩
/-- a frozen value is stored -/
theorem store_fz {d : D} {v : V} (e : EnvOk K F H σ env) (r : Rp K F H d v) (hi : i < env.length) (hn : ∀ d, env[i]? ≠ some (.ow true d)) : EnvOk K F H (σ.set i (some v)) (env.set i (.fz d)) ∧ Stp F H σ env F H (σ.set i (some v)) (env.set i (.fz d)) := by
  have hσ : i < σ.length := by rw [e.len]; exact hi
  refine ⟨⟨by simp [e.len], fun j d' q => ?_, fun j b d' q => ?_, fun j k b b' d1 d2 a q1 q2 s1 s2 => ?_, e.tr⟩, ⟨fun a o h _ => h, fun _ h => h, fun _ h => .inl h, fun a h => .inl (own_set_un hi (fun _ _ z => by cases z) h), fun a o h => ⟨o, h⟩, kp_set hn, by simp⟩⟩
  · by_cases hj : j = i
    · subst hj
      rw [List.getElem?_set_self hi] at q
      cases q
      exact ⟨v, List.getElem?_set_self hσ, r⟩
    · rw [List.getElem?_set_ne (Ne.symm hj)] at q ⊢
      exact e.fz j d' q
  · by_cases hj : j = i
    · subst hj
      rw [List.getElem?_set_self hi] at q
      cases q
    · rw [List.getElem?_set_ne (Ne.symm hj)] at q ⊢
      exact e.ow j b d' q
  · have nj : ∀ {m : Nat} {c : Bool} {d4 : D}, (env.set i (.fz d))[m]? = some (.ow c d4) → m ≠ i := fun {m c d4} z y => by
      subst y
      rw [List.getElem?_set_self hi] at z
      cases z
    have n1 := nj q1
    have n2 := nj q2
    rw [List.getElem?_set_ne (Ne.symm n1)] at q1 s1
    rw [List.getElem?_set_ne (Ne.symm n2)] at q2 s2
    exact e.ne j k _ _ _ _ a q1 q2 s1 s2
/-- an owned container is stored -/
theorem store_ow {d : D} {a : Addr} (e : EnvOk K F H σ env) (nf : ¬F a) (w : Ow K F H a d) (no : ¬Own σ env a) (hi : i < env.length) (hn : ∀ d, env[i]? ≠ some (.ow true d)) : EnvOk K F H (σ.set i (some (.ref a))) (env.set i (.ow false d)) := by
  have hσ : i < σ.length := by rw [e.len]; exact hi
  refine ⟨by simp [e.len], fun j d' q => ?_, fun j b d' q => ?_, fun j k b b' d1 d2 a' q1 q2 s1 s2 => ?_, e.tr⟩
  · by_cases hj : j = i
    · subst hj
      rw [List.getElem?_set_self hi] at q
      cases q
    · rw [List.getElem?_set_ne (Ne.symm hj)] at q ⊢
      exact e.fz j d' q
  · by_cases hj : j = i
    · subst hj
      rw [List.getElem?_set_self hi] at q
      cases q
      exact ⟨a, List.getElem?_set_self hσ, nf, w⟩
    · rw [List.getElem?_set_ne (Ne.symm hj)] at q ⊢
      exact e.ow j b d' q
  · by_cases hj : j = i
    · by_cases hk : k = i
      · rw [hj, hk]
      · subst hj
        rw [List.getElem?_set_self hσ] at s1
        cases s1
        rw [List.getElem?_set_ne (Ne.symm hk)] at q2 s2
        exact absurd ⟨k, b', d2, q2, s2⟩ no
    · by_cases hk : k = i
      · subst hk
        rw [List.getElem?_set_self hσ] at s2
        cases s2
        rw [List.getElem?_set_ne (Ne.symm hj)] at q1 s1
        exact absurd ⟨j, b, d1, q1, s1⟩ no
      · rw [List.getElem?_set_ne (Ne.symm hj)] at q1 s1
        rw [List.getElem?_set_ne (Ne.symm hk)] at q2 s2
        exact e.ne j k _ _ _ _ a' q1 q2 s1 s2
theorem own_set_ow {a a' : Addr} {d : D} (hi : i < env.length) (hσ : i < σ.length) (h : Own (σ.set i (some (.ref a))) (env.set i (.ow false d)) a') : Own σ env a' ∨ a' = a := by
  obtain ⟨j, b, d', h1, h2⟩ := h
  by_cases hj : j = i
  · subst hj
    rw [List.getElem?_set_self hσ] at h2
    cases h2
    exact .inr rfl
  · rw [List.getElem?_set_ne (Ne.symm hj)] at h1 h2
    exact .inl ⟨j, b, d', h1, h2⟩
/-- a slot is forgotten -/
theorem store_un {v : Option V} (e : EnvOk K F H σ env) (hi : i < env.length) (hn : ∀ d, env[i]? ≠ some (.ow true d)) : EnvOk K F H (σ.set i v) (env.set i .un) ∧ Stp F H σ env F H (σ.set i v) (env.set i .un) := by
  have hσ : i < σ.length := by rw [e.len]; exact hi
  have nj : ∀ {m : Nat} {s : Sl}, (env.set i .un)[m]? = some s → s ≠ .un → m ≠ i := fun {m s} z h y => by
    subst y
    rw [List.getElem?_set_self hi] at z
    cases z
    exact h rfl
  refine ⟨⟨by simp [e.len], fun j d' q => ?_, fun j b d' q => ?_, fun j k b b' d1 d2 a q1 q2 s1 s2 => ?_, e.tr⟩, ⟨fun a o h _ => h, fun _ h => h, fun _ h => .inl h, fun a h => .inl (own_set_un hi (fun _ _ z => by cases z) h), fun a o h => ⟨o, h⟩, kp_set hn, by simp⟩⟩
  · have n1 := nj q (fun z => nomatch z)
    rw [List.getElem?_set_ne (Ne.symm n1)] at q ⊢
    exact e.fz j d' q
  · have n1 := nj q (fun z => nomatch z)
    rw [List.getElem?_set_ne (Ne.symm n1)] at q ⊢
    exact e.ow j b d' q
  · have n1 := nj q1 (fun z => nomatch z)
    have n2 := nj q2 (fun z => nomatch z)
    rw [List.getElem?_set_ne (Ne.symm n1)] at q1 s1
    rw [List.getElem?_set_ne (Ne.symm n2)] at q2 s2
    exact e.ne j k _ _ _ _ a q1 q2 s1 s2
end
section
variable {X : Cx} {W : WX} {e : Expr} {f : Ev} {i : Nat}
/-- what a store of a temporary value leaves: from the start of the statement -/
theorem asg_of {F0 F : Fz} {H0 H : Hp} {σ0 σ : L2.St} {env0 env : En} {t : T} {v : V} {D : Ends} (ok : EnvOk X.K F H σ env) (st : Stp F0 H0 σ0 env0 F H σ env) (r : TR X.K H0 F H σ env t v)
    (h : finS X W F0 H0 σ0 env0 (asg i t env) D) : D.nx (σ.set i (some v)) H := by
  cases t with
  | fz d =>
    have h : finS X W F0 H0 σ0 env0 (setSl i (.fz d) env) D := h
    have hn : setSl i (.fz d) env ≠ .no := fun z => by rw [z] at h; exact h
    obtain ⟨env', he⟩ := setSl_nx hn
    rw [he] at h
    obtain ⟨rfl, hi, hu⟩ := setSl_inv he
    obtain ⟨b1, b2⟩ := store_fz ok r hi hu
    exact h F H _ b1 (st.trans b2)
  | new d =>
    have h : finS X W F0 H0 σ0 env0 (setSl i (.ow false d) env) D := h
    have hn : setSl i (.ow false d) env ≠ .no := fun z => by rw [z] at h; exact h
    obtain ⟨env', he⟩ := setSl_nx hn
    rw [he] at h
    obtain ⟨rfl, hi, hu⟩ := setSl_inv he
    obtain ⟨a, rfl, nf, w, no, f0⟩ := r
    refine h F H _ (store_ow ok nf w no hi hu) ⟨st.fr, st.f1, st.f2, fun a' z => ?_, st.dm, fun j d' z => ?_, by simp [st.ln]⟩
    · rcases own_set_ow hi (by rw [ok.len]; exact hi) z with y | y
      · exact st.ow a' y
      · subst y; exact .inr f0
    · obtain ⟨z1, d2, z2⟩ := st.kp j d' z
      obtain ⟨z3, d3, z4⟩ := kp_set (σ := σ) (v := some (V.ref a)) (s := .ow false d) hu j d2 z2
      exact ⟨z3.trans z1, d3, z4⟩
  | «at» j =>
    have h : finS X W F0 H0 σ0 env0 (match freeze env (.at j) with
      | some (d, env') => setSl i (.fz d) env'
      | none => .no) D := h
    cases q : freeze env (.at j) with
    | none => rw [q] at h; exact h.elim
    | some p =>
      obtain ⟨d, env1⟩ := p
      rw [q] at h
      have h : finS X W F0 H0 σ0 env0 (setSl i (.fz d) env1) D := h
      obtain ⟨F', ok', f1, f2, ow, kp, r'⟩ := TR.freeze (t := .at j) (H0 := H) r ok (fun a o z => ⟨o, z⟩) q
      have hn : setSl i (.fz d) env1 ≠ .no := fun z => by rw [z] at h; exact h
      obtain ⟨env', he⟩ := setSl_nx hn
      rw [he] at h
      obtain ⟨rfl, hi, hu⟩ := setSl_inv he
      obtain ⟨b1, b2⟩ := store_fz ok' r' hi hu
      have s1 : Stp F H σ env F' H σ env1 := ⟨fun a o z _ => z, f1, f2, fun a z => .inl (ow a z), fun a o z => ⟨o, z⟩, fun m d' z => ⟨rfl, d', kp m d' z⟩, freeze_len q⟩
      exact h F' H _ b1 ((st.trans s1).trans b2)
theorem set_of {D : Ends} {σ : L2.St} {H : Hp} (h : tS X W (sSet i f) D σ H) : tAsg (tE X W f) (gName i) D σ H := by
  obtain ⟨F, env, e, h⟩ := h
  refine ⟨F, env, e, ?_⟩
  unfold sSet at h
  cases q : f env with
  | no => rw [q] at h; exact h
  | ex x env' => rw [q] at h; exact fun F' H' cls d e' s r => h F' H' σ cls d e' s r
  | ok t env1 =>
    rw [q] at h
    exact fun F1 H1 v ok1 s1 r1 => asg_of ok1 s1 r1 h
theorem js_set {x : Str} {pos pos' : Pos} (he : JE X W e f) (hN : X.N.Nodup) (hi : X.N[i]? = some x := by rfl) (hx : Loc X.env.scope x := by first | exact Or.inl rfl | exact Or.inr rfl) (hs : swapsWith e (some (.Name x pos')) pos.line X.env = pure false := by rfl)
    (hf : X.fn x = true ∨ X.env.scope.names.lookup x = some .local := by first | exact .inl rfl | exact .inr rfl) : JS X W (.Assign [.Name x pos'] e pos) (sSet i f) :=
  PS.imp (ps_set hN hi hx he hs hf) fun D σ H h => set_of h
/-- name op= e, the name a frozen value -/
def sAug (i : Nat) (f : Ev) (g : D → D → En → R T) : Es := fun env => match env[i]? with
  | some (.fz d1) => (f env).so fun t env1 => match env1[i]?, peek env1 t with
    | some (.fz _), some d2 => (g d1 d2 env1).so fun t2 env2 => asg i t2 env2
    | _, _ => .no
  | _ => .no
theorem js_aug {op : Operator} {r : R2} {g : D → D → En → R T} {x : Str} {pos pos' : Pos} (ho : OpR X (inplaceOp op) r) (k : Snd2 X W g r) (he : JE X W e f) (hN : X.N.Nodup) (hi : X.N[i]? = some x := by rfl) (hx : Loc X.env.scope x := by first | exact Or.inl rfl | exact Or.inr rfl)
    (hf : X.fn x = true ∨ X.env.scope.names.lookup x = some .local := by first | exact .inl rfl | exact .inr rfl) : JS X W (.AugAssign (.Name x pos') op e pos) (sAug i f g) :=
  PS.imp (ps_aug hN hi hx he (ti := r) (fun pins s σ H x y v u Q I rx ry q => ho pins s σ H x y v u Q I rx ry q) hf) fun D σ H ⟨F, env, e, h⟩ => by
    unfold sAug at h
    cases q0 : env[i]? with
    | none => simp only [q0] at h; exact h.elim
    | some s0 =>
      cases s0 with
      | un => simp only [q0] at h; exact h.elim
      | ow b d => simp only [q0] at h; exact h.elim
      | fz d1 =>
        simp only [q0] at h
        obtain ⟨v1, hv1, rv1⟩ := e.fz i d1 q0
        refine ⟨v1, hv1, F, env, e, ?_⟩
        cases q : f env with
        | no => rw [q] at h; exact h
        | ex x env' => rw [q] at h; exact fun F' H' cls d e' s r => h F' H' σ cls d e' s r
        | ok t env1 =>
          rw [q] at h
          intro F1 H1 y ok1 s1 r1
          have h : finS X W F H σ env (match env1[i]?, peek env1 t with
            | some (.fz _), some d2 => (g d1 d2 env1).so fun t2 env2 => asg i t2 env2
            | _, _ => .no) D := h
          split at h
          · rename_i d1' d2 e1 e2
            refine k F1 H1 σ env1 d1 d2 v1 y _ ok1 (Rp.pk (Rp.ext (s1.ext e) d1 v1 rv1)) (r1.pk ok1 e2) ?_
            cases q2 : g d1 d2 env1 with
            | no => rw [q2] at h; exact h
            | ex x env' => rw [q2] at h; exact fun F' H' cls d e' s r => h F' H' σ cls d e' (s1.trans s) r
            | ok t2 env2 =>
              rw [q2] at h
              exact fun F2 H2 z ok2 s2 r2 => asg_of ok2 (s1.trans s2) (r2.since s1.dm) h
          · exact finS_no h
theorem js_augAdd {x : Str} {pos pos' : Pos} (he : JE X W e f) (hN : X.N.Nodup) (hi : X.N[i]? = some x := by rfl) (hx : Loc X.env.scope x := by first | exact Or.inl rfl | exact Or.inr rfl)
    (hf : X.fn x = true ∨ X.env.scope.names.lookup x = some .local := by first | exact .inl rfl | exact .inr rfl) : JS X W (.AugAssign (.Name x pos') .Add e pos) (sAug i f fun d1 d2 env => match d1, d2 with
      | .int i, .int j => okI (i + j) env
      | _, _ => .no) :=
  js_aug iop_add (fun F H σ env d1 d2 x y Q e p1 p2 h => by
    split at h
    · exact ⟨_, _, p1, p2, h.val e rfl⟩
    · exact fin_no h) he hN hi hx hf
theorem js_augSub {x : Str} {pos pos' : Pos} (he : JE X W e f) (hN : X.N.Nodup) (hi : X.N[i]? = some x := by rfl) (hx : Loc X.env.scope x := by first | exact Or.inl rfl | exact Or.inr rfl)
    (hf : X.fn x = true ∨ X.env.scope.names.lookup x = some .local := by first | exact .inl rfl | exact .inr rfl) : JS X W (.AugAssign (.Name x pos') .Sub e pos) (sAug i f dSub) :=
  js_aug iop_sub snd_sub he hN hi hx hf
theorem js_augMul {x : Str} {pos pos' : Pos} (he : JE X W e f) (hN : X.N.Nodup) (hi : X.N[i]? = some x := by rfl) (hx : Loc X.env.scope x := by first | exact Or.inl rfl | exact Or.inr rfl)
    (hf : X.fn x = true ∨ X.env.scope.names.lookup x = some .local := by first | exact .inl rfl | exact .inr rfl) : JS X W (.AugAssign (.Name x pos') .Mult e pos) (sAug i f fun d1 d2 env => match d1, d2 with
      | .int i, .int j => if bits i + bits j ≤ 100000000 then okI (i * j) env else .no
      | _, _ => .no) :=
  js_aug iop_mulB (fun F H σ env d1 d2 x y Q e p1 p2 h => by
    split at h
    · split at h
      · exact ⟨_, _, p1, p2, by assumption, h.val e rfl⟩
      · exact fin_no h
    · exact fin_no h) he hN hi hx hf
theorem js_augDiv {x : Str} {pos pos' : Pos} (he : JE X W e f) (hN : X.N.Nodup) (hi : X.N[i]? = some x := by rfl) (hx : Loc X.env.scope x := by first | exact Or.inl rfl | exact Or.inr rfl)
    (hf : X.fn x = true ∨ X.env.scope.names.lookup x = some .local := by first | exact .inl rfl | exact .inr rfl) : JS X W (.AugAssign (.Name x pos') .FloorDiv e pos) (sAug i f dDiv) :=
  js_aug iop_divB snd_div he hN hi hx hf
end
end Dl
namespace Dl
open PySem PySem.Spec PyProof.Rows L2

/-! ### a def by its body -/
def back : En → En → En
  | .ow true _ :: as, s :: es => s :: back as es
  | a :: as, _ :: es => a :: back as es
  | as, _ => as
def outT (env : En) : T → Option T
  | .fz d => some (.fz d)
  | .new d => some (.new d)
  | .at i => match env[i]? with
    | some (.ow false d) => some (.new d)
    | some (.fz d) => some (.fz d)
    | _ => none
/-- np parameters, k further names -/
def mDef (np k : Nat) (g : Es) (args : En) : RD := if args.length = np then match g (args ++ List.replicate k .un) with
    | .nx env' => .rt (.fz .non) (back args env')
    | .rt t env' => match outT env' t with
      | some t' => .rt t' (back args env')
      | none => .no
    | .ex x env' => .ex x (back args env')
    | _ => .no
  else .no
theorem mDef_len {np k : Nat} {g : Es} (args : En) (h : mDef np k g args ≠ .no) : args.length = np := by
  unfold mDef at h
  split at h
  · assumption
  · exact absurd rfl h
section
variable {K : PySem.W.Frag} {F F' : Fz} {H H' : Hp} {σ σ' : L2.St} {env env' args : En} {vs : List V} {k : Nat}
theorem back_len : ∀ (a e : En), a.length ≤ e.length → (back a e).length = a.length
  | [], e, _ => by cases e <;> rfl
  | .ow true d :: as, s :: es, h => by unfold back; simp [back_len as es (by simpa using h)]
  | .ow false d :: as, s :: es, h => by unfold back; simp [back_len as es (by simpa using h)]
  | .fz d :: as, s :: es, h => by unfold back; simp [back_len as es (by simpa using h)]
  | .un :: as, s :: es, h => by unfold back; simp [back_len as es (by simpa using h)]
  | a :: as, [], h => by simp at h
theorem back_get : ∀ (a e : En) (i : Nat) (s : Sl), a.length ≤ e.length → (back a e)[i]? = some s → (∃ d, a[i]? = some (.ow true d) ∧ e[i]? = some s) ∨ ((∀ d, a[i]? ≠ some (.ow true d)) ∧ a[i]? = some s)
  | [], e, i, s, _, h => by cases e <;> simp [back] at h
  | a :: as, [], i, s, h, _ => by simp at h
  | .ow true d :: as, s0 :: es, 0, s, _, h => by simp [back] at h; subst h; exact .inl ⟨d, rfl, rfl⟩
  | .ow false d :: as, s0 :: es, 0, s, _, h => by simp [back] at h; subst h; exact .inr ⟨fun d' z => by simp at z, rfl⟩
  | .fz d :: as, s0 :: es, 0, s, _, h => by simp [back] at h; subst h; exact .inr ⟨fun d' z => by simp at z, rfl⟩
  | .un :: as, s0 :: es, 0, s, _, h => by simp [back] at h; subst h; exact .inr ⟨fun d' z => by simp at z, rfl⟩
  | .ow true d :: as, s0 :: es, i + 1, s, hl, h => by simpa using back_get as es i s (by simpa using hl) (by simpa [back] using h)
  | .ow false d :: as, s0 :: es, i + 1, s, hl, h => by simpa using back_get as es i s (by simpa using hl) (by simpa [back] using h)
  | .fz d :: as, s0 :: es, i + 1, s, hl, h => by simpa using back_get as es i s (by simpa using hl) (by simpa [back] using h)
  | .un :: as, s0 :: es, i + 1, s, hl, h => by simpa using back_get as es i s (by simpa using hl) (by simpa [back] using h)
theorem back_put {a e : En} {i : Nat} {d : D} {s : Sl} (hl : a.length ≤ e.length) (h : a[i]? = some (.ow true d)) (he : e[i]? = some s) : (back a e)[i]? = some s := by
  have hi : i < (back a e).length := by rw [back_len a e hl]; exact (List.getElem?_eq_some_iff.mp h).1
  have q := List.getElem?_eq_getElem hi
  rcases back_get a e i _ hl q with ⟨_, _, h2⟩ | ⟨h1, _⟩
  · rw [q, ← h2, he]
  · exact absurd h (h1 d)
theorem app_un {args : En} {i : Nat} {s : Sl} (h : (args ++ List.replicate k .un)[i]? = some s) : args[i]? = some s ∨ (s = .un ∧ args.length ≤ i) := by
  by_cases hi : i < args.length
  · rw [List.getElem?_append_left hi] at h; exact .inl h
  · rw [List.getElem?_append_right (by omega), List.getElem?_replicate] at h
    split at h
    · cases h; exact .inr ⟨rfl, by omega⟩
    · cases h
theorem app_vs {vs : List V} {i : Nat} {v : V} (h : (vs.map some ++ List.replicate k (none : Option V))[i]? = some (some v)) : (vs.map some)[i]? = some (some v) := by
  by_cases hi : i < (vs.map some).length
  · rwa [List.getElem?_append_left hi] at h
  · rw [List.getElem?_append_right (by omega), List.getElem?_replicate] at h
    split at h <;> cases h
theorem app_l {vs : List V} {i : Nat} {v : V} (h : (vs.map some)[i]? = some (some v)) : (vs.map some ++ List.replicate k (none : Option V))[i]? = some (some v) := by
  rw [List.getElem?_append_left (List.getElem?_eq_some_iff.mp h).1]
  exact h
theorem app_e {args : En} {i : Nat} {s : Sl} (h : args[i]? = some s) : (args ++ List.replicate k .un)[i]? = some s := by
  rw [List.getElem?_append_left (List.getElem?_eq_some_iff.mp h).1]
  exact h
theorem own_app {a : Addr} : Own (vs.map some ++ List.replicate k none) (args ++ List.replicate k .un) a ↔ Own (vs.map some) args a := by
  constructor
  · rintro ⟨i, b, d, h1, h2⟩
    rcases app_un h1 with h1 | ⟨h1, _⟩
    · exact ⟨i, b, d, h1, app_vs h2⟩
    · cases h1
  · rintro ⟨i, b, d, h1, h2⟩
    exact ⟨i, b, d, app_e h1, app_l h2⟩
theorem enter_ok (e : EnvOk K F H (vs.map some) args) : EnvOk K F H (vs.map some ++ List.replicate k none) (args ++ List.replicate k .un) := by
  refine ⟨by simp [← e.len], fun i d h => ?_, fun i b d h => ?_, fun i j b b' d d' a h1 h2 s1 s2 => ?_, e.tr⟩
  · rcases app_un h with h | ⟨h, _⟩
    · obtain ⟨v, h1, h2⟩ := e.fz i d h
      exact ⟨v, app_l h1, h2⟩
    · cases h
  · rcases app_un h with h | ⟨h, _⟩
    · obtain ⟨a, h1, h2⟩ := e.ow i b d h
      exact ⟨a, app_l h1, h2⟩
    · cases h
  · rcases app_un h1 with h1 | ⟨h1, _⟩
    · rcases app_un h2 with h2 | ⟨h2, _⟩
      · exact e.ne i j _ _ _ _ a h1 h2 (app_vs s1) (app_vs s2)
      · cases h2
    · cases h1
theorem leave_ok (e : EnvOk K F H (vs.map some) args) (lt : Lent args) (e' : EnvOk K F' H' σ' env') (s : Stp F H (vs.map some ++ List.replicate k none) (args ++ List.replicate k .un) F' H' σ' env') :
    EnvOk K F' H' (vs.map some) (back args env') ∧ Stp F H (vs.map some) args F' H' (vs.map some) (back args env') := by
  have x : Ext F H F' H' := s.ext (enter_ok e)
  have hl : args.length ≤ env'.length := by rw [s.ln]; simp
  have lent : ∀ {i : Nat} {d : D}, args[i]? = some (.ow true d) → ∃ d' a, env'[i]? = some (.ow true d') ∧ (vs.map some)[i]? = some (some (.ref a)) ∧ σ'[i]? = some (some (.ref a)) := fun {i d} h => by
    obtain ⟨s1, d', s2⟩ := s.kp i d (app_e h)
    obtain ⟨a, h1, _⟩ := e.ow i true d h
    exact ⟨d', a, s2, h1, by rw [s1]; exact app_l h1⟩
  have shape : ∀ {i : Nat} {b : Bool} {d : D}, (back args env')[i]? = some (.ow b d) → ∃ d0 a, b = true ∧ args[i]? = some (.ow true d0) ∧ env'[i]? = some (.ow true d) ∧ (vs.map some)[i]? = some (some (.ref a)) ∧ σ'[i]? = some (some (.ref a)) := fun {i b d} h => by
    rcases back_get args env' i _ hl h with ⟨d0, h1, h2⟩ | ⟨h1, h2⟩
    · obtain ⟨d', a, z1, z2, z3⟩ := lent h1
      rw [h2] at z1
      cases z1
      exact ⟨d0, a, rfl, h1, h2, z2, z3⟩
    · rcases lt i _ h2 with ⟨d', z⟩ | ⟨d', z⟩
      · cases z
      · cases z; exact absurd h2 (h1 d)
  refine ⟨⟨by rw [back_len args env' hl]; exact e.len, fun i d h => ?_, fun i b d h => ?_, fun i j b b' d d' a h1 h2 s1 s2 => ?_, e'.tr⟩, ⟨fun a o h n => s.fr a o h fun z => n (own_app.mp z), s.f1, fun a h => ?_, fun a h => ?_, s.dm, fun i d h => ⟨rfl, ?_⟩, back_len args env' hl⟩⟩
  · rcases back_get args env' i _ hl h with ⟨d0, h1, h2⟩ | ⟨h1, h2⟩
    · obtain ⟨d', a, z1, _⟩ := lent h1
      rw [h2] at z1
      cases z1
    · obtain ⟨v, z1, z2⟩ := e.fz i d h2
      exact ⟨v, z1, Rp.ext x d v z2⟩
  · obtain ⟨d0, a, rfl, h1, h2, h3, h4⟩ := shape h
    obtain ⟨a', z1, z2, z3⟩ := e'.ow i true d h2
    rw [h4] at z1
    cases z1
    exact ⟨a, h3, z2, z3⟩
  · obtain ⟨d1, a1, _, p1, p2, p3, p4⟩ := shape h1
    obtain ⟨d2, a2, _, q1, q2, q3, q4⟩ := shape h2
    rw [s1] at p3; cases p3
    rw [s2] at q3; cases q3
    exact e'.ne i j _ _ _ _ a p2 q2 p4 q4
  · rcases s.f2 a h with z | z | z
    · exact .inl z
    · exact .inr (.inl z)
    · exact .inr (.inr (own_app.mp z))
  · obtain ⟨i, b, d, h1, h2⟩ := h
    obtain ⟨d0, a', _, p1, p2, p3, p4⟩ := shape h1
    rw [h2] at p3; cases p3
    rcases s.ow a ⟨i, true, d, p2, p4⟩ with z | z
    · exact .inl (own_app.mp z)
    · exact .inr z
  · obtain ⟨d', a, z1, _⟩ := lent h
    exact ⟨d', back_put hl h z1⟩
end
section
variable {P : Program} {w : World} {K : PySem.W.Frag} {mg : Str → Option Value} {base : Heap}
/-- a def, by its body's function -/
theorem fn_def {x qual : Str} {params : Arguments} {body : List Stmt} {scope : Scope} {dvs : List V} {kws : List (Str × V)} {f : Addr} {fd : FuncData} {N ps : List Str} {k : Nat} {g : Es} (G : FunD K x qual params body scope dvs kws f fd) (S : FnScope N ps scope)
    (hbody : ∀ (cdv : Value) (A : Around) (outer : List Env) (s : Shared) (H : Hp) (E : XK), Room k (A.deeper (envOfC qual scope s.heap.objs.size f cdv)) →
      JSs (cxOf (L2.CX P w) P w K mg base N qual scope f cdv A outer s H E) (fun cls d _ H => E cls d H) body g) :
    FnOk P w K mg base (L2.CX P w) (k + 1) f fd ps (spM K mg ps.length (mDef ps.length (N.length - ps.length) g)) := by
  refine G.ok S (fun vs H Q E h => h.1) (fun cdv A outer s H vs Q E hr h => ?_)
  obtain ⟨hl, F, args, e, lt, h⟩ := h
  have hla : args.length = ps.length := by rw [← e.len, List.length_map, hl]
  refine ⟨_, hbody cdv A outer s H E hr, F, args ++ List.replicate (N.length - ps.length) .un, ?_, ?_⟩
  · have q := enter_ok (k := N.length - ps.length) e
    unfold L2.start
    rw [hl]
    exact q
  · unfold mDef at h
    rw [if_pos hla] at h
    have hst : L2.start N vs = vs.map some ++ List.replicate (N.length - ps.length) none := by unfold L2.start; rw [hl]
    rw [hst]
    cases q : g (args ++ List.replicate (N.length - ps.length) .un) with
    | nx env' =>
      rw [q] at h
      intro F' H' σ' e' s'
      obtain ⟨b1, b2⟩ := leave_ok e lt e' s'
      exact h F' H' .non b1 b2 rfl
    | rt t env' =>
      rw [q] at h
      intro F' H' σ' v e' s' r
      obtain ⟨b1, b2⟩ := leave_ok e lt e' s'
      have old : ∀ {a : Addr}, H a = none → ¬Own (vs.map some) (back args env') a := fun {a} hn z => by
        rcases b2.ow a z with y | y
        · obtain ⟨o, ho⟩ := e.own_tr y
          rw [hn] at ho; cases ho
        · obtain ⟨i, b, d, z1, z2⟩ := z
          have hl' : args.length ≤ env'.length := by rw [s'.ln]; simp
          rcases back_get args env' i _ hl' z1 with ⟨d0, y1, y2⟩ | ⟨y1, y2⟩
          · obtain ⟨a', w1, w2, w3⟩ := e.ow i true d0 y1
            rw [z2] at w1; cases w1
            obtain ⟨o, ho⟩ := w3.there
            rw [hn] at ho; cases ho
          · obtain ⟨a', w1, w2, w3⟩ := e.ow i b d y2
            rw [z2] at w1; cases w1
            obtain ⟨o, ho⟩ := w3.there
            rw [hn] at ho; cases ho
      cases t with
      | fz d => exact h F' H' v b1 b2 r
      | new d =>
        obtain ⟨a, rfl, nf, w', no, f0⟩ := r
        exact h F' H' _ b1 b2 ⟨a, rfl, nf, w', old f0, f0⟩
      | «at» i =>
        have r : σ'[i]? = some (some v) := r
        cases q2 : env'[i]? with
        | none => simp only [outT, q2] at h
        | some sl =>
          cases sl with
          | un => simp only [outT, q2] at h
          | fz d =>
            simp only [outT, q2] at h
            obtain ⟨v', z1, z2⟩ := e'.fz i d q2
            rw [r] at z1; cases z1
            exact h F' H' v b1 b2 z2
          | ow b d =>
            cases b with
            | true => simp only [outT, q2] at h
            | false =>
              simp only [outT, q2] at h
              obtain ⟨a, z1, z2, z3⟩ := e'.ow i false d q2
              rw [r] at z1; cases z1
              have f0 : H a = none := by
                rcases s'.ow a ⟨i, false, d, q2, r⟩ with y | y
                · obtain ⟨j, b2', d2, y1, y2⟩ := own_app.mp y
                  rcases lt j _ y1 with ⟨_, z⟩ | ⟨d3, z⟩
                  · cases z
                  · cases z
                    obtain ⟨k1, d4, k2⟩ := s'.kp j _ (app_e y1)
                    have k3 : σ'[j]? = some (some (.ref a)) := by rw [k1]; exact app_l y2
                    have := e'.ne i j _ _ _ _ a q2 k2 r k3
                    subst this
                    rw [q2] at k2
                    cases k2
                · exact y
              exact h F' H' _ b1 b2 ⟨a, rfl, z2, z3, old f0, f0⟩
    | ex y env' =>
      rw [q] at h
      intro F' H' σ' cls d e' s' r
      obtain ⟨b1, b2⟩ := leave_ok e lt e' s'
      exact h F' H' cls d b1 b2 r
    | bk env' => rw [q] at h; exact h.elim
    | ct env' => rw [q] at h; exact h.elim
    | no => rw [q] at h; exact h.elim
end
end Dl
namespace Dl
open PySem PySem.Spec PyProof.Rows L2

/-! ### an owned list is changed -/
section
variable {K : PySem.W.Frag} {F : Fz} {H : Hp} {σ : L2.St} {env : En} {i : Nat}
theorem mut_ok {b : Bool} {d d' : D} {a : Addr} {o : HO} (e : EnvOk K F H σ env) (hi : env[i]? = some (.ow b d)) (hs : σ[i]? = some (some (.ref a))) (w : Ow K F (upd H a o) a d') :
    EnvOk K F (upd H a o) σ (env.set i (.ow b d')) ∧ Stp F H σ env F (upd H a o) σ (env.set i (.ow b d')) := by
  obtain ⟨a', h1, nf, w0⟩ := e.ow i b d hi
  rw [hs] at h1; cases h1
  have hl : i < env.length := (List.getElem?_eq_some_iff.mp hi).1
  obtain ⟨o0, ho0⟩ := w0.there
  have x : Ext F H F (upd H a o) := ⟨fun _ z => z, fun c u hf z => by rw [upd_ne (fun q => nf (by rw [← q]; exact hf))]; exact z⟩
  have dm : ∀ c u, H c = some u → ∃ o', upd H a o c = some o' := fun c u z => by
    by_cases hc : c = a
    · subst hc; exact ⟨o, upd_same⟩
    · exact ⟨u, by rw [upd_ne hc]; exact z⟩
  have old : ∀ {m : Nat} {c : Bool} {d4 : D}, (env.set i (.ow b d'))[m]? = some (.ow c d4) → ∃ d5, env[m]? = some (.ow c d5) := fun {m c d4} z => by
    by_cases hm : m = i
    · subst hm
      rw [List.getElem?_set_self hl] at z
      cases z
      exact ⟨d, hi⟩
    · rw [List.getElem?_set_ne (Ne.symm hm)] at z
      exact ⟨d4, z⟩
  refine ⟨⟨by simpa using e.len, fun j d2 q => ?_, fun j c d2 q => ?_, fun j k b1 b2 d1 d2 a1 q1 q2 s1 s2 => ?_, fun c z => ?_⟩, ⟨fun c u z n => ?_, fun _ z => z, fun _ z => .inl z, fun c z => .inl ?_, dm, fun j d2 z => ⟨rfl, ?_⟩, by simp⟩⟩
  · have hj : j ≠ i := fun z => by subst z; rw [List.getElem?_set_self hl] at q; cases q
    rw [List.getElem?_set_ne (Ne.symm hj)] at q
    obtain ⟨v, z1, z2⟩ := e.fz j d2 q
    exact ⟨v, z1, Rp.ext x d2 v z2⟩
  · by_cases hj : j = i
    · subst hj
      rw [List.getElem?_set_self hl] at q
      cases q
      exact ⟨a, hs, nf, w⟩
    · rw [List.getElem?_set_ne (Ne.symm hj)] at q
      obtain ⟨a', z1, z2, z3⟩ := e.ow j c d2 q
      refine ⟨a', z1, z2, z3.ext x fun u z => ?_⟩
      rw [upd_ne]
      · exact z
      · intro q2
        subst q2
        exact hj (e.ne j i _ _ _ _ _ q hi z1 hs)
  · obtain ⟨d3, q1'⟩ := old q1
    obtain ⟨d4, q2'⟩ := old q2
    exact e.ne j k _ _ _ _ a1 q1' q2' s1 s2
  · obtain ⟨u, z⟩ := e.tr c z
    exact dm c u z
  · rw [upd_ne]
    · exact z
    · intro q
      subst q
      exact n ⟨i, b, d, hi, hs⟩
  · obtain ⟨j, c', d2, z1, z2⟩ := z
    obtain ⟨d3, z1'⟩ := old z1
    exact ⟨j, c', d3, z1', z2⟩
  · by_cases hj : j = i
    · subst hj
      rw [hi] at z
      cases z
      exact ⟨d', List.getElem?_set_self hl⟩
    · exact ⟨d2, by rw [List.getElem?_set_ne (Ne.symm hj)]; exact z⟩
theorem ow_lst {ds : List D} {vs : List V} {a : Addr} (nf : ¬F a) (r : Rps K F H ds vs) : Ow K F (upd H a (.lst vs)) a (.lst ds) := by
  have x : Ext F H F (upd H a (.lst vs)) := ⟨fun _ z => z, fun c u hf z => by rw [upd_ne (fun q => nf (by rw [← q]; exact hf))]; exact z⟩
  exact ⟨vs, upd_same, Rps.ext x _ _ r⟩
end
/-- x.m(..), x the list of slot i -/
def eMt (i : Nat) (fs : Ea) (step : List D → List D → Option (List D × D)) : Ev := fun env => match env[i]? with
  | some (.ow _ (.lst _)) => (fs env).bind fun as env1 => match dsOf as, env1[i]? with
    | some args, some (.ow b (.lst ds)) => match step ds args with
      | some (ds', r) => .ok (.fz r) (env1.set i (.ow b (.lst ds')))
      | none => .no
    | _, _ => .no
  | _ => .no
section
variable {X : Cx} {W : WX} {o e : Expr} {es : List Expr} {f : Ev} {fs : Ea} {i : Nat} {pos : Pos}
abbrev SndM (X : Cx) (step : List D → List D → Option (List D × D)) (r : V → List V → Hp → VK → Prop) : Prop := ∀ F H a ds vs args xs ds' res Q, ¬F a → H a = some (.lst vs) → Rps X.K F H ds vs → Rps X.K F H args xs → step ds args = some (ds', res) →
  (∀ vs' v, Rps X.K F H ds' vs' → Rp X.K F H res v → Q v (upd H a (.lst vs'))) → r (.ref a) xs H Q
theorem mt_of {step : List D → List D → Option (List D × D)} {r : V → List V → Hp → VK → Prop} (k : SndM X step r) {σ : L2.St} {H : Hp} {Q : VK} (h : tE X W (eMt i fs step) σ H Q) :
    ∃ v, σ[i]? = some (some v) ∧ tyV X.K "list" v H ∧ tA X W fs σ H fun xs H2 => r v xs H2 Q := by
  obtain ⟨F, env, e, h⟩ := h
  unfold eMt at h
  split at h
  · rename_i b0 ds0 h0
    obtain ⟨a, s1, nf, w⟩ := e.ow i _ _ h0
    obtain ⟨vs0, hv0, r0⟩ := w
    refine ⟨_, s1, Or.inl ⟨rfl, _, SqL.of hv0⟩, F, env, e, fin.seq h fun F1 H1 as xs env1 ok1 st1 r1 h1 => ?_⟩
    split at h1
    · rename_i args b ds hd he
      split at h1
      · rename_i ds' res hs
        obtain ⟨a', s2, nf', w'⟩ := ok1.ow i b _ he
        rw [s1] at s2; cases s2
        obtain ⟨vs, hv, rv⟩ := w'
        refine k F1 H1 a ds vs args xs ds' res Q nf' hv rv (ds_rps r1 hd) hs fun vs' v rv' rr => ?_
        obtain ⟨b1, b2⟩ := mut_ok ok1 he s1 (ow_lst nf' rv')
        exact h1 F1 _ v b1 b2 (Rp.ext (b2.ext ok1) _ _ rr)
      · exact fin_no h1
    · exact fin_no h1
  · exact fin_no h
theorem je_mt {name : Str} {apos : Pos} {id : String} {step : List D → List D → Option (List D × D)} {r : V → List V → Hp → VK → Prop} (slot : Slot "list" name id) (hty : typeOf (.builtin id) = pure (.type "method_descriptor")) (hm : MtR X id r) (k : SndM X step r) (ho : PE X o (tVar i)) (ha : JA X W (e :: es) fs)
    (hbase : attributeBase o name X.env (eval o X.env) = eval o X.env := by rfl)
    (hfew : ((backTo pos (starEach (e :: es) X.env)).all (fun x => !x.1) && (backToKw pos (keywordEach [] X.env)).all (fun x => x.1.isSome)
      && decide ((e :: es).length + ([] : List Keyword).length + (if ([] : List Keyword).isEmpty then 0 else 1) < 30)) = true := by rfl)
    (hline : (apos.endLine == pos.line) = true := by rfl) (hs : starEach (e :: es) X.env = (false, eval e X.env) :: starEach es X.env := by rfl) (hplain : (backTo pos (starEach es X.env)).any (·.1) = false := by rfl) :
    JE X W (.Call (.Attribute o name apos) (e :: es) [] pos) (eMt i fs step) :=
  PE.imp (pe_bm PySem.F.plainAttrs_list slot hty hm ho ha hbase hfew hline hs hplain) fun σ H Q h => mt_of k h
theorem je_mt0 {name : Str} {apos : Pos} {id : String} {step : List D → List D → Option (List D × D)} {r : V → List V → Hp → VK → Prop} (slot : Slot "list" name id) (hty : typeOf (.builtin id) = pure (.type "method_descriptor")) (hm : MtR X id r) (k : SndM X step r) (ho : PE X o (tVar i))
    (hbase : attributeBase o name X.env (eval o X.env) = eval o X.env := by rfl) (hline : (apos.endLine == pos.line) = true := by rfl) :
    JE X W (.Call (.Attribute o name apos) [] [] pos) (eMt i aNil step) :=
  PE.imp (pe_bm0 PySem.F.plainAttrs_list slot hty hm ho hbase hline) fun σ H Q h => by
    obtain ⟨v, h1, h2, F, env, e, h3⟩ := mt_of k h
    exact ⟨v, h1, h2, h3 F H [] e Stp.refl rfl⟩
def stAppend (ds args : List D) : Option (List D × D) := match args with
  | [d] => if ds.length < sizeLine then some (ds ++ [d], .non) else none
  | _ => none
def stPop (ds args : List D) : Option (List D × D) := match args, ds[ds.length - 1]? with
  | [], some d => some (ds.dropLast, d)
  | _, _ => none
def stPopAt (ds args : List D) : Option (List D × D) := match args with
  | [.int i] => if -(2 ^ 63) ≤ i ∧ i < 2 ^ 63 then match seqIndex? i ds.length with
      | some k => match ds[k]? with
        | some d => some (ds.eraseIdx k, d)
        | none => none
      | none => none
    else none
  | _ => none
def stRev (ds args : List D) : Option (List D × D) := match args with
  | [] => some (ds.reverse, .non)
  | _ => none
theorem rps1 {K : PySem.W.Frag} {F : Fz} {H : Hp} {d : D} {vs : List V} (h : Rps K F H [d] vs) : ∃ v, vs = [v] ∧ Rp K F H d v := by
  obtain ⟨v, r, rfl, h1, h2⟩ := h
  have h2 : r = [] := h2
  subst h2
  exact ⟨v, rfl, h1⟩
theorem sm_append : SndM X stAppend rAppend := fun F H a ds vs args xs ds' res Q nf hv r ra hs q => by
  unfold stAppend at hs
  split at hs
  · split at hs
    · cases hs
      obtain ⟨v, rfl, rd⟩ := rps1 ra
      exact ⟨a, vs, v, rfl, rfl, hv, by rw [r.length]; assumption, q _ _ (r.append (Rps.cons rd rfl)) rfl⟩
    · cases hs
  · cases hs
theorem sm_pop : SndM X stPop rPop := fun F H a ds vs args xs ds' res Q nf hv r ra hs q => by
  unfold stPop at hs
  split at hs
  · rename_i d hd
    cases hs
    have ra : xs = [] := ra
    subst ra
    obtain ⟨v, h1, h2⟩ := r.get hd
    exact ⟨a, vs, v, rfl, rfl, hv, by rw [r.length]; exact h1, q _ _ r.dropLast h2⟩
  · cases hs
theorem sm_popAt : SndM X stPopAt rPopAt := fun F H a ds vs args xs ds' res Q nf hv r ra hs q => by
  unfold stPopAt at hs
  split at hs
  · split at hs
    · rename_i hb
      split at hs
      · rename_i k hk
        split at hs
        · rename_i d hd
          cases hs
          obtain ⟨v, rfl, rd⟩ := rps1 ra
          have rd : v = V.int _ := rd
          subst rd
          obtain ⟨v, h1, h2⟩ := r.get hd
          exact ⟨a, vs, _, k, v, rfl, rfl, hv, hb.1, hb.2, by rw [r.length]; exact hk, h1, q _ _ (r.eraseIdx k) h2⟩
        · cases hs
      · cases hs
    · cases hs
  · cases hs
theorem sm_rev : SndM X stRev rReverse := fun F H a ds vs args xs ds' res Q nf hv r ra hs q => by
  unfold stRev at hs
  split at hs
  · cases hs
    have ra : xs = [] := ra
    subst ra
    exact ⟨a, vs, rfl, rfl, hv, q _ _ r.reverse rfl⟩
  · cases hs
theorem je_append {apos : Pos} (ho : PE X o (tVar i)) (ha : JA X W (e :: es) fs)
    (hbase : attributeBase o "append" X.env (eval o X.env) = eval o X.env := by rfl)
    (hfew : ((backTo pos (starEach (e :: es) X.env)).all (fun x => !x.1) && (backToKw pos (keywordEach [] X.env)).all (fun x => x.1.isSome)
      && decide ((e :: es).length + ([] : List Keyword).length + (if ([] : List Keyword).isEmpty then 0 else 1) < 30)) = true := by rfl)
    (hline : (apos.endLine == pos.line) = true := by rfl) (hs : starEach (e :: es) X.env = (false, eval e X.env) :: starEach es X.env := by rfl) (hplain : (backTo pos (starEach es X.env)).any (·.1) = false := by rfl) :
    JE X W (.Call (.Attribute o "append" apos) (e :: es) [] pos) (eMt i fs stAppend) := je_mt PySem.F.slot_list_append PySem.F.type_list_append mt_append sm_append ho ha hbase hfew hline hs hplain
theorem je_pop {apos : Pos} (ho : PE X o (tVar i)) (hbase : attributeBase o "pop" X.env (eval o X.env) = eval o X.env := by rfl) (hline : (apos.endLine == pos.line) = true := by rfl) :
    JE X W (.Call (.Attribute o "pop" apos) [] [] pos) (eMt i aNil stPop) := je_mt0 PySem.F.slot_list_pop PySem.F.type_list_pop mt_pop sm_pop ho hbase hline
theorem je_popAt {apos : Pos} (ho : PE X o (tVar i)) (ha : JA X W (e :: es) fs)
    (hbase : attributeBase o "pop" X.env (eval o X.env) = eval o X.env := by rfl)
    (hfew : ((backTo pos (starEach (e :: es) X.env)).all (fun x => !x.1) && (backToKw pos (keywordEach [] X.env)).all (fun x => x.1.isSome)
      && decide ((e :: es).length + ([] : List Keyword).length + (if ([] : List Keyword).isEmpty then 0 else 1) < 30)) = true := by rfl)
    (hline : (apos.endLine == pos.line) = true := by rfl) (hs : starEach (e :: es) X.env = (false, eval e X.env) :: starEach es X.env := by rfl) (hplain : (backTo pos (starEach es X.env)).any (·.1) = false := by rfl) :
    JE X W (.Call (.Attribute o "pop" apos) (e :: es) [] pos) (eMt i fs stPopAt) := je_mt PySem.F.slot_list_pop PySem.F.type_list_pop mt_popAt sm_popAt ho ha hbase hfew hline hs hplain
theorem je_reverse {apos : Pos} (ho : PE X o (tVar i)) (hbase : attributeBase o "reverse" X.env (eval o X.env) = eval o X.env := by rfl) (hline : (apos.endLine == pos.line) = true := by rfl) :
    JE X W (.Call (.Attribute o "reverse" apos) [] [] pos) (eMt i aNil stRev) := je_mt0 PySem.F.slot_list_reverse PySem.F.type_list_reverse mt_reverse sm_rev ho hbase hline
end
/-- x[j] = e, x the list of slot i -/
def putAt (i : Nat) (t tj : T) (env2 : En) : SO := match tj with
  | .fz (.int k) => match freeze env2 t with
    | some (d, env3) => match env3[i]? with
      | some (.ow b (.lst ds)) => match ixN ds.length k with
        | some j => .nx (env3.set i (.ow b (.lst (ds.set j d))))
        | none => .no
      | _ => .no
    | none => .no
  | _ => .no
def sPut (i : Nat) (fj fe : Ev) : Es := fun env => (fe env).so fun t env1 => match env1[i]? with
  | some (.ow _ _) => (fj env1).so fun tj env2 => putAt i t tj env2
  | _ => .no
section
variable {X : Cx} {W : WX} {o e je : Expr} {fe fj : Ev} {i : Nat} {pos pos' : Pos}
theorem freeze_ow {env env' : En} {t : T} {d d' : D} {b : Bool} (p : freeze env t = some (d, env')) (h : env'[i]? = some (.ow b d')) : env[i]? = some (.ow b d') := by
  cases t with
  | fz d' => cases p; exact h
  | new d' => cases p; exact h
  | «at» j =>
    change (match env[j]? with
      | some (.fz d) => some (d, env)
      | some (.ow false d) => some (d, env.set j (.fz d))
      | _ => none) = _ at p
    split at p
    · cases p; exact h
    · rename_i q
      cases p
      have hl := (List.getElem?_eq_some_iff.mp q).1
      by_cases hj : i = j
      · subst hj
        rw [List.getElem?_set_self hl] at h
        cases h
      · rwa [List.getElem?_set_ne (Ne.symm hj)] at h
    · cases p
theorem js_put (ho : PE X o (tVar i)) (hj : JE X W je fj) (he : JE X W e fe) (hs : swapsWithSole [.Subscript o je pos'] e pos.line X.env = pure false := by rfl) (hw : swappedStores [.Subscript o je pos'] e X.env = pure none := by rfl)
    (h1 : (assignEach [.Subscript o je pos'] X.env).map (·.2) = [assign (.Subscript o je pos') X.env] := by rfl)
    (hass : ∀ v, assign (.Subscript o je pos') X.env v = (do
      let ov ← holding [v] (eval o X.env)
      let iv ← holding [v, ov] (eval je X.env)
      standAt pos'
      holding [v, ov, iv] (setItem ov iv v)
      release [v, ov, iv] []) := by intro _; rfl) : JS X W (.Assign [.Subscript o je pos'] e pos) (sPut i fj fe) :=
  PS.imp (ps_asg he (pg_sub ho hj set_list hass) hs hw h1) fun D σ H ⟨F, env, e, h⟩ => by
    refine ⟨F, env, e, ?_⟩
    unfold sPut at h
    cases q1 : fe env with
    | no => rw [q1] at h; exact h
    | ex x env' => rw [q1] at h; exact fun F' H' cls d e' s r => h F' H' σ cls d e' s r
    | ok t env1 =>
      rw [q1] at h
      intro F1 H1 v ok1 s1 r1
      have h : finS X W F H σ env (match env1[i]? with
        | some (.ow _ _) => (fj env1).so fun tj env2 => putAt i t tj env2
        | _ => .no) D := h
      split at h
      · rename_i b0 d0 h0
        obtain ⟨a, z1, nf, w⟩ := ok1.ow i b0 d0 h0
        refine ⟨_, z1, F1, env1, ok1, ?_⟩
        cases q2 : fj env1 with
        | no => rw [q2] at h; exact h
        | ex x env' => rw [q2] at h; exact fun F' H' cls d e' s r => h F' H' σ cls d e' (s1.trans s) r
        | ok tj env2 =>
          rw [q2] at h
          intro F2 H2 vj ok2 s2 r2
          have s12 := s1.trans s2
          have r1' := r1.carry ok1 s2
          have h : finS X W F H σ env (putAt i t tj env2) D := h
          unfold putAt at h
          split at h
          · rename_i k _
            have r2 : vj = V.int k := r2
            split at h
            · rename_i d env3 q3
              obtain ⟨F3, ok3, f1, f2, ow, kp, rd⟩ := r1'.freeze ok2 s12.dm q3
              have s3 := frz_stp s12 e f1 f2 ow kp (freeze_len q3)
              split at h
              · rename_i b ds h3
                split at h
                · rename_i j hj'
                  obtain ⟨a', y1, y2, vs, y3, y4⟩ := ok3.ow i b _ h3
                  rw [z1] at y1; cases y1
                  refine ⟨a, vs, k, j, rfl, r2, y3, by rw [y4.length]; exact hj', ?_⟩
                  obtain ⟨b1, b2⟩ := mut_ok ok3 h3 z1 (ow_lst y2 (y4.set j rd))
                  exact h F3 _ σ b1 (s3.trans b2)
                · exact finS_no h
              · exact finS_no h
            · exact finS_no h
          · exact finS_no h
      · exact finS_no h
/-- xs += ys -/
def sExt (i : Nat) (f : Ev) : Es := fun env => match env[i]? with
  | some (.ow _ (.lst _)) => (f env).so fun t env1 => match env1[i]?, peek env1 t with
    | some (.ow b (.lst ds)), some (.lst es) => if ds.length + es.length ≤ sizeLine then .nx (env1.set i (.ow b (.lst (ds ++ es)))) else .no
    | _, _ => .no
  | _ => .no
theorem js_ext {x : Str} {pos pos' : Pos} (he : JE X W e fe) (hN : X.N.Nodup) (hi : X.N[i]? = some x := by rfl) (hx : Loc X.env.scope x := by first | exact Or.inl rfl | exact Or.inr rfl)
    (hf : X.fn x = true ∨ X.env.scope.names.lookup x = some .local := by first | exact .inl rfl | exact .inr rfl) : JS X W (.AugAssign (.Name x pos') .Add e pos) (sExt i fe) :=
  PS.imp (ps_aug hN hi hx he (ti := rExt2) (fun pins s σ H x y v u Q I rx ry q => iop_ext pins s σ H x y v u Q I rx ry q) hf) fun D σ H ⟨F, env, e, h⟩ => by
    unfold sExt at h
    split at h
    · rename_i b0 ds0 h0
      obtain ⟨a, z1, nf, w⟩ := e.ow i _ _ h0
      refine ⟨_, z1, F, env, e, ?_⟩
      cases q1 : fe env with
      | no => rw [q1] at h; exact h
      | ex x env' => rw [q1] at h; exact fun F' H' cls d e' s r => h F' H' σ cls d e' s r
      | ok t env1 =>
        rw [q1] at h
        intro F1 H1 v ok1 s1 r1
        have h : finS X W F H σ env (match env1[i]?, peek env1 t with
          | some (.ow b (.lst ds)), some (.lst es) => if ds.length + es.length ≤ sizeLine then .nx (env1.set i (.ow b (.lst (ds ++ es)))) else .no
          | _, _ => .no) D := h
        split at h
        · rename_i b ds es h1 h2
          split at h
          · obtain ⟨a', y1, y2, vs, y3, y4⟩ := ok1.ow i b _ h1
            rw [z1] at y1; cases y1
            obtain ⟨b', ws, rfl, y5, y6⟩ := r1.pk ok1 h2
            refine ⟨a, b', vs, ws, rfl, rfl, y3, y5, by rw [y4.length, y6.length]; assumption, ?_⟩
            obtain ⟨b1, b2⟩ := mut_ok ok1 h1 z1 (ow_lst y2 (y4.append y6))
            have hset : σ.set i (some (V.ref a)) = σ := by
              apply List.ext_getElem?
              intro m
              by_cases hm : m = i
              · subst hm
                rw [List.getElem?_set_self (List.getElem?_eq_some_iff.mp z1).1, z1]
              · rw [List.getElem?_set_ne (Ne.symm hm)]
            rw [hset]
            exact h F1 _ σ b1 (s1.trans b2)
          · exact finS_no h
        · exact finS_no h
    · exact finS_no h
end
end Dl
namespace Dl
open PySem PySem.Spec PyProof.Rows L2

/-! ### targets -/
abbrev Ht := D → En → Option En
def tG (X : Cx) (vs : List Nat) (h : Ht) : TG := fun v σ H Q => ∃ F env d, EnvOk X.K F H σ env ∧ Rp X.K F H d v ∧ match h d env with
  | some env' => ∀ F' H' σ', EnvOk X.K F' H' σ' env' → Stp F H σ env F' H' σ' env' → wipe σ' vs = wipe σ vs → Q σ' H'
  | none => False
def tGs (X : Cx) (us : List Nat) (h : List D → En → Option En) : TGs := fun vs σ H Q => ∃ F env ds, EnvOk X.K F H σ env ∧ Rps X.K F H ds vs ∧ match h ds env with
  | some env' => ∀ F' H' σ', EnvOk X.K F' H' σ' env' → Stp F H σ env F' H' σ' env' → wipe σ' us = wipe σ us → Q σ' H'
  | none => False
abbrev JG (X : Cx) (us : List Nat) (tg : Expr) (h : Ht) : Prop := PG X tg (tG X us h)
abbrev JGs (X : Cx) (us : List Nat) (ts : List Expr) (h : List D → En → Option En) : Prop := PGs X ts (tGs X us h)
theorem PG.imp {X : Cx} {e : Expr} {t t' : TG} (h : PG X e t) (k : ∀ v σ H Q, t' v σ H Q → t v σ H Q) : PG X e t' := ⟨fun pins s σ H v u Q I r q => h.run pins s σ H v u Q I r (k v σ H Q q)⟩
theorem PGs.imp {X : Cx} {e : List Expr} {t t' : TGs} (h : PGs X e t) (k : ∀ v σ H Q, t' v σ H Q → t v σ H Q) : PGs X e t' := ⟨fun pins s σ H v u Q I r q => h.run pins s σ H v u Q I r (k v σ H Q q)⟩
theorem wipe_set : ∀ {vs : List Nat} {σ : L2.St} {i : Nat} {v : Option V}, i ∈ vs → wipe (σ.set i v) vs = wipe σ vs
  | [], _, _, _, h => by cases h
  | w :: vs, σ, i, v, h => by
    show (wipe (σ.set i v) vs).set w none = (wipe σ vs).set w none
    by_cases hi : i ∈ vs
    · rw [wipe_set hi]
    · have hw : i = w := by
        rcases List.mem_cons.mp h with e | e
        · exact e
        · exact absurd e hi
      subst hw
      apply List.ext_getElem?
      intro m
      by_cases hm : m = i
      · subst hm
        by_cases hl : m < (wipe σ vs).length
        · rw [List.getElem?_set_self hl, List.getElem?_set_self (by rw [wipe_length] at hl ⊢; simpa using hl)]
        · rw [List.getElem?_eq_none (by rw [List.length_set, wipe_length, List.length_set]; rw [wipe_length] at hl; omega), List.getElem?_eq_none (by rw [List.length_set]; omega)]
      · rw [List.getElem?_set_ne (Ne.symm hm), List.getElem?_set_ne (Ne.symm hm)]
        by_cases hv : m ∈ vs
        · have key : ∀ {vs : List Nat} {σ τ : L2.St} {m : Nat}, m ∈ vs → σ.length = τ.length → (wipe σ vs)[m]? = (wipe τ vs)[m]? := fun {vs} => by
            induction vs with
            | nil => intro _ _ _ h; cases h
            | cons w vs ih =>
              intro σ τ m h hl
              show ((wipe σ vs).set w none)[m]? = ((wipe τ vs).set w none)[m]?
              by_cases hm : m = w
              · subst hm
                by_cases hlt : m < σ.length
                · rw [List.getElem?_set_self (by rw [wipe_length]; exact hlt), List.getElem?_set_self (by rw [wipe_length]; omega)]
                · rw [List.getElem?_eq_none (by simp [wipe_length]; omega), List.getElem?_eq_none (by simp [wipe_length]; omega)]
              · rw [List.getElem?_set_ne (Ne.symm hm), List.getElem?_set_ne (Ne.symm hm)]
                exact ih ((List.mem_cons.mp h).resolve_left hm) hl
          exact key hv (by simp)
        · rw [wipe_out hv, wipe_out hv, List.getElem?_set_ne (Ne.symm hm)]
def hName (i : Nat) : Ht := fun d env => match env[i]? with
  | some (.ow true _) => none
  | none => none
  | _ => some (env.set i (.fz d))
def hNil : List D → En → Option En := fun ds env => match ds with
  | [] => some env
  | _ => none
def hCons (h : Ht) (hs : List D → En → Option En) : List D → En → Option En := fun ds env => match ds with
  | d :: r => match h d env with
    | some env' => hs r env'
    | none => none
  | [] => none
def hTup (n : Nat) (hs : List D → En → Option En) : Ht := fun d env => match d with
  | .tup ds => if ds.length = n then hs ds env else none
  | _ => none
section
variable {X : Cx} {W : WX} {tg e : Expr} {es : List Expr} {h : Ht} {hs : List D → En → Option En} {pos : Pos} {us : List Nat}
theorem hName_inv {i : Nat} {d : D} {env env' : En} (q : hName i d env = some env') : env' = env.set i (.fz d) ∧ i < env.length ∧ ∀ d, env[i]? ≠ some (.ow true d) := by
  unfold hName at q
  split at q
  · cases q
  · cases q
  · rename_i q1 q2
    cases q
    refine ⟨rfl, ?_, fun d z => q1 d z⟩
    cases z : env[i]? with
    | none => exact absurd z q2
    | some z' => exact (List.getElem?_eq_some_iff.mp z).1
theorem jg_name {i : Nat} {x : Str} (hN : X.N.Nodup) (hu : i ∈ us := by decide) (hi : X.N[i]? = some x := by rfl) (hx : Loc X.env.scope x := by first | exact Or.inl rfl | exact Or.inr rfl)
    (hf : X.fn x = true ∨ X.env.scope.names.lookup x = some .local := by first | exact .inl rfl | exact .inr rfl) : JG X us (.Name x pos) (hName i) :=
  PG.imp (pg_name hN hi hx hf) fun v σ H Q ⟨F, env, d, e, r, h⟩ => by
    cases q : hName i d env with
    | none => rw [q] at h; exact h.elim
    | some env' =>
      rw [q] at h
      obtain ⟨rfl, hl, hn⟩ := hName_inv q
      obtain ⟨b1, b2⟩ := store_fz e r hl hn
      exact h F H _ b1 b2 (wipe_set hu)
theorem jgs_nil : JGs X us [] hNil := PGs.imp pgs_nil fun vs σ H Q ⟨F, env, ds, e, r, h⟩ => by
  unfold hNil at h
  split at h
  · rename_i heq
    split at heq
    · cases heq
      have r : vs = [] := r
      exact ⟨r, h F H σ e Stp.refl rfl⟩
    · cases heq
  · exact h.elim
theorem jgs_cons (h1 : JG X us e h) (h2 : JGs X us es hs) (ha : (assignEach (e :: es) X.env).map (·.2) = assign e X.env :: (assignEach es X.env).map (·.2) := by rfl) : JGs X us (e :: es) (hCons h hs) :=
  PGs.imp (pgs_cons h1 h2 ha) fun vs σ H Q ⟨F, env, ds, e, r, q⟩ => by
    cases ds with
    | nil => exact q.elim
    | cons d ds =>
      obtain ⟨v, vr, rfl, r1, r2⟩ := r
      refine ⟨v, vr, rfl, F, env, d, e, r1, ?_⟩
      unfold hCons at q
      dsimp only at q
      cases q1 : h d env with
      | none => simp only [q1] at q
      | some env1 =>
        simp only [q1] at q
        intro F1 H1 σ1 e1 s1 w1
        refine ⟨F1, env1, ds, e1, Rps.ext (s1.ext e) _ _ r2, ?_⟩
        cases q2 : hs ds env1 with
        | none => simp only [q2] at q
        | some env2 =>
          simp only [q2] at q
          exact fun F2 H2 σ2 e2 s2 w2 => q F2 H2 σ2 e2 (s1.trans s2) (w2.trans w1)
theorem jg_tup {k : Nat} {n : Nat} (hc : X.calm = true) (h : JGs X us es hs) (hn : (assignEach es X.env).length = n := by rfl) (hst : (assignEach es X.env).findIdx? (·.1) = none := by rfl) : JG X us (.Tuple es k pos) (hTup n hs) :=
  PG.imp (pg_tup hc h hn hst) fun v σ H Q ⟨F, env, d, e, r, q⟩ => by
    cases d with
    | tup ds =>
      unfold hTup at q
      dsimp only at q
      split at q
      · rename_i env' heq
        split at heq
        · rename_i hl
          obtain ⟨a, vs, rfl, hs', rs⟩ := Rp.tupOf r
          refine ⟨a, vs, rfl, hs', by rw [rs.length]; exact hl, F, env, ds, e, rs, ?_⟩
          rw [heq]
          exact q
        · cases heq
      · exact q.elim
    | _ => exact q.elim
/-- a, b, .. = e -/
def sTg (f : Ev) (h : Ht) : Es := fun env => (f env).so fun t env1 => match freeze env1 t with
  | some (d, env2) => match h d env2 with
    | some env3 => .nx env3
    | none => .no
  | none => .no
theorem js_tg {f : Ev} (he : JE X W e f) (hg : JG X us tg h) (hs : swapsWithSole [tg] e pos.line X.env = pure false := by rfl) (hw : swappedStores [tg] e X.env = pure none := by rfl)
    (h1 : (assignEach [tg] X.env).map (·.2) = [assign tg X.env] := by rfl) : JS X W (.Assign [tg] e pos) (sTg f h) :=
  PS.imp (ps_asg he hg hs hw h1) fun D σ H ⟨F, env, e, q⟩ => by
    refine ⟨F, env, e, ?_⟩
    unfold sTg at q
    cases q1 : f env with
    | no => rw [q1] at q; exact q
    | ex x env' => rw [q1] at q; exact fun F' H' cls d e' s r => q F' H' σ cls d e' s r
    | ok t env1 =>
      rw [q1] at q
      intro F1 H1 v ok1 s1 r1
      have q : finS X W F H σ env (match freeze env1 t with
        | some (d, env2) => match h d env2 with
          | some env3 => .nx env3
          | none => .no
        | none => .no) D := q
      split at q
      · rename_i d env2 q2
        obtain ⟨F2, ok2, f1, f2, ow, kp, rd⟩ := r1.freeze ok1 s1.dm q2
        have s2 := frz_stp s1 e f1 f2 ow kp (freeze_len q2)
        refine ⟨F2, env2, d, ok2, rd, ?_⟩
        split at q
        · rename_i env3 q3
          exact fun F3 H3 σ3 e3 s3 _ => q F3 H3 σ3 e3 (s2.trans s3)
        · exact finS_no q
      · exact finS_no q
/-- a, b = x, y -/
def sPar (i j : Nat) (fs : Ea) : Es := fun env => (fs env).so fun as env1 => match dsOf as with
  | some [d1, d2] => match hName i d1 env1 with
    | some env2 => match hName j d2 env2 with
      | some env3 => .nx env3
      | none => .no
    | none => .no
  | _ => .no
theorem js_par {i j : Nat} {x y : Str} {a b : Expr} {fs : Ea} {px py pt : Pos} {kt k2 pt2} (hc : X.calm = true) (hN : X.N.Nodup) (ha : JA X W [a, b] fs) (hij : i ≠ j)
    (hw : swappedStores [.Tuple [.Name x px, .Name y py] kt pt] (.Tuple [a, b] k2 pt2) X.env = pure (some [x, y])) (hi : X.N[i]? = some x := by rfl) (hj : X.N[j]? = some y := by rfl)
    (hx : X.env.scope.names.lookup x = some .local := by rfl) (hy : X.env.scope.names.lookup y = some .local := by rfl)
    (hs : swapsWithSole [.Tuple [.Name x px, .Name y py] kt pt] (.Tuple [a, b] k2 pt2) pos.line X.env = pure false := by rfl) :
    JS X W (.Assign [.Tuple [.Name x px, .Name y py] kt pt] (.Tuple [a, b] k2 pt2) pos) (sPar i j fs) :=
  PS.imp (ps_par hc hN hi hj hij hx hy ha hw hs) fun D σ H ⟨F, env, e, q⟩ => ⟨F, env, e, finS.seqE q fun F1 H1 as vs env1 ok1 s1 r1 h1 => by
    split at h1
    · rename_i d1 d2 hd
      obtain ⟨v, r, rfl, rv, rr⟩ := ds_rps r1 hd
      obtain ⟨w, rfl, rw'⟩ := rps1 rr
      refine ⟨v, w, rfl, ?_⟩
      split at h1
      · rename_i env2 q2
        obtain ⟨rfl, l1, n1⟩ := hName_inv q2
        obtain ⟨b1, b2⟩ := store_fz ok1 rv l1 n1
        split at h1
        · rename_i env3 q3
          obtain ⟨rfl, l2, n2⟩ := hName_inv q3
          obtain ⟨b3, b4⟩ := store_fz b1 rw' l2 n2
          exact h1 F1 H1 _ b3 (b2.trans b4)
        · exact finS_no h1
      · exact finS_no h1
    · exact finS_no h1⟩
end

/-! ### what is walked -/
structure Grow (F : Fz) (H : Hp) (F' : Fz) (H' : Hp) : Prop where
  f : ∀ a, F a → F' a
  h : ∀ a o, H a = some o → H' a = some o
  n : ∀ a, F' a → F a ∨ (H a = none ∧ ∃ o, H' a = some o)
theorem Grow.refl {F : Fz} {H : Hp} : Grow F H F H := ⟨fun _ h => h, fun _ _ h => h, fun _ h => .inl h⟩
theorem Grow.ok {K : PySem.W.Frag} {F F' : Fz} {H H' : Hp} {σ : L2.St} {env : En} (g : Grow F H F' H') (e : EnvOk K F H σ env) : EnvOk K F' H' σ env ∧ Stp F H σ env F' H' σ env := by
  have x : Ext F H F' H' := ⟨g.f, fun a o _ h => g.h a o h⟩
  refine ⟨⟨e.len, fun i d q => ?_, fun i b d q => ?_, e.ne, fun a z => ?_⟩, ⟨fun a o h _ => g.h a o h, g.f, fun a h => ?_, fun _ h => .inl h, fun a o h => ⟨o, g.h a o h⟩, fun _ d h => ⟨rfl, d, h⟩, rfl⟩⟩
  · obtain ⟨v, h1, h2⟩ := e.fz i d q
    exact ⟨v, h1, Rp.ext x d v h2⟩
  · obtain ⟨a, h1, h2, h3⟩ := e.ow i b d q
    refine ⟨a, h1, fun z => ?_, h3.ext x (fun o h => g.h a o h)⟩
    obtain ⟨o, ho⟩ := h3.there
    rcases g.n a z with z | ⟨z, _⟩
    · exact h2 z
    · rw [ho] at z; cases z
  · rcases g.n a z with z | ⟨_, z⟩
    · obtain ⟨o, h⟩ := e.tr a z
      exact ⟨o, g.h a o h⟩
    · exact z
  · rcases g.n a h with z | ⟨z, _⟩
    · exact .inl z
    · exact .inr (.inl z)
structure ItP (K : PySem.W.Frag) (J : It) (items : List D) (P : Fz → Hp → Prop) : Prop where
  ext : ∀ F H F' H', P F H → Ext F H F' H' → P F' H'
  go : ∀ i F H, P F H → i < items.length → J.go i H ∧ ∀ x H', J.yld i H x H' → ∃ F' d, Grow F H F' H' ∧ items[i]? = some d ∧ Rp K F' H' d x
  stop : ∀ F H, P F H → J.stop items.length H
def ItOk (K : PySem.W.Frag) (F : Fz) (H : Hp) (items : List D) (J : It) : Prop := ∃ P, P F H ∧ ItP K J items P
abbrev relI (K : PySem.W.Frag) : Rel (List D) It := fun _ F' H' _ _ items J => ItOk K F' H' items J
instance {K} : Since (relI K) := ⟨fun h _ => h⟩
abbrev Ei := En → R (List D)
def tI (X : Cx) (W : WX) (f : Ei) : TI := fun σ H R => ∃ F env, EnvOk X.K F H σ env ∧ fin X W (relI X.K) F H σ env (f env) R
abbrev JI (X : Cx) (W : WX) (tg iter : Expr) (f : Ei) : Prop := PI X tg iter (tI X W f)
theorem PI.imp {X : Cx} {tg e : Expr} {t t' : TI} (h : PI X tg e t) (k : ∀ σ H R, t' σ H R → t σ H R) : PI X tg e t' := ⟨fun pins s σ H R I q => h.run pins s σ H R I (k σ H R q)⟩
theorem PI.or {X : Cx} {tg e : Expr} {t t' : TI} (h : PI X tg e t) (h' : PI X tg e t') : PI X tg e (fun σ H R => t σ H R ∨ t' σ H R) := ⟨fun pins s σ H R I q => q.elim (fun q => h.run pins s σ H R I q) fun q => h'.run pins s σ H R I q⟩
def eIt (f : Ev) : Ei := fun env => (f env).bind fun t env1 => match freeze env1 t with
  | some (.tup xs, env2) => .ok xs env2
  | some (.lst xs, env2) => .ok xs env2
  | some (.scr xs, env2) => .ok xs env2
  | _ => .no
def rng (lo : Int) (n : Nat) : List D := (List.range n).map fun i : Nat => D.int (lo + (i : Int))
def eR1 (fs : Ea) : Ei := fun env => (fs env).bind fun as env1 => match dsOf as with
  | some [.int j] => if j < 2 ^ 62 ∧ -(2 ^ 62) ≤ j then .ok (rng 0 j.toNat) env1 else .no
  | _ => .no
def eR2 (fs : Ea) : Ei := fun env => (fs env).bind fun as env1 => match dsOf as with
  | some [.int i, .int j] => if (j < 2 ^ 62 ∧ -(2 ^ 62) ≤ j) ∧ i < 2 ^ 62 ∧ -(2 ^ 62) ≤ i then .ok (rng i (j - i).toNat) env1 else .no
  | _ => .no
section
variable {X : Cx} {W : WX} {tg iter e : Expr} {es : List Expr} {f : Ev} {fs : Ea} {pos : Pos}
theorem it_seqT {K : PySem.W.Frag} {F : Fz} {H : Hp} {a : Addr} {vs : List V} {ds : List D} (h : (F a ∧ Rd H a (.tup vs)) ∨ SqTK K a vs) (r : Rps K F H ds vs) : ItOk K F H ds (Itt K a) := by
  refine ⟨fun F H => ((F a ∧ Rd H a (.tup vs)) ∨ SqTK K a vs) ∧ Rps K F H ds vs, ⟨h, r⟩, fun F H F' H' ⟨h, r⟩ x => ⟨h.elim (fun z => .inl ⟨x.f _ z.1, x.rd z.1 z.2⟩) .inr, Rps.ext x _ _ r⟩, fun i F H ⟨h, r⟩ hi => ?_, fun F H ⟨h, r⟩ => ⟨vs, h.elim (fun z => .inl z.2) .inr, by rw [r.length]; exact Nat.le_refl _⟩⟩
  have sq : SqT K H a vs := h.elim (fun z => .inl z.2) .inr
  have hd : ds[i]? = some ds[i] := List.getElem?_eq_getElem hi
  obtain ⟨v, hv, rv⟩ := r.get hd
  refine ⟨⟨vs, v, sq, hv⟩, fun x H' hy => ?_⟩
  obtain ⟨rfl, hy⟩ := hy
  have e := hy vs sq
  rw [hv] at e; cases e
  exact ⟨F, _, Grow.refl, hd, rv⟩
theorem it_seqL {K : PySem.W.Frag} {F : Fz} {H : Hp} {a : Addr} {vs : List V} {ds : List D} (h : (F a ∧ Rd H a (.lst vs)) ∨ SqLK K a vs) (r : Rps K F H ds vs) : ItOk K F H ds (Itl K a) := by
  refine ⟨fun F H => ((F a ∧ Rd H a (.lst vs)) ∨ SqLK K a vs) ∧ Rps K F H ds vs, ⟨h, r⟩, fun F H F' H' ⟨h, r⟩ x => ⟨h.elim (fun z => .inl ⟨x.f _ z.1, x.rd z.1 z.2⟩) .inr, Rps.ext x _ _ r⟩, fun i F H ⟨h, r⟩ hi => ?_, fun F H ⟨h, r⟩ => ⟨vs, h.elim (fun z => .inl z.2) .inr, by rw [r.length]; exact Nat.le_refl _⟩⟩
  have sq : SqL K H a vs := h.elim (fun z => .inl z.2) .inr
  have hd : ds[i]? = some ds[i] := List.getElem?_eq_getElem hi
  obtain ⟨v, hv, rv⟩ := r.get hd
  refine ⟨⟨vs, v, sq, hv⟩, fun x H' hy => ?_⟩
  obtain ⟨rfl, hy⟩ := hy
  have e := hy vs sq
  rw [hv] at e; cases e
  exact ⟨F, _, Grow.refl, hd, rv⟩
theorem ji_seq (he : JE X W e f) : JI X W tg e (eIt f) := PI.imp (PI.or (pi_list he) (pi_tup he)) fun σ H R ⟨F, env, e, h⟩ => by
  unfold eIt at h
  cases q : f env with
  | no => rw [q] at h; exact h.elim
  | ex x env' =>
    rw [q] at h
    refine .inl ⟨F, env, e, ?_⟩
    rw [q]
    exact h
  | ok t env1 =>
    rw [q] at h
    have h : fin X W (relI X.K) F H σ env (match freeze env1 t with
      | some (.tup xs, env2) => .ok xs env2
      | some (.lst xs, env2) => .ok xs env2
      | some (.scr xs, env2) => .ok xs env2
      | _ => .no) R := h
    split at h
    · rename_i xs env2 q2
      refine .inr ⟨F, env, e, ?_⟩
      rw [q]
      intro F1 H1 v ok1 s1 r1
      obtain ⟨F2, ok2, f1, f2, ow, kp, rd⟩ := r1.freeze ok1 s1.dm q2
      have s2 := frz_stp s1 e f1 f2 ow kp (freeze_len q2)
      obtain ⟨a, vs, rfl, hs, rs⟩ := rd
      exact ⟨a, rfl, ⟨vs, hs.elim (fun z => .inl z.2) .inr⟩, h F2 H1 _ ok2 s2 (it_seqT hs rs)⟩
    · rename_i xs env2 q2
      refine .inl ⟨F, env, e, ?_⟩
      rw [q]
      intro F1 H1 v ok1 s1 r1
      obtain ⟨F2, ok2, f1, f2, ow, kp, rd⟩ := r1.freeze ok1 s1.dm q2
      have s2 := frz_stp s1 e f1 f2 ow kp (freeze_len q2)
      obtain ⟨a, vs, rfl, hf, hs, rs⟩ := rd
      exact ⟨a, rfl, ⟨vs, SqL.of hs⟩, h F2 H1 _ ok2 s2 (it_seqL (.inl ⟨hf, .inl hs⟩) rs)⟩
    · rename_i xs env2 q2
      refine .inl ⟨F, env, e, ?_⟩
      rw [q]
      intro F1 H1 v ok1 s1 r1
      obtain ⟨F2, ok2, f1, f2, ow, kp, rd⟩ := r1.freeze ok1 s1.dm q2
      have s2 := frz_stp s1 e f1 f2 ow kp (freeze_len q2)
      obtain ⟨a, vs, rfl, hs, rs⟩ := rd
      exact ⟨a, rfl, ⟨vs, hs.elim (fun z => .inl z.2) .inr⟩, h F2 H1 _ ok2 s2 (it_seqL hs rs)⟩
    · exact fin_no h
theorem it_rng {K : PySem.W.Frag} {F : Fz} {H : Hp} (lo : Int) (n : Nat) : ItOk K F H (rng lo n) (Itr lo n) := by
  have hl : (rng lo n).length = n := by simp [rng]
  refine ⟨fun _ _ => True, trivial, fun _ _ _ _ _ _ => trivial, fun i F H _ hi => ⟨by rw [hl] at hi; exact hi, fun x H' hy => ?_⟩, fun F H _ => by rw [hl]; exact Nat.le_refl _⟩
  obtain ⟨rfl, rfl⟩ := hy
  refine ⟨F, .int (lo + i), Grow.refl, ?_, rfl⟩
  rw [hl] at hi
  simp [rng, hi]
theorem rps_int {K : PySem.W.Frag} {F : Fz} {H : Hp} {j : Int} {vs : List V} (h : Rps K F H [.int j] vs) : vs = [.int j] := by
  obtain ⟨v, rfl, r⟩ := rps1 h
  have r : v = V.int j := r
  rw [r]
theorem rps_int2 {K : PySem.W.Frag} {F : Fz} {H : Hp} {i j : Int} {vs : List V} (h : Rps K F H [.int i, .int j] vs) : vs = [.int i, .int j] := by
  obtain ⟨v, r, rfl, h1, h2⟩ := h
  have h1 : v = V.int i := h1
  rw [h1, rps_int h2]
theorem ji_r1 {p : Pos} (hm : X.mg "range" = none) (ha : JA X W [e] fs) (hg : Gl X "range" := by rfl) (hs : starEach [e] X.env = [(false, eval e X.env)] := by rfl) : JI X W tg (.Call (.Name "range" p) [e] [] pos) (eR1 fs) :=
  PI.imp (pi_range1 hg hm ha hs) fun σ H R ⟨F, env, e, h⟩ => ⟨F, env, e, fin.seq h fun F1 H1 as vs env1 ok1 s1 r1 h1 => by
    split at h1
    · rename_i j hd
      split at h1
      · rename_i hb
        exact ⟨j, rps_int (ds_rps r1 hd), hb.2, hb.1, h1 F1 H1 _ ok1 Stp.refl (it_rng 0 _)⟩
      · exact fin_no h1
    · exact fin_no h1⟩
theorem ji_r2 {e2 : Expr} {p : Pos} (hm : X.mg "range" = none) (ha : JA X W [e, e2] fs) (hg : Gl X "range" := by rfl) (hs : starEach [e, e2] X.env = [(false, eval e X.env), (false, eval e2 X.env)] := by rfl) (hs2 : starEach [e2] X.env = [(false, eval e2 X.env)] := by rfl) :
    JI X W tg (.Call (.Name "range" p) [e, e2] [] pos) (eR2 fs) :=
  PI.imp (pi_range2 hg hm ha hs hs2) fun σ H R ⟨F, env, e, h⟩ => ⟨F, env, e, fin.seq h fun F1 H1 as vs env1 ok1 s1 r1 h1 => by
    split at h1
    · rename_i i j hd
      split at h1
      · rename_i hb
        exact ⟨i, j, rps_int2 (ds_rps r1 hd), ⟨hb.2.2, hb.2.1, hb.1.2, hb.1.1⟩, h1 F1 H1 _ ok1 Stp.refl (it_rng i _)⟩
      · exact fin_no h1
    · exact fin_no h1⟩
end
end Dl
namespace Dl
open PySem PySem.Spec PyProof.Rows L2

/-! ### forgetting slots -/
def un1 (i : Nat) (env : En) : En := match env[i]? with
  | some (.ow true _) => env
  | _ => env.set i .un
def kill : List Nat → En → En
  | [], env => env
  | i :: r, env => kill r (un1 i env)
section
variable {K : PySem.W.Frag} {F : Fz} {H : Hp} {σ : L2.St} {env : En}
theorem un1_ok (i : Nat) (e : EnvOk K F H σ env) : EnvOk K F H σ (un1 i env) ∧ Stp F H σ env F H σ (un1 i env) := by
  unfold un1
  split
  · exact ⟨e, Stp.refl⟩
  · rename_i hn
    by_cases hi : i < env.length
    · obtain ⟨b1, b2⟩ := store_un (v := σ.getD i none) e hi (fun d z => hn d z)
      have hset : σ.set i (σ.getD i none) = σ := by
        apply List.ext_getElem?
        intro m
        by_cases hm : m = i
        · subst hm
          rw [← e.len] at hi
          rw [List.getElem?_set_self hi, List.getD_eq_getElem?_getD, List.getElem?_eq_getElem hi]
          rfl
        · rw [List.getElem?_set_ne (Ne.symm hm)]
      rw [hset] at b1 b2
      exact ⟨b1, b2⟩
    · rw [List.set_eq_of_length_le (by omega)]
      exact ⟨e, Stp.refl⟩
theorem kill_ok : ∀ (l : List Nat) {env : En}, EnvOk K F H σ env → EnvOk K F H σ (kill l env) ∧ Stp F H σ env F H σ (kill l env)
  | [], env, e => ⟨e, Stp.refl⟩
  | i :: r, env, e => by
    obtain ⟨b1, b2⟩ := un1_ok i e
    obtain ⟨b3, b4⟩ := kill_ok r b1
    exact ⟨b3, b2.trans b4⟩
end

/-! ### for -/
def forD (h : Ht) (b : Es) (dead : List Nat) : List D → Es
  | [], env => .nx env
  | d :: ds, env => match h d env with
    | none => .no
    | some env1 => match b env1 with
      | .nx env2 => forD h b dead ds (kill dead env2)
      | .ct env2 => forD h b dead ds (kill dead env2)
      | .bk env2 => .nx (kill dead env2)
      | .rt t e => .rt t e
      | .ex x e => .ex x e
      | .no => .no
def sFor (fi : Ei) (h : Ht) (b : Es) (dead : List Nat) : Es := fun env => (fi env).so fun items env1 => forD h b dead items (kill dead env1)
section
variable {X : Cx} {W : WX} {tg iter c : Expr} {body : List Stmt} {fi : Ei} {h : Ht} {g : Es} {ct : Et} {pos : Pos} {us : List Nat}
theorem js_for (dead : List Nat) (hp : PassesOwn (model X.prog X.w) X.A X.env X.xe) (hc : X.calm = true) (hi : JI X W tg iter fi) (hg : JG X us tg h) (hb : JSs X W body g)
    (hs : ∀ x, foldedSetIterable iter X.env x = pure x := by intro _; rfl) : JS X W (.For tg iter body [] pos) (sFor fi h g dead) :=
  PS.imp (ps_for hp hc hi hg hb hs) fun D σ H ⟨F, env, e, q⟩ => ⟨F, env, e, finS.seqE q fun F1 H1 items J env1 ok1 s1 r1 h1 => by
    obtain ⟨P, p0, IP⟩ := r1
    obtain ⟨kb1, kb2⟩ := kill_ok dead ok1
    refine ⟨fun i m σ' H' => m = items.length - i ∧ i ≤ items.length ∧ ∃ F' env', EnvOk X.K F' H' σ' env' ∧ P F' H' ∧ finS X W F' H' σ' env' (forD h g dead (items.drop i) env') D, ⟨items.length, by simp, Nat.zero_le _, F1, _, kb1, p0, finS.shift (r := forD h g dead items (kill dead env1)) h1 kb2⟩, ?_⟩
    rintro i m σ' H' ⟨rfl, hi, F', env', e', p', h'⟩
    by_cases hlt : i < items.length
    · obtain ⟨go, yl⟩ := IP.go i F' H' p' hlt
      rw [List.drop_eq_getElem_cons hlt] at h'
      unfold forD at h'
      refine .inr ⟨go, fun σ2 H2 => ∃ F2 env2, EnvOk X.K F2 H2 σ2 env2 ∧ P F2 H2 ∧ finS X W F2 H2 σ2 env2 (forD h g dead (items.drop (i + 1)) env2) D, fun σ2 H2 ⟨F2, env2, a, b, c⟩ => ⟨items.length - (i + 1), by omega, rfl, hlt, F2, env2, a, b, c⟩, fun x H2 hy => ?_⟩
      obtain ⟨F2, d, gr, hd, rd⟩ := yl x H2 hy
      rw [List.getElem?_eq_getElem hlt] at hd
      cases hd
      obtain ⟨e2, s2⟩ := gr.ok e'
      refine ⟨F2, env', _, e2, rd, ?_⟩
      cases q1 : h items[i] env' with
      | none => simp only [q1] at h'; exact h'.elim
      | some env2 =>
        simp only [q1] at h' ⊢
        intro F3 H3 σ3 e3 s3 _
        have s23 := s2.trans s3
        refine ⟨F3, env2, e3, ?_⟩
        have p3 : P F3 H3 := IP.ext _ _ _ _ p' (s23.ext e')
        have again : ∀ {env4 : En}, (finS X W F' H' σ' env' (forD h g dead (items.drop (i + 1)) (kill dead env4)) D) → ∀ F4 H4 σ4, EnvOk X.K F4 H4 σ4 env4 → Stp F3 H3 σ3 env2 F4 H4 σ4 env4 →
            ∃ F2 env2, EnvOk X.K F2 H4 σ4 env2 ∧ P F2 H4 ∧ finS X W F2 H4 σ4 env2 (forD h g dead (items.drop (i + 1)) env2) D := fun {env4} z F4 H4 σ4 e4 s4 => by
          obtain ⟨b1, b2⟩ := kill_ok dead e4
          exact ⟨F4, _, b1, IP.ext _ _ _ _ p3 (s4.ext e3), z.shift ((s23.trans s4).trans b2)⟩
        cases q2 : g env2 with
        | nx env4 => simp only [q2] at h'; exact again h'
        | ct env4 => simp only [q2] at h'; exact again h'
        | bk env4 =>
          simp only [q2] at h'
          intro F4 H4 σ4 e4 s4
          obtain ⟨b1, b2⟩ := kill_ok dead e4
          exact h' F4 H4 σ4 b1 (s23.trans (s4.trans b2))
        | rt t e => simp only [q2] at h'; exact finS.shift (r := .rt t e) h' s23
        | ex x e => simp only [q2] at h'; exact finS.shift (r := .ex x e) h' s23
        | no => simp only [q2] at h'; exact h'.elim
    · have hi' : i = items.length := by omega
      subst hi'
      rw [List.drop_length] at h'
      exact .inl ⟨IP.stop F' H' p', h' F' H' σ' e' Stp.refl⟩⟩

/-! ### while -/
def whileD (c : Et) (b : Es) (dead : List Nat) : Nat → Es
  | 0, _ => .no
  | n + 1, env => (c env).so fun k env1 => if k = true then match b env1 with
      | .nx env2 => whileD c b dead n (kill dead env2)
      | .ct env2 => whileD c b dead n (kill dead env2)
      | .bk env2 => .nx (kill dead env2)
      | .rt t e => .rt t e
      | .ex x e => .ex x e
      | .no => .no
    else .nx env1
def sWhile (fu : En → Nat) (c : Et) (b : Es) (dead : List Nat) : Es := fun env => whileD c b dead (fu (kill dead env)) (kill dead env)
theorem js_while (fu : En → Nat) (dead : List Nat) (hp : PassesOwn (model X.prog X.w) X.A X.env X.xe) (hc : JT X W c ct) (hb : JSs X W body g) : JS X W (.While c body [] pos) (sWhile fu ct g dead) :=
  PS.imp (ps_while hp hc hb) fun D σ H ⟨F, env0, e0, q⟩ => by
    obtain ⟨e, kb2⟩ := kill_ok dead e0
    have q := finS.shift (r := whileD ct g dead (fu (kill dead env0)) (kill dead env0)) q kb2
    generalize kill dead env0 = env at e q
    refine ⟨fun m σ' H' => ∃ F' env', EnvOk X.K F' H' σ' env' ∧ finS X W F' H' σ' env' (whileD ct g dead m env') D, ⟨fu env, F, env, e, q⟩, ?_⟩
    rintro m σ' H' ⟨F', env', e', h'⟩
    cases m with
    | zero => exact h'.elim
    | succ n =>
      refine ⟨F', env', e', finS.seqE h' fun F1 H1 k k' env1 ok1 s1 r1 h1 => ?_⟩
      subst r1
      cases k with
      | false => exact iteF (h1 F1 H1 σ' ok1 Stp.refl)
      | true =>
        rw [if_pos rfl] at h1 ⊢
        refine ⟨fun σ2 H2 => ∃ F2 env2, EnvOk X.K F2 H2 σ2 env2 ∧ finS X W F2 H2 σ2 env2 (whileD ct g dead n env2) D, fun σ2 H2 ⟨F2, env2, a, b⟩ => ⟨n, Nat.lt_succ_self _, F2, env2, a, b⟩, F1, env1, ok1, ?_⟩
        have again : ∀ {env4 : En}, (finS X W F1 H1 σ' env1 (whileD ct g dead n (kill dead env4)) D) → ∀ F4 H4 σ4, EnvOk X.K F4 H4 σ4 env4 → Stp F1 H1 σ' env1 F4 H4 σ4 env4 →
            ∃ F2 env2, EnvOk X.K F2 H4 σ4 env2 ∧ finS X W F2 H4 σ4 env2 (whileD ct g dead n env2) D := fun {env4} z F4 H4 σ4 e4 s4 => by
          obtain ⟨b1, b2⟩ := kill_ok dead e4
          exact ⟨F4, _, b1, z.shift (s4.trans b2)⟩
        cases q2 : g env1 with
        | nx env4 => simp only [q2] at h1; exact again h1
        | ct env4 => simp only [q2] at h1; exact again h1
        | bk env4 =>
          simp only [q2] at h1
          intro F4 H4 σ4 e4 s4
          obtain ⟨b1, b2⟩ := kill_ok dead e4
          exact h1 F4 H4 σ4 b1 (s4.trans b2)
        | rt t e => simp only [q2] at h1; exact h1
        | ex x e => simp only [q2] at h1; exact h1
        | no => simp only [q2] at h1; exact finS_no h1
end

/-! ### comprehensions -/
/-- behind the block: its own names are forgotten, but for frozen values that they held ahead -/
def rest1 (i : Nat) (env0 env : En) : En := match env0[i]?, env[i]? with
  | some (.fz d), some .un => env.set i (.fz d)
  | _, _ => env
def rests : List Nat → En → En → En
  | [], _, env => env
  | i :: r, env0, env => rests r env0 (rest1 i env0 env)
def allUn (vs : List Nat) (env : En) : Bool := vs.all fun i => match env[i]? with
  | some .un => true
  | none => true
  | _ => false
def kl (vs : List Nat) (env : En) : Option En := if allUn vs (kill vs env) = true then some (kill vs env) else none
def lcD (h : Ht) (tst : Et) (el : Ev) (vs : List Nat) : List D → List D → En → R (List D)
  | [], acc, env => .ok acc env
  | d :: ds, acc, env => match h d env with
    | none => .no
    | some env1 => match tst env1 with
      | .ok true env2 => match el env2 with
        | .ok t env3 => match freeze env3 t with
          | some (y, env4) => match kl vs env4 with
            | some env5 => if acc.length < sizeLine then lcD h tst el vs ds (acc ++ [y]) env5 else .no
            | none => .no
          | none => .no
        | _ => .no
      | .ok false env2 => match kl vs env2 with
        | some env5 => lcD h tst el vs ds acc env5
        | none => .no
      | _ => .no
def bYes : Et := fun env => .ok true env
def lcAll (h : Ht) (tst : Et) (el : Ev) (vs : List Nat) (items : List D) (env1 : En) : R T := match kl vs env1 with
  | some envk => match lcD h tst el vs items [] envk with
    | .ok ys env2 => .ok (.new (.lst ys)) (rests vs env1 env2)
    | _ => .no
  | none => .no
def eLc (fi : Ei) (h : Ht) (tst : Et) (el : Ev) (vs : List Nat) : Ev := fun env => (fi env).bind fun items env1 => lcAll h tst el vs items env1
section
variable {K : PySem.W.Frag} {F F' : Fz} {H H' : Hp} {σ : L2.St} {env env0 : En}
theorem kl_inv {vs : List Nat} {env' : En} (h : kl vs env = some env') : env' = kill vs env ∧ ∀ i ∈ vs, ∀ s, env'[i]? = some s → s = .un := by
  unfold kl at h
  split at h
  · rename_i hu
    cases h
    refine ⟨rfl, fun i hi s q => ?_⟩
    have := List.all_eq_true.mp hu i hi
    simp only [q] at this
    cases s <;> first | rfl | cases this
  · cases h
/-- the same environment over other slots, where the slots of vs hold nothing -/
theorem wipe_ok {vs : List Nat} (e : EnvOk K F H σ env) (hn : ∀ i ∈ vs, ∀ s, env[i]? = some s → s = .un) : EnvOk K F H (wipe σ vs) env := by
  have out : ∀ {i : Nat} {s : Sl}, env[i]? = some s → s ≠ .un → (wipe σ vs)[i]? = σ[i]? := fun {i s} h hs => wipe_out fun z => hs (hn i z s h)
  refine ⟨by rw [wipe_length]; exact e.len, fun i d q => ?_, fun i b d q => ?_, fun i j b b' d d' a h1 h2 s1 s2 => ?_, e.tr⟩
  · rw [out q (fun z => by cases z)]; exact e.fz i d q
  · rw [out q (fun z => by cases z)]; exact e.ow i b d q
  · rw [out h1 (fun z => by cases z)] at s1
    rw [out h2 (fun z => by cases z)] at s2
    exact e.ne i j _ _ _ _ a h1 h2 s1 s2
theorem unwipe_ok {vs : List Nat} (e : EnvOk K F H (wipe σ vs) env) (hn : ∀ i ∈ vs, ∀ s, env[i]? = some s → s = .un) : EnvOk K F H σ env := by
  have out : ∀ {i : Nat} {s : Sl}, env[i]? = some s → s ≠ .un → (wipe σ vs)[i]? = σ[i]? := fun {i s} h hs => wipe_out fun z => hs (hn i z s h)
  refine ⟨by rw [← e.len, wipe_length], fun i d q => ?_, fun i b d q => ?_, fun i j b b' d d' a h1 h2 s1 s2 => ?_, e.tr⟩
  · have := e.fz i d q
    rwa [out q (fun z => by cases z)] at this
  · have := e.ow i b d q
    rwa [out q (fun z => by cases z)] at this
  · rw [← out h1 (fun z => by cases z)] at s1
    rw [← out h2 (fun z => by cases z)] at s2
    exact e.ne i j _ _ _ _ a h1 h2 s1 s2
theorem own_wipe {vs : List Nat} {a : Addr} (hn : ∀ i ∈ vs, ∀ s, env[i]? = some s → s = .un) : Own (wipe σ vs) env a ↔ Own σ env a := by
  constructor
  · rintro ⟨i, b, d, h1, h2⟩
    refine ⟨i, b, d, h1, ?_⟩
    rwa [wipe_out (fun z => by cases hn i z _ h1)] at h2
  · rintro ⟨i, b, d, h1, h2⟩
    refine ⟨i, b, d, h1, ?_⟩
    rwa [wipe_out (fun z => by cases hn i z _ h1)]
theorem rest1_ok {i : Nat} (e0 : ∀ d, env0[i]? = some (.fz d) → ∃ v, σ[i]? = some (some v) ∧ Rp K F H d v) (e : EnvOk K F H σ env) : EnvOk K F H σ (rest1 i env0 env) ∧ Stp F H σ env F H σ (rest1 i env0 env) := by
  unfold rest1
  split
  · rename_i d h1 h2
    obtain ⟨v, q1, q2⟩ := e0 d h1
    obtain ⟨b1, b2⟩ := store_fz (i := i) e q2 (List.getElem?_eq_some_iff.mp h2).1 (fun d' z => by rw [h2] at z; cases z)
    have hset : σ.set i (some v) = σ := by
      apply List.ext_getElem?
      intro m
      by_cases hm : m = i
      · subst hm
        rw [List.getElem?_set_self (List.getElem?_eq_some_iff.mp q1).1, q1]
      · rw [List.getElem?_set_ne (Ne.symm hm)]
    rw [hset] at b1 b2
    exact ⟨b1, b2⟩
  · exact ⟨e, Stp.refl⟩
theorem rests_ok : ∀ (vs : List Nat) {env : En}, (∀ (i : Nat) (d : D), env0[i]? = some (.fz d) → ∃ v, σ[i]? = some (some v) ∧ Rp K F H d v) → EnvOk K F H σ env → EnvOk K F H σ (rests vs env0 env) ∧ Stp F H σ env F H σ (rests vs env0 env)
  | [], env, _, e => ⟨e, Stp.refl⟩
  | i :: r, env, e0, e => by
    obtain ⟨b1, b2⟩ := rest1_ok (e0 i) e
    obtain ⟨b3, b4⟩ := rests_ok r e0 b1
    exact ⟨b3, b2.trans b4⟩
end
abbrev W0 : WX := fun _ _ _ _ => False
section
variable {K : PySem.W.Frag} {F F' F1 : Fz} {H H' H1 : Hp} {σ σ' : L2.St} {env env' env1 : En} {vs : List Nat}
theorem stp_wipe (hn : ∀ i ∈ vs, ∀ s, env[i]? = some s → s = .un) : Stp F H σ env F H (wipe σ vs) env :=
  ⟨fun _ _ h _ => h, fun _ h => h, fun _ h => .inl h, fun _ h => .inl ((own_wipe hn).mp h), fun _ o h => ⟨o, h⟩, fun i d h => ⟨wipe_out fun z => (by cases hn i z _ h), d, h⟩, rfl⟩
theorem stp_unwipe (hn : ∀ i ∈ vs, ∀ s, env[i]? = some s → s = .un) : Stp F H (wipe σ vs) env F H σ env :=
  ⟨fun _ _ h _ => h, fun _ h => h, fun _ h => .inl h, fun _ h => .inl ((own_wipe hn).mpr h), fun _ o h => ⟨o, h⟩, fun i d h => ⟨(wipe_out fun z => (by cases hn i z _ h)).symm, d, h⟩, rfl⟩
theorem wipe_wipe (σ : L2.St) : ∀ vs : List Nat, wipe (wipe σ vs) vs = wipe σ vs := fun vs => by
  apply List.ext_getElem?
  intro m
  by_cases hm : m ∈ vs
  · have z : ∀ (σ : L2.St), (wipe σ vs)[m]? = if m < σ.length then some none else none := fun σ => by
      by_cases hl : m < σ.length
      · rw [if_pos hl]
        cases q : (wipe σ vs)[m]? with
        | none => rw [List.getElem?_eq_none_iff, wipe_length] at q; omega
        | some o =>
          cases o with
          | none => rfl
          | some v => exact absurd hm (wipe_some q).2
      · rw [if_neg hl, List.getElem?_eq_none (by rw [wipe_length]; omega)]
    rw [z, z, wipe_length]
  · rw [wipe_out hm]
/-- an object that nobody of the environment has is changed -/
theorem upd_ok {p : Addr} {o : HO} (e : EnvOk K F H σ env) (nf : ¬F p) (no : ¬Own σ env p) : EnvOk K F (upd H p o) σ env := by
  have x : Ext F H F (upd H p o) := ⟨fun _ z => z, fun a u hf z => by rw [upd_ne (fun q => nf (by rw [← q]; exact hf))]; exact z⟩
  refine ⟨e.len, fun i d q => ?_, fun i b d q => ?_, e.ne, fun a z => ?_⟩
  · obtain ⟨v, h1, h2⟩ := e.fz i d q
    exact ⟨v, h1, Rp.ext x d v h2⟩
  · obtain ⟨a, h1, h2, h3⟩ := e.ow i b d q
    refine ⟨a, h1, h2, h3.ext x (fun u z => ?_)⟩
    rw [upd_ne (fun q2 => no (by rw [← q2]; exact ⟨i, b, d, q, h1⟩))]
    exact z
  · obtain ⟨u, z⟩ := e.tr a z
    by_cases hp : a = p
    · subst hp; exact ⟨o, upd_same⟩
    · exact ⟨u, by rw [upd_ne hp]; exact z⟩
theorem upd_stp {p : Addr} {o : HO} (s : Stp F H σ env F' H' σ' env') (hp : H p = none) : Stp F H σ env F' (upd H' p o) σ' env' := by
  have ne : ∀ a u, H a = some u → a ≠ p := fun a u h z => by subst z; rw [hp] at h; cases h
  exact ⟨fun a u h n => by rw [upd_ne (ne a u h)]; exact s.fr a u h n, s.f1, s.f2, s.ow, fun a u h => by rw [upd_ne (ne a u h)]; exact s.dm a u h, s.kp, s.ln⟩
end
section
variable {X : Cx} {W : WX} {fi : Ei} {h : Ht} {tst : Et} {el : Ev} {vs : List Nat}
theorem lc_of {σ : L2.St} {H : Hp} {Q : VK} (hh : tE X W (eLc fi h tst el vs) σ H Q) : tLc (tI X W fi) (tG X vs h) (tB X W0 tst) (tE X W0 el) vs σ H Q := by
  obtain ⟨F, env, e, hh⟩ := hh
  refine ⟨F, env, e, ?_⟩
  unfold eLc at hh
  cases q0 : fi env with
  | no => rw [q0] at hh; exact hh
  | ex x env' => rw [q0] at hh; exact hh
  | ok items env1 =>
    rw [q0] at hh
    intro F1 H1 J ok1 s1 r1
    obtain ⟨P, p0, IP⟩ := r1
    intro dd hd
    have hh : fin X W (relT X.K) F H σ env (lcAll h tst el vs items env1) Q := hh
    unfold lcAll at hh
    cases qk : kl vs env1 with
    | none => rw [qk] at hh; exact hh.elim
    | some envk =>
      rw [qk] at hh
      dsimp only at hh
      cases ql : lcD h tst el vs items [] envk with
      | no => rw [ql] at hh; exact hh.elim
      | ex x env' => rw [ql] at hh; exact hh.elim
      | ok ys env2 =>
        rw [ql] at hh
        dsimp only at hh
        obtain ⟨hk1, hk2⟩ := kl_inv qk
        -- the invariant
        refine ⟨fun i m H' => m = items.length - i ∧ i ≤ items.length ∧ ∃ F' env' acc accV, EnvOk X.K F' H' (wipe σ vs) env' ∧ (∀ i ∈ vs, ∀ s, env'[i]? = some s → s = .un) ∧ P F' H' ∧ H' dd = some (.lst accV) ∧ Rps X.K F' H' acc accV ∧ ¬F' dd ∧
          ¬Own (wipe σ vs) env' dd ∧ Stp F1 H1 σ env1 F' H' (wipe σ vs) env' ∧ lcD h tst el vs (items.drop i) acc env' = .ok ys env2, ⟨items.length, by simp, Nat.zero_le _, ?_⟩, ?_⟩
        · obtain ⟨b1, b2⟩ := kill_ok vs ok1
          rw [← hk1] at b1 b2
          have b3 := wipe_ok b1 hk2
          have b4 := b2.trans (stp_wipe hk2)
          have nf := ok1.notF hd
          have no : ¬Own (wipe σ vs) envk dd := b3.notOwn hd
          exact ⟨F1, envk, [], [], upd_ok b3 nf no, hk2, IP.ext _ _ _ _ p0 ⟨fun _ z => z, fun a u hf z => by rw [upd_ne (ne_of_none z hd)]; exact z⟩, upd_same, rfl, nf, no, upd_stp b4 hd, by simpa using ql⟩
        · rintro i m H' ⟨rfl, hi, F', env', acc, accV, e', hu, p', hD, ra, nf, no, st, hl⟩
          by_cases hlt : i < items.length
          · obtain ⟨go, yl⟩ := IP.go i F' H' p' hlt
            rw [List.drop_eq_getElem_cons hlt] at hl
            unfold lcD at hl
            refine .inr ⟨go, _, fun H'' z => ⟨items.length - (i + 1), by omega, rfl, hlt, z⟩, fun x H2 hy => ?_⟩
            obtain ⟨F2, d, gr, hdi, rd⟩ := yl x H2 hy
            rw [List.getElem?_eq_getElem hlt] at hdi
            cases hdi
            obtain ⟨e2, s2⟩ := gr.ok e'
            refine ⟨F2, env', _, e2, rd, ?_⟩
            cases q1 : h items[i] env' with
            | none => simp only [q1] at hl; cases hl
            | some enva =>
              simp only [q1] at hl ⊢
              intro F3 H3 σ3 e3 s3 w3
              have w3 : wipe σ3 vs = wipe σ vs := w3.trans (wipe_wipe σ vs)
              refine ⟨w3, ?_⟩
              have s23 := s2.trans s3
              have fin3 : ∀ {F4 : Fz} {H4 : Hp} {env4 env5 : En} {acc' : List D} {accV' : List V}, EnvOk X.K F4 H4 σ3 env4 → Stp F' H' (wipe σ vs) env' F4 H4 σ3 env4 → ¬F4 dd → ¬Own σ3 env4 dd → kl vs env4 = some env5 → Rps X.K F4 H4 acc' accV' →
                  lcD h tst el vs (items.drop (i + 1)) acc' env5 = .ok ys env2 → ∀ o, (H4 dd = some o) → (∃ F' env' acc accV, EnvOk X.K F' (upd H4 dd (.lst accV')) (wipe σ vs) env' ∧ (∀ i ∈ vs, ∀ s, env'[i]? = some s → s = .un) ∧ P F' (upd H4 dd (.lst accV')) ∧ upd H4 dd (.lst accV') dd = some (.lst accV) ∧ Rps X.K F' (upd H4 dd (.lst accV')) acc accV ∧ ¬F' dd ∧
                    ¬Own (wipe σ vs) env' dd ∧ Stp F1 H1 σ env1 F' (upd H4 dd (.lst accV')) (wipe σ vs) env' ∧ lcD h tst el vs (items.drop (i + 1)) acc env' = .ok ys env2) := fun {F4 H4 env4 env5 acc' accV'} e4 s4 nf4 no4 k4 r4 l4 o ho => by
                obtain ⟨hk3, hk4⟩ := kl_inv k4
                obtain ⟨b1, b2⟩ := kill_ok vs e4
                rw [← hk3] at b1 b2
                have b3 := wipe_ok b1 hk4
                have b4 := b2.trans (stp_wipe hk4)
                rw [w3] at b3 b4
                have no5 : ¬Own (wipe σ vs) env5 dd := fun z => by
                  rcases b4.ow dd z with y | y
                  · exact no4 y
                  · rw [ho] at y; cases y
                have xx : Ext F4 H4 F4 (upd H4 dd (.lst accV')) := ⟨fun _ z => z, fun a u hf z => by rw [upd_ne (fun q => nf4 (by rw [← q]; exact hf))]; exact z⟩
                exact ⟨F4, env5, acc', accV', upd_ok b3 nf4 no5, hk4, IP.ext _ _ _ _ (IP.ext _ _ _ _ p' (s4.ext e')) xx, upd_same, Rps.ext xx _ _ r4, nf4, no5, upd_stp ((st.trans s4).trans b4) hd, l4⟩
              have nfD : ∀ {F4 : Fz} {H4 : Hp} {σ4 : L2.St} {env4 : En}, Stp F' H' (wipe σ vs) env' F4 H4 σ4 env4 → ¬F4 dd ∧ ¬Own σ4 env4 dd ∧ H4 dd = some (.lst accV) := fun {F4 H4 σ4 env4} s4 => by
                refine ⟨fun z => ?_, fun z => ?_, s4.fr dd _ hD no⟩
                · rcases s4.f2 dd z with y | y | y
                  · exact nf y
                  · rw [hD] at y; cases y
                  · exact no y
                · rcases s4.ow dd z with y | y
                  · exact no y
                  · rw [hD] at y; cases y
              refine ⟨F3, enva, e3, ?_⟩
              cases q2 : tst enva with
              | no => simp only [q2] at hl; cases hl
              | ex x env' => simp only [q2] at hl; cases hl
              | ok k envb =>
                cases k with
                | false =>
                  simp only [q2] at hl
                  intro F4 H4 k' e4 s4 rk
                  have rk : false = k' := rk
                  subst rk
                  have s234 := s23.trans s4
                  obtain ⟨n1, n2, n3⟩ := nfD s234
                  split at hl
                  · rename_i envc qc
                    have z := fin3 e4 s234 n1 n2 qc (Rps.ext (s234.ext e') _ _ ra) hl _ n3
                    have eq : upd H4 dd (.lst accV) = H4 := by
                      funext a
                      by_cases ha : a = dd
                      · subst ha; rw [upd_same, n3]
                      · rw [upd_ne ha]
                    rw [eq] at z
                    exact iteF z
                  · cases hl
                | true =>
                  simp only [q2] at hl
                  intro F4 H4 k' e4 s4 rk
                  have rk : true = k' := rk
                  subst rk
                  refine iteT ⟨F4, envb, e4, ?_⟩
                  cases q3 : el envb with
                  | no => simp only [q3] at hl; cases hl
                  | ex x env' => simp only [q3] at hl; cases hl
                  | ok t envc =>
                    simp only [q3] at hl
                    intro F5 H5 y e5 s5 r5
                    have s2345 := (s23.trans s4).trans s5
                    split at hl
                    · rename_i yd envd qd
                      split at hl
                      · rename_i enve qe
                        split at hl
                        · rename_i hsz
                          obtain ⟨F6, ok6, f1, f2, ow, kp, ry⟩ := r5.freeze e5 s5.dm qd
                          have s6 := frz_stp s5 e4 f1 f2 ow kp (freeze_len qd)
                          have sAll := (s23.trans s4).trans s6
                          obtain ⟨n1, n2, n3⟩ := nfD sAll
                          exact ⟨accV, n3, by rw [ra.length]; exact hsz, fin3 ok6 sAll n1 n2 qe ((Rps.ext (sAll.ext e') _ _ ra).append (Rps.cons ry (by simp [Rps]))) hl _ n3⟩
                        · cases hl
                      · cases hl
                    · cases hl
          · have hi' : i = items.length := by omega
            subst hi'
            rw [List.drop_length] at hl
            unfold lcD at hl
            cases hl
            refine .inl ⟨IP.stop F' H' p', ?_⟩
            have u1 := unwipe_ok e' hu
            have u2 := st.trans (stp_unwipe hu)
            obtain ⟨v1, v2⟩ := rests_ok vs (env0 := env1) (fun i d q => by
              obtain ⟨v, z1, z2⟩ := ok1.fz i d q
              exact ⟨v, z1, Rp.ext (st.ext ok1) d v z2⟩) u1
            have u3 := (s1.trans u2).trans v2
            refine hh F' H' (.ref dd) v1 u3 ⟨dd, rfl, nf, ⟨accV, hD, ra⟩, fun z => ?_, none_of_dm s1.dm hd⟩
            rcases v2.ow dd z with y | y
            · exact no ((own_wipe hu).mpr y)
            · rw [hD] at y; cases y
end
section
variable {X : Cx} {W : WX} {elt tg iter c : Expr} {ifs : List Expr} {scope : Scope} {own : List (Str × Nat)} {fi : Ei} {h : Ht} {tst : Et} {el : Ev} {pos spos py : Pos}
theorem jts_nil : PTs X [] (tB X W bYes) := ⟨fun pins s σ H Q I ⟨F, env, e, h⟩ => wpAny_tests_nil ⟨H, I, fin.bl h e⟩⟩
theorem jts_one (h : JT X W c tst) : PTs X [c] (tB X W tst) := pts_one h
theorem je_lc (hc : X.calm = true) (hN : X.N.Nodup) (hi : JI X W tg iter fi) (ok : BlkOk X.N X.env.scope scope own)
    (hg : ∀ (s : Shared) (H : Hp) (C : Addr) (cl : List (Str × Addr)) (fp : List Addr), PG (X.blk s H scope (compEnvC scope cl C X.env) fp) tg (tG X (own.map (·.2)) h))
    (ht : ∀ (s : Shared) (H : Hp) (C : Addr) (cl : List (Str × Addr)) (fp : List Addr), PTs (X.blk s H scope (compEnvC scope cl C X.env) fp) ifs (tB X W0 tst))
    (he : ∀ (s : Shared) (H : Hp) (C : Addr) (cl : List (Str × Addr)) (fp : List Addr), PE (X.blk s H scope (compEnvC scope cl C X.env) fp) elt (tE X W0 el))
    (hs : ∀ x, foldedSetIterable iter X.env x = pure x := by intro _; rfl) : JE X W (.ListComp elt [⟨tg, iter, ifs, 0⟩] scope pos) (eLc fi h tst el (own.map (·.2))) :=
  PE.imp (pe_lc hc hN hi ok hg ht he hs) fun σ H Q q => lc_of q
theorem js_setLc {i : Nat} {y : Str} (hc : X.calm = true) (hN : X.N.Nodup)
    (hsw : swapsWith (.ListComp elt [⟨tg, iter, ifs, 0⟩] scope pos) (some (.Name y py)) spos.line X.env = pure true) (hi : JI X W tg iter fi) (ok : BlkOk X.N X.env.scope scope own)
    (hg : ∀ (s : Shared) (H : Hp) (C : Addr) (cl : List (Str × Addr)) (fp : List Addr), PG (X.blk s H scope (compEnvC scope cl C X.env) fp) tg (tG X (own.map (·.2)) h))
    (ht : ∀ (s : Shared) (H : Hp) (C : Addr) (cl : List (Str × Addr)) (fp : List Addr), PTs (X.blk s H scope (compEnvC scope cl C X.env) fp) ifs (tB X W0 tst))
    (he : ∀ (s : Shared) (H : Hp) (C : Addr) (cl : List (Str × Addr)) (fp : List Addr), PE (X.blk s H scope (compEnvC scope cl C X.env) fp) elt (tE X W0 el))
    (hy : X.N[i]? = some y := by rfl) (hyl : X.env.scope.names.lookup y = some .local := by rfl) (hs : ∀ x, foldedSetIterable iter X.env x = pure x := by intro _; rfl) :
    JS X W (.Assign [.Name y py] (.ListComp elt [⟨tg, iter, ifs, 0⟩] scope pos) spos) (sSet i (eLc fi h tst el (own.map (·.2)))) :=
  PS.imp (ps_setLc hc hN hy hyl hsw hi ok hg ht he hs) fun D σ H q => lc_of (set_of q)
end
end Dl
namespace Dl
open PySem PySem.Spec PyProof.Rows L2

/-! ### a def as its callers see it -/
structure Cal (P : Program) (w : World) (K : PySem.W.Frag) (mg : Str → Option Value) (base : Heap) (k : Nat) (x : Str) (ps : List Str) (m : En → RD) : Prop where
  ex : ∃ (f : Addr) (fd : FuncData), FnOk P w K mg base (L2.CX P w) k f fd ps (spM K mg ps.length m) ∧ mg x = some (.ref f) ∧ PySem.W.keepIn K (.ref f) = true ∧ Binds K fd ps []
  hl : ∀ sl, m sl ≠ .no → sl.length = ps.length
section
variable {X : Cx} {W : WX} {e : Expr} {es : List Expr} {fs : Ea} {x : Str} {p pos : Pos} {ps : List Str}
theorem je_cal {m : En → RD} {k k2 : Nat} (G : Cal X.prog X.w X.K X.mg X.base k x ps m) (hr : Room k2 X.A) (hk : k ≤ k2) (tk : Takes X W) (ha : JA X W (e :: es) fs) (hg : Gl X x := by rfl) (hdb : (x == ("__debug__" : Str)) = false := by decide)
    (he : starEach (e :: es) X.env = (false, eval e X.env) :: starEach es X.env := by rfl) (hpl : (backTo pos (starEach es X.env)).any (·.1) = false := by rfl) : JE X W (.Call (.Name x p) (e :: es) [] pos) (eCall m fs) := by
  obtain ⟨f, fd, h1, h2, h3, h4⟩ := G.ex
  exact je_call h1 G.hl (hr.mono hk) tk h2 h3 h4 ha hg hdb he hpl
end
section
variable {P : Program} {w : World} {K : PySem.W.Frag} {mg : Str → Option Value} {base : Heap}
theorem cal_mk {x : Str} {params : Arguments} {body : List Stmt} {scope : Scope} {f : Addr} {N ps : List Str} {k : Nat} {g : Es} (F : ∃ fd, FunD K x x params body scope [] [] f fd) (hm : mg x = some (.ref f))
    (hb : ∀ (kV doc pm : Value) (an : Option Addr) (cdv ct : Value) (us : List Value), us.length = ps.length → bindArgs (PySem.W.fnOf x x params body scope .none kV doc pm an cdv ct) ⟨us, []⟩ = pure (ps.zip us))
    (S : FnScope N ps scope)
    (hbody : ∀ (X : Cx) (W : WX) (cdv : Value) (A : Around) (outer : List Env) (s : Shared) (H : Hp) (E : XK), X = cxOf (L2.CX P w) P w K mg base N x scope f cdv A outer s H E → W = (fun cls d _ H => E cls d H) → Room k X.A → Takes X W → PassesOwn (model X.prog X.w) X.A X.env X.xe → X.A.units + 64 < cLine →
      JSs X W body g) : Cal P w K mg base (k + 1) x ps (mDef ps.length (N.length - ps.length) g) := by
  obtain ⟨fd, F⟩ := F
  exact ⟨⟨f, fd, fn_def F S fun cdv A outer s H E hr => hbody _ _ cdv A outer s H E rfl rfl hr (takes_of rfl rfl rfl rfl) (passes_of rfl) hr.units, hm, F.kp, F.bindsN hb⟩, fun sl h => mDef_len sl h⟩
theorem cal_no {x : Str} {params : Arguments} {body : List Stmt} {scope : Scope} {f : Addr} {N ps : List Str} {k : Nat} (F : ∃ fd, FunD K x x params body scope [] [] f fd) (hm : mg x = some (.ref f))
    (hb : ∀ (kV doc pm : Value) (an : Option Addr) (cdv ct : Value) (us : List Value), us.length = ps.length → bindArgs (PySem.W.fnOf x x params body scope .none kV doc pm an cdv ct) ⟨us, []⟩ = pure (ps.zip us))
    (S : FnScope N ps scope) : Cal P w K mg base (k + 1) x ps (fun _ => .no) := by
  obtain ⟨fd, F⟩ := F
  refine ⟨⟨f, fd, FunD.ok F S (fun vs H Q E h => h.1) (fun cdv A outer s H vs Q E hr h => ?_), hm, F.kp, F.bindsN hb⟩, fun sl h => absurd rfl h⟩
  obtain ⟨_, _, _, _, _, z⟩ := h
  exact z.elim
end
/-! ### constants of the module -/
section
variable {K : PySem.W.Frag} {h : Heap} {mg : Str → Option Value}
def bltB (K : PySem.W.Frag) (x : Str) (id : String) : Bool := He.eqO (PySem.W.nsIn K mainGlobals x) (some (some (.builtin id)))
theorem bltB_ok (X : K.In h) (G : h.Ns mainGlobals mg) {x : Str} {id : String} (c : bltB K x id = true) : mg x = some (.builtin id) := PySem.W.mg_of X G (He.eqO_ok c)
/-- a module's tuple of plain values -/
def tupC (K : PySem.W.Frag) (x : Str) (vs : List He.Dv) : Bool := He.eqO (PySem.W.nsIn K mainGlobals x) (some (some (.ref (He.ga K x)))) && He.tupB K x vs
theorem tupC_ok (X : K.In h) (G : h.Ns mainGlobals mg) {x : Str} {vs : List He.Dv} (c : tupC K x vs = true) : mg x = some (.ref (He.ga K x)) ∧ SqTK K (He.ga K x) (vs.map (He.Dv.v K)) := by
  obtain ⟨c1, c2⟩ := He.ba c
  refine ⟨PySem.W.mg_of X G (He.eqO_ok c1), ?_⟩
  unfold He.tupB at c2
  split at c2
  · rename_i q
    obtain ⟨h1, h2⟩ := He.ba c2
    obtain ⟨h3, h4⟩ := He.ba h2
    exact ⟨_, _, _, q, congrArg Value.type (of_decide_eq_true h1), rfl, of_decide_eq_true h3, He.relAll_ok h4⟩
  · cases c2
def dInts : List He.Dv → Option (List D)
  | [] => some []
  | .int i :: r => (dInts r).map (.int i :: ·)
  | .str i :: r => (dInts r).map (.str i :: ·)
  | _ => none
theorem dInts_ok {F : Fz} {H : Hp} : ∀ {vs : List He.Dv} {ds : List D}, dInts vs = some ds → Rps K F H ds (vs.map (He.Dv.v K))
  | [], _, e => by cases e; exact Rps.nil
  | .int i :: r, _, e => by
    obtain ⟨q, e1, rfl⟩ := Option.map_eq_some_iff.mp e
    exact Rps.cons rfl (dInts_ok e1)
  | .str i :: r, _, e => by
    obtain ⟨q, e1, rfl⟩ := Option.map_eq_some_iff.mp e
    exact Rps.cons rfl (dInts_ok e1)
  | .non :: _, _, e => by cases e
  | .bl _ :: _, _, e => by cases e
  | .byt _ :: _, _, e => by cases e
  | .flt _ :: _, _, e => by cases e
  | .ty _ :: _, _, e => by cases e
  | .glo _ :: _, _, e => by cases e
  | .adr _ :: _, _, e => by cases e
end
theorem je_tupG {X : Cx} {W : WX} {x : Str} {vs : List He.Dv} {ds : List D} {pos : Pos} (h : X.mg x = some (.ref (He.ga X.K x)) ∧ SqTK X.K (He.ga X.K x) (vs.map (He.Dv.v X.K))) (hd : dInts vs = some ds := by rfl) (hg : Gl X x := by rfl) (hdb : (x == ("__debug__" : Str)) = false := by decide) :
    JE X W (.Name x pos) (eC (.tup ds)) := je_glob (v := .ref (He.ga X.K x)) h.1 rfl (fun F H => ⟨_, _, rfl, .inr h.2, dInts_ok hd⟩) hg hdb
/-! ### a comprehension's block, by a check -/
def blkB (N : List Str) (sn : List (Str × NameKind)) (scope : Scope) (own : List (Str × Nat)) : Bool :=
  decide (scope.kind = .function) && (decide (∀ y ∈ scope.names, scope.names.lookup y.1 = some y.2) && (decide (∀ p ∈ own, N[p.2]? = some p.1) &&
  (decide (∀ y ∈ scope.names, y.2 = .free → sn.lookup y.1 = some .cell ∨ sn.lookup y.1 = some .free) && decide (∀ y ∈ scope.names, y.2 = .local ∨ y.2 = .cell → y.1 ∈ own.map (·.1) ∨ y.1 ∉ N))))
theorem blk_ok {N : List Str} {sc scope : Scope} {own : List (Str × Nat)} (h : blkB N sc.names scope own = true) : BlkOk N sc scope own := by
  obtain ⟨h1, h⟩ := He.ba h
  obtain ⟨h2, h⟩ := He.ba h
  obtain ⟨h3, h⟩ := He.ba h
  obtain ⟨h4, h5⟩ := He.ba h
  exact ⟨of_decide_eq_true h1, of_decide_eq_true h2, of_decide_eq_true h3, of_decide_eq_true h4, of_decide_eq_true h5⟩
/-! ### for fuels -/
def gI (env : En) (i : Nat) : Int := match env[i]? with
  | some (.fz (.int k)) => k
  | _ => 0
def gL (env : En) (i : Nat) : Nat := match env[i]? with
  | some (.fz d) => (dLen d).getD 0
  | some (.ow _ d) => (dLen d).getD 0
  | _ => 0
end Dl
namespace Dl
open PySem PySem.Spec PyProof.Rows L2
section
variable {P : Program} {w : World} {K : PySem.W.Frag} {mg : Str → Option Value} {base : Heap}
/-- as cal_mk, the function object told -/
theorem fn_mk {x : Str} {params : Arguments} {body : List Stmt} {scope : Scope} {f : Addr} {fd : FuncData} {N ps : List Str} {k : Nat} {g : Es} (F : FunD K x x params body scope [] [] f fd)
    (S : FnScope N ps scope)
    (hbody : ∀ (X : Cx) (W : WX) (cdv : Value) (A : Around) (outer : List Env) (s : Shared) (H : Hp) (E : XK), X = cxOf (L2.CX P w) P w K mg base N x scope f cdv A outer s H E → W = (fun cls d _ H => E cls d H) → Room k X.A → Takes X W → PassesOwn (model X.prog X.w) X.A X.env X.xe → X.A.units + 64 < cLine →
      JSs X W body g) : FnOk P w K mg base (L2.CX P w) (k + 1) f fd ps (spM K mg ps.length (mDef ps.length (N.length - ps.length) g)) :=
  fn_def F S fun cdv A outer s H E hr => hbody _ _ cdv A outer s H E rfl rfl hr (takes_of rfl rfl rfl rfl) (passes_of rfl) hr.units
end
/-- the script, as the law's def gets it -/
theorem sp_script {K : PySem.W.Frag} {mg : Str → Option Value} {H : Hp} {a : Addr} {ns : List Int} {m : En → RD} {fin : En} (hS : SqL K H a (ns.map V.int)) (h : m [.fz (.scr (ns.map D.int))] = .rt (.fz (.bl true)) fin) :
    spM K mg 1 m [.ref a] H (fun v _ => v = .bl true) fun _ _ _ => False := by
  have key : ∀ F : Fz, ((F a ∧ Rd H a (.lst (ns.map V.int))) ∨ SqLK K a (ns.map V.int)) → (∀ b, F b → ∃ o, H b = some o) → EnvOk K F H [some (.ref a)] [.fz (.scr (ns.map D.int))] := fun F hF tr =>
    ⟨rfl, fun i d q => (by
      cases i with
      | zero => cases q; exact ⟨.ref a, rfl, a, _, rfl, hF, Rps.of_ints⟩
      | succ i => cases q), fun i b d q => (by
      cases i with
      | zero => cases q
      | succ i => cases q), fun i j b b' d d' c q _ _ _ => (by
      cases i with
      | zero => cases q
      | succ i => cases q), tr⟩
  have lt : Lent [.fz (.scr (ns.map D.int))] := fun i s q => by
    cases i with
    | zero => cases q; exact .inl ⟨_, rfl⟩
    | succ i => cases q
  rcases hS with hS | hS
  · refine ⟨rfl, fun b => b = a, _, key _ (.inl ⟨rfl, hS⟩) (fun b hb => ?_), lt, ?_⟩
    · subst hb
      rcases hS with z | ⟨u, z⟩
      · exact ⟨_, z⟩
      · exact ⟨_, z⟩
    · rw [h]
      exact fun F' H' v e s r => r
  · refine ⟨rfl, fun b => False, _, key _ (.inr hS) (fun b hb => hb.elim), lt, ?_⟩
    rw [h]
    exact fun F' H' v e s r => r
/-- THE END of a law: what its def computes of every script -/
theorem law_end {l : PySem.W.OpenLaw} {k : Nat} {q : Program} {loose : List Str} {XP : (Str → Option Value) → Heap → Prop} {YP : World → Heap → Prop} {d : DefRec} {m : En → RD}
    (hn : l.most = some 63) (hdf : d.params.defaults = []) (hr : Room k callerA)
    (F : ∀ (w : World) (mg : Str → Option Value) (fa : Addr) (h : Heap), YP w h → h.Ns mainGlobals mg → mg d.name = some (.ref fa) →
      ∃ (K : PySem.W.Frag) (fd : FuncData), K.In h ∧ (∀ (s : Shared) (u : Value), BindsTo s fd ⟨[u], []⟩ [("script", u)]) ∧
        ∀ base : Heap, K.In base → base.Ns mainGlobals mg → FnOk l.prog w K mg base (L2.CX l.prog w) k fa fd ["script"] (spM K mg 1 m))
    (M : ∀ ns : List Int, ns.length ≤ 63 → (∀ n ∈ ns, bits n ≤ 1048576) → ∃ fin, m [.fz (.scr (ns.map D.int))] = .rt (.fz (.bl true)) fin) :
    PySem.W.WalkO q loose XP YP l.row.toRowW d [] (fun f vs => PySem.call f vs) := by
  refine Att.attach_callB hn hdf fun w s₀ s₁ mg mb fa o pm cd doc a vs ns G Y ho hd hcd hmg hobj hints hlen hbits hg => ?_
  obtain ⟨K, fd, KX, hb, hF⟩ := F w mg fa _ Y G.T.g hmg
  obtain ⟨fin, hm⟩ := M ns hlen fun n hn => by
    have z := hbits n hn
    unfold Builtin.Int.intBits at z
    unfold bits
    by_cases h0 : n = 0
    · subst h0; decide
    · have e : (n == 0) = false := by simpa using h0
      rw [e] at z
      have z : n.natAbs.log2 + 1 ≤ 1048576 := z
      omega
  exact law_call KX G.T.g G.T.b G.T.builtins G.T.nolimit hg hobj hints (Nat.le_trans hlen (by decide)) hr hF hb (fun H hO hS => sp_script hS hm) fun H e s' z => by
    obtain ⟨_, _, _, _, _, _, _, _, _, _, _, _, z⟩ := z
    exact z
end Dl
namespace Dl
open PySem PySem.Spec PyProof.Rows L2
/-! ### isinstance(x, T), T a built-in type -/
section
variable {K : PySem.W.Frag} {F : Fz} {H : Hp}
theorem seqT_ty {a : Addr} {vs : List V} (h : SqT K H a vs) : TyX K H (.ref a) (.type "tuple") := by
  rcases h with (h | ⟨o, h⟩) | ⟨o, its, n, h1, h2, _⟩
  · exact .base (.tup h)
  · exact .fTuple h
  · exact .kTuple h1 h2
theorem seqL_ty {a : Addr} {vs : List V} (h : SqL K H a vs) : TyX K H (.ref a) (.type "list") := by
  rcases h with (h | ⟨o, h⟩) | ⟨o, its, n, h1, h2, _⟩
  · exact .base (.lst h)
  · exact .base (.frz h)
  · exact .kList h1 h2
theorem pk_ty : ∀ {d : D} {v : V}, Pk K F H d v → TyX K H v (.type (tyD d))
  | .non, _, h => by cases (show _ = _ from h); exact .base .non
  | .bl b, _, h => by cases (show _ = _ from h); exact .base (.bl b)
  | .int b, _, h => by cases (show _ = _ from h); exact .base (.int b)
  | .str b, _, h => by cases (show _ = _ from h); exact .base (.str b)
  | .tup ds, _, h => by
    obtain ⟨a, vs, rfl, h1, _⟩ := Rp.tupOf h
    exact seqT_ty h1
  | .scr ds, _, h => by
    obtain ⟨a, vs, rfl, h1, _⟩ := Rp.scrOf h
    exact seqL_ty h1
  | .lst ds, _, ⟨a, vs, e, h, _⟩ => by subst e; exact .base (.lst h)
  | .dK ks ds, _, ⟨a, vs, e, h, _⟩ => by subst e; exact .base (.dK h)
end
def dTy (g : D → Bool) (d : D) (env : En) : R T := okB (g d) env
def tyBool : D → Bool
  | .bl _ => true
  | _ => false
def tyInt : D → Bool
  | .bl _ => true
  | .int _ => true
  | _ => false
def tyStr : D → Bool
  | .str _ => true
  | _ => false
def tyTuple : D → Bool
  | .tup _ => true
  | _ => false
def tyList : D → Bool
  | .lst _ => true
  | .scr _ => true
  | _ => false
section
variable {X : Cx} {W : WX} {e : Expr} {f : Ev} {p p2 pos : Pos}
theorem je_is {x : Str} {ty : String} (g : D → Bool) (hk : ∀ d, kitB (tyD d) ty = some (g d)) (hv : bootBuiltins x = some (.type ty)) (hx : x ≠ "__name__") (hxd : (x == ("__debug__" : Str)) = false) (hm : X.mg "isinstance" = none) (ht : X.mg x = none) (ha : JE X W e f)
    (hg : Gl X "isinstance" := by rfl) (hgx : Gl X x := by rfl)
    (he : starEach [e, .Name x p2] X.env = (false, eval e X.env) :: starEach [.Name x p2] X.env := by rfl) (he2 : starEach [.Name x p2] X.env = [(false, eval (.Name x p2) X.env)] := by rfl) (hpl : (backTo pos (starEach [.Name x p2] X.env)).any (·.1) = false := by rfl) :
    JE X W (.Call (.Name "isinstance" p) [e, .Name x p2] [] pos) (e1 f (dTy g)) :=
  PE.imp (pe_callB call_isi hg hm (by decide +kernel) (pa_cons ha (pa_cons (pe_bltn (v := .ty ty) hgx ht hv rfl hx hxd) pa_nil he2) he) (by decide) (by decide) he hpl) fun σ H Q h => one_of h fun F H1 env d x e1 pk q =>
    ⟨x, .ty ty, _, _, _, rfl, .ty ty, pk_ty pk, hk d, q.val e1 rfl⟩
theorem je_isBool (hm : X.mg "isinstance" = none) (ht : X.mg "bool" = none) (ha : JE X W e f) (hg : Gl X "isinstance" := by rfl) (hgx : Gl X "bool" := by rfl)
    (he : starEach [e, .Name "bool" p2] X.env = (false, eval e X.env) :: starEach [.Name "bool" p2] X.env := by rfl) (he2 : starEach [.Name "bool" p2] X.env = [(false, eval (.Name "bool" p2) X.env)] := by rfl) (hpl : (backTo pos (starEach [.Name "bool" p2] X.env)).any (·.1) = false := by rfl) :
    JE X W (.Call (.Name "isinstance" p) [e, .Name "bool" p2] [] pos) (e1 f (dTy tyBool)) := je_is (ty := "bool") tyBool (fun d => by cases d <;> kernel_rfl) (by decide +kernel) (by decide) (by decide) hm ht ha hg hgx he he2 hpl
theorem je_isInt (hm : X.mg "isinstance" = none) (ht : X.mg "int" = none) (ha : JE X W e f) (hg : Gl X "isinstance" := by rfl) (hgx : Gl X "int" := by rfl)
    (he : starEach [e, .Name "int" p2] X.env = (false, eval e X.env) :: starEach [.Name "int" p2] X.env := by rfl) (he2 : starEach [.Name "int" p2] X.env = [(false, eval (.Name "int" p2) X.env)] := by rfl) (hpl : (backTo pos (starEach [.Name "int" p2] X.env)).any (·.1) = false := by rfl) :
    JE X W (.Call (.Name "isinstance" p) [e, .Name "int" p2] [] pos) (e1 f (dTy tyInt)) := je_is (ty := "int") tyInt (fun d => by cases d <;> kernel_rfl) (by decide +kernel) (by decide) (by decide) hm ht ha hg hgx he he2 hpl
theorem je_isStr (hm : X.mg "isinstance" = none) (ht : X.mg "str" = none) (ha : JE X W e f) (hg : Gl X "isinstance" := by rfl) (hgx : Gl X "str" := by rfl)
    (he : starEach [e, .Name "str" p2] X.env = (false, eval e X.env) :: starEach [.Name "str" p2] X.env := by rfl) (he2 : starEach [.Name "str" p2] X.env = [(false, eval (.Name "str" p2) X.env)] := by rfl) (hpl : (backTo pos (starEach [.Name "str" p2] X.env)).any (·.1) = false := by rfl) :
    JE X W (.Call (.Name "isinstance" p) [e, .Name "str" p2] [] pos) (e1 f (dTy tyStr)) := je_is (ty := "str") tyStr (fun d => by cases d <;> kernel_rfl) (by decide +kernel) (by decide) (by decide) hm ht ha hg hgx he he2 hpl
theorem je_isTuple (hm : X.mg "isinstance" = none) (ht : X.mg "tuple" = none) (ha : JE X W e f) (hg : Gl X "isinstance" := by rfl) (hgx : Gl X "tuple" := by rfl)
    (he : starEach [e, .Name "tuple" p2] X.env = (false, eval e X.env) :: starEach [.Name "tuple" p2] X.env := by rfl) (he2 : starEach [.Name "tuple" p2] X.env = [(false, eval (.Name "tuple" p2) X.env)] := by rfl) (hpl : (backTo pos (starEach [.Name "tuple" p2] X.env)).any (·.1) = false := by rfl) :
    JE X W (.Call (.Name "isinstance" p) [e, .Name "tuple" p2] [] pos) (e1 f (dTy tyTuple)) := je_is (ty := "tuple") tyTuple (fun d => by cases d <;> kernel_rfl) (by decide +kernel) (by decide) (by decide) hm ht ha hg hgx he he2 hpl
theorem je_isList (hm : X.mg "isinstance" = none) (ht : X.mg "list" = none) (ha : JE X W e f) (hg : Gl X "isinstance" := by rfl) (hgx : Gl X "list" := by rfl)
    (he : starEach [e, .Name "list" p2] X.env = (false, eval e X.env) :: starEach [.Name "list" p2] X.env := by rfl) (he2 : starEach [.Name "list" p2] X.env = [(false, eval (.Name "list" p2) X.env)] := by rfl) (hpl : (backTo pos (starEach [.Name "list" p2] X.env)).any (·.1) = false := by rfl) :
    JE X W (.Call (.Name "isinstance" p) [e, .Name "list" p2] [] pos) (e1 f (dTy tyList)) := je_is (ty := "list") tyList (fun d => by cases d <;> kernel_rfl) (by decide +kernel) (by decide) (by decide) hm ht ha hg hgx he he2 hpl
end
end Dl
namespace Dl
open PySem PySem.Spec PyProof.Rows L2
/-! ### raise C('..'), C an own class without __init__ -/
def sRaise (x : Str) : Es := fun env => .ex ⟨x, []⟩ env
/-- what is known of such a class -/
structure ExcF (K : PySem.W.Frag) (mg : Str → Option Value) (x : Str) (C : Addr) : Prop where
  g : mg x = some (.ref C)
  q : PySem.W.excIn K C He.veBase "ValueError.__new__" = true
  k : PySem.W.keepIn K (.ref C) = true
  s : PySem.W.subIn K (.ref C) (.type "BaseException") = some true
  t : PySem.W.typeIn K (.ref C) = some (.type "type")
theorem js_raise {X : Cx} {W : WX} {x m : Str} {C : Addr} {j : Nat} {p p2 pos pos' : Pos} (h : ExcF X.K X.mg x C) (hc : X.calm = true) (tk : Takes X W) (hg : Gl X x := by rfl) (hdb : (x == ("__debug__" : Str)) = false := by decide) :
    JS X W (.Raise (some (.Call (.Name x p) [.Constant (.str m) j p2] [] pos)) none pos') (sRaise x) :=
  PS.imp (ps_raise hc tk (pmk_own PySem.F.excBase_ValueError h.q h.g h.k (raises_own h.s h.t) hg hdb)) fun D σ H ⟨F, env, e, z⟩ =>
    (show finS X W F H σ env (.ex ⟨x, []⟩ env) D from z) F H σ _ _ e Stp.refl ⟨h.g, rfl⟩
/-! ### isinstance(e, C) in an except suite -/
def PAe (X : Cx) (i : Nat) (a : Addr) (es : List Expr) (bs : List Bool) : Prop := PA X es fun σ H Q => σ[i]? = some (some (.ref a)) ∧ Q (bs.map V.bl) H
def PEe (X : Cx) (i : Nat) (a : Addr) (e : Expr) (b : Bool) : Prop := PE X e fun σ H Q => σ[i]? = some (some (.ref a)) ∧ Q (.bl b) H
theorem pae_nil {X : Cx} {i : Nat} {a : Addr} : PAe X i a [] [] := PA.imp pa_nil fun σ H Q h => h.2
theorem pae_cons {X : Cx} {i : Nat} {a : Addr} {e : Expr} {es : List Expr} {b : Bool} {bs : List Bool} (h1 : PEe X i a e b) (h2 : PAe X i a es bs) (hs : starEach (e :: es) X.env = (false, eval e X.env) :: starEach es X.env := by rfl) : PAe X i a (e :: es) (b :: bs) :=
  PA.imp (pa_cons h1 h2 hs) fun σ H Q h => ⟨h.1, h.1, h.2⟩
theorem pee_is {X : Cx} {i : Nat} {a D C : Addr} {oe : Obj} {pn : List (Addr × Obj)} {n x : Str} {b : Bool} {p p1 p2 pos : Pos} (CC : ExcC X.K D) (hz : Zc (.ref D) none oe) (hf : ∃ vs, oe.data = .fields vs) (hm : X.mg "isinstance" = none)
    (hx : X.mg x = some (.ref C)) (hk : PySem.W.kitOne X.K (.ref D) (.ref C) = some b) (hn : X.N[i]? = some n := by rfl) (hv : Vis X.env.scope n := by first | exact Or.inl rfl | exact Or.inr (Or.inl rfl)) (hg : Gl X "isinstance" := by rfl) (hgx : Gl X x := by rfl)
    (hnd : (n == ("__debug__" : Str)) = false := by decide) (hncd : (n == ("__classdict__" : Str)) = false := by decide) (hxd : (x == ("__debug__" : Str)) = false := by decide)
    (he : starEach [.Name n p1, .Name x p2] X.env = (false, eval (.Name n p1) X.env) :: starEach [.Name x p2] X.env := by rfl) (he2 : starEach [.Name x p2] X.env = [(false, eval (.Name x p2) X.env)] := by rfl) (hpl : (backTo pos (starEach [.Name x p2] X.env)).any (·.1) = false := by rfl) :
    PEe (X.suite a ((a, oe) :: pn)) i a (.Call (.Name "isinstance" p) [.Name n p1, .Name x p2] [] pos) b :=
  PE.imp (pe_callB (X := X.suite a ((a, oe) :: pn)) (call_isE CC hz hf) hg hm (by decide +kernel) (pa_cons (pe_var hn hv hnd hncd) (pa_cons (pe_glob (v := .ref C) hgx hx rfl hxd) pa_nil he2) he) (by decide) (by decide) he hpl) fun σ H Q h =>
    ⟨_, h.1, _, .ref C, b, rfl, fun u r => r, hk, h.2⟩
theorem pee_isT {X : Cx} {i : Nat} {a D : Addr} {ty : String} {oe : Obj} {pn : List (Addr × Obj)} {n x : Str} {b : Bool} {p p1 p2 pos : Pos} (CC : ExcC X.K D) (hz : Zc (.ref D) none oe) (hf : ∃ vs, oe.data = .fields vs) (hm : X.mg "isinstance" = none)
    (hx : X.mg x = none) (hbv : bootBuiltins x = some (.type ty)) (hk : PySem.W.kitOne X.K (.ref D) (.type ty) = some b) (hn : X.N[i]? = some n := by rfl) (hv : Vis X.env.scope n := by first | exact Or.inl rfl | exact Or.inr (Or.inl rfl)) (hg : Gl X "isinstance" := by rfl) (hgx : Gl X x := by rfl)
    (hnd : (n == ("__debug__" : Str)) = false := by decide) (hncd : (n == ("__classdict__" : Str)) = false := by decide) (hxd : (x == ("__debug__" : Str)) = false := by decide) (hxn : x ≠ "__name__" := by decide)
    (he : starEach [.Name n p1, .Name x p2] X.env = (false, eval (.Name n p1) X.env) :: starEach [.Name x p2] X.env := by rfl) (he2 : starEach [.Name x p2] X.env = [(false, eval (.Name x p2) X.env)] := by rfl) (hpl : (backTo pos (starEach [.Name x p2] X.env)).any (·.1) = false := by rfl) :
    PEe (X.suite a ((a, oe) :: pn)) i a (.Call (.Name "isinstance" p) [.Name n p1, .Name x p2] [] pos) b :=
  PE.imp (pe_callB (X := X.suite a ((a, oe) :: pn)) (call_isE CC hz hf) hg hm (by decide +kernel) (pa_cons (pe_var hn hv hnd hncd) (pa_cons (pe_bltn (v := .ty ty) hgx hx hbv rfl hxn hxd) pa_nil he2) he) (by decide) (by decide) he hpl) fun σ H Q h =>
    ⟨_, h.1, _, .type ty, b, rfl, fun u r => r, hk, h.2⟩
/-! ### try: body except B as n: return [isinstance(n, ..), ..] -/
def sTryM (i : Nat) (c0 : Str) (bs : List Bool) (g : Es) : Es := fun env => match g env with
  | .ex x env' => if x.c = c0 ∧ x.fs = [] ∧ bs.length ≤ sizeLine then match env'[i]? with
      | some .un => .rt (.new (.lst (bs.map D.bl))) env'
      | _ => .no
    else .no
  | r => r
theorem pss_of {X : Cx} {ss : List Stmt} {t : TS} (k : ∀ D σ H, t D σ H → ∃ t', PSs X ss t' ∧ t' D σ H) : PSs X ss t := ⟨fun pins s σ H D I h => by
  obtain ⟨t', p, h'⟩ := k D σ H h
  exact p.run pins s σ H D I h'⟩
theorem Rps.of_bls {K : PySem.W.Frag} {F : Fz} {H : Hp} : ∀ {ns : List Bool}, Rps K F H (ns.map D.bl) (ns.map V.bl)
  | [] => Rps.nil
  | n :: r => Rps.cons rfl Rps.of_bls
theorem js_tryM {X : Cx} {W : WX} {i : Nat} {n x c0 : Str} {C B : Addr} {bs : List Bool} {g : Es} {body : List Stmt} {es : List Expr} {np p1 p2 pos pos' : Pos} (hs : X.stack = X.env :: X.outer) (hfr : X.env.frame = some X.env.locals) (hN : X.N.Nodup)
    (gC : X.mg c0 = some (.ref C)) (gB : X.mg x = some (.ref B)) (hex : PySem.W.exmOne X.K (.ref C) (.ref B) = some true) (tk : Takes X W)
    (hb : ∀ (W' : WX) (pn : List (Addr × Obj)) (xe : Value → Shared → Prop), Takes (X.tr pn xe) W' → PassesOwn (model X.prog X.w) X.A X.env xe → JSs (X.tr pn xe) W' body g)
    (hes : ∀ (a : Addr) (oe : Obj) (pn : List (Addr × Obj)), Zc (.ref C) none oe → (∃ vs, oe.data = .fields vs) → PAe (X.suite a ((a, oe) :: pn)) i a es bs)
    (hi : X.N[i]? = some n := by rfl) (hln : X.env.kindOf n = some .local := by rfl) (hgx : Gl X x := by rfl) (hxd : (x == ("__debug__" : Str)) = false := by decide) :
    JS X W (.Try body [.ExceptHandler (some (.Name x np)) (some n) [.Return (some (.List es p1)) p2] pos'] [] [] pos) (sTryM i c0 bs g) := by
  refine PS.imp (ps_try_as (i := i) (c := .ref B) (ts := fun a cls d D σ H => cls = .ref C ∧ d = none ∧ σ[i]? = some (some (.ref a)) ∧ bs.length ≤ sizeLine ∧ ∀ p, H p = none → D.rt (.ref p) (upd H p (.lst (bs.map V.bl)))) hs hfr hN hi hln ⟨hgx, hxd, .inl gB⟩ tk (tb := fun W' => tS X W' g) (fun W' pn xe tk' hp => hb W' pn xe tk' hp) (fun a oe cls d pn hz hf => ?_)) ?_
  · refine pss_of fun D σ H ⟨e1, e2, e3, e4, e5⟩ => ?_
    subst e1 e2
    exact ⟨_, pss_one (ps_ret (pe_lst (hes a oe pn hz hf))), e3, by rw [List.length_map]; exact e4, fun p hp => e5 p hp⟩
  · rintro D σ H ⟨F, env, e, z⟩
    refine ⟨F, env, e, ?_⟩
    unfold sTryM at z
    cases q : g env with
    | nx env' => rw [q] at z; exact z
    | bk env' => rw [q] at z; exact z
    | ct env' => rw [q] at z; exact z
    | rt t env' => rw [q] at z; exact z
    | no => rw [q] at z; exact z
    | ex y env' =>
      rw [q] at z
      intro F' H' σ' cls d e' s' r
      simp only at z
      split at z
      · rename_i hc
        obtain ⟨hc1, hc2, hc3⟩ := hc
        split at z
        · rename_i hun
          obtain ⟨r1, r2⟩ := r
          rw [hc1, gC] at r1
          cases r1
          rw [hc2] at r2
          have r2 : d = none := r2
          subst r2
          have hi' : i < σ'.length := by rw [e'.len]; exact (List.getElem?_eq_some_iff.mp hun).1
          refine ⟨true, hex, fun _ a ha => ⟨rfl, rfl, List.getElem?_set_self hi', hc3, fun p hp => ?_⟩, fun q => nomatch q⟩
          have x1 : Ext F' H' F' (upd H' p (.lst (bs.map V.bl))) := ⟨fun _ z => z, fun a u hf z => by rw [upd_ne (ne_of_none z hp)]; exact z⟩
          have s2 := s'.trans (Stp.laid (o := .lst (bs.map V.bl)) hp)
          exact z F' _ σ' _ (e'.laid hp) s2 ⟨p, rfl, e'.notF hp, ⟨_, upd_same, Rps.of_bls⟩, e'.notOwn hp, none_of_dm s'.dm hp⟩
        · exact finS_no z
      · exact finS_no z
/-! ### the facts of such classes -/
def excCB (K : PySem.W.Frag) (D : Addr) : Bool :=
  He.eqO (PySem.W.findIn K (.ref D) "__getattribute__") (some (some (.builtin "BaseException.__getattribute__"))) && (He.eqO (PySem.W.findIn K (.ref D) "__getattr__") (some none) && (decide (PySem.W.subIn K (.ref D) (.type "BaseException") = some true) &&
  (PySem.W.hasDictIn K D && (He.eqO (PySem.W.findIn K (.ref D) "__class__") (some (some (.builtin "object.__class__"))) && (He.eqO (PySem.W.specialIn K (.builtin "object.__class__") "__get__") (some (some (.builtin "getset_descriptor.__get__"))) &&
  (decide (PySem.W.takesIn K (.builtin "object.__class__") = some true) && decide (PySem.W.mroIn K D (.type "object") = some true)))))))
theorem excCB_ok {K : PySem.W.Frag} {D : Addr} (h : excCB K D = true) : ExcC K D := by
  obtain ⟨h1, h⟩ := He.ba h
  obtain ⟨h2, h⟩ := He.ba h
  obtain ⟨h3, h⟩ := He.ba h
  obtain ⟨h4, h⟩ := He.ba h
  obtain ⟨h5, h⟩ := He.ba h
  obtain ⟨h6, h⟩ := He.ba h
  obtain ⟨h7, h8⟩ := He.ba h
  exact ⟨He.eqO_ok h1, He.eqO_ok h2, of_decide_eq_true h3, h4, He.eqO_ok h5, He.eqO_ok h6, of_decide_eq_true h7, of_decide_eq_true h8⟩
def kitB2 (K : PySem.W.Frag) (x y : Str) (b : Bool) : Bool := decide (PySem.W.kitOne K (.ref (He.ga K x)) (.ref (He.ga K y)) = some b)
theorem kitB2_ok {K : PySem.W.Frag} {x y : Str} {b : Bool} (h : kitB2 K x y b = true) : PySem.W.kitOne K (.ref (He.ga K x)) (.ref (He.ga K y)) = some b := of_decide_eq_true h
def kitBT (K : PySem.W.Frag) (x : Str) (ty : String) (b : Bool) : Bool := decide (PySem.W.kitOne K (.ref (He.ga K x)) (.type ty) = some b)
theorem kitBT_ok {K : PySem.W.Frag} {x : Str} {ty : String} {b : Bool} (h : kitBT K x ty b = true) : PySem.W.kitOne K (.ref (He.ga K x)) (.type ty) = some b := of_decide_eq_true h
theorem excF_of {K : PySem.W.Frag} {h : Heap} {mg : Str → Option Value} {x : Str} (X : K.In h) (G : h.Ns mainGlobals mg) (c1 : (He.Fa.glo x).ok K = true) (c2 : (He.Fa.exc x).ok K = true) : ExcF K mg x (He.ga K x) :=
  let ⟨a, b, c, d⟩ := He.exc_ok c2; ⟨He.glo_ok X G c1, a, b, c, d⟩
end Dl
namespace Dl
open PySem PySem.Spec PyProof.Rows L2
/-! ### a call to which one fresh container is handed: it is lent from a slot behind the others -/
section
variable {X : Cx} {W : WX} {α β γ δ : Type} {rel : Rel α β} {relA : Rel γ δ} {F F1 : Fz} {H H1 : Hp} {σ : L2.St} {env env1 : En} {Q : β → Hp → Prop}
theorem fin.seq0 {r : R γ} {g : γ → En → R α} (h : fin X W rel F H σ env (r.bind g) Q) {Q1 : δ → Hp → Prop}
    (k : ∀ F1 H1 a c env1, EnvOk X.K F1 H1 σ env1 → Stp F H σ env F1 H1 σ env1 → relA H F1 H1 σ env1 a c → fin X W rel F H σ env (g a env1) Q → Q1 c H1) : fin X W relA F H σ env r Q1 := by
  cases r with
  | ok a env' => exact fun F' H' b e s q => k F' H' a b env' e s q h
  | ex x env' => exact h
  | no => exact h
end
abbrev EaN := En → R (List Ar × D)
abbrev relN (K : PySem.W.Frag) : Rel (List Ar × D) (List V) := fun H0 F' H' σ env' p vs => ∃ a, H0 a = none ∧ ¬F' a ∧ Ow K F' H' a p.2 ∧ ¬Own σ env' a ∧ ARs K F' H' (σ ++ [some (.ref a)]) p.1 vs
instance {K} : Since (relN K) := ⟨fun {H H' F'' H'' σ env'' a b} h d => by
  obtain ⟨c, h0, h⟩ := h
  exact ⟨c, none_of_dm d h0, h⟩⟩
def tN (X : Cx) (W : WX) (f : EaN) : TA := fun σ H Q => ∃ F env, EnvOk X.K F H σ env ∧ fin X W (relN X.K) F H σ env (f env) Q
abbrev JN (X : Cx) (W : WX) (es : List Expr) (f : EaN) : Prop := PA X es (tN X W f)
def nHere (f : Ev) (fs : Ea) : EaN := fun env => (f env).bind fun t env1 => match t with
  | .new d => (fs env1).bind fun as env3 => .ok (.at env.length :: as, d) env3
  | _ => .no
def nCons (b : Bool) (f : Ev) (fs : EaN) : EaN := fun env => (f env).bind fun t env1 => match arg b env1 t with
  | some (a, env2) => (fs env2).bind fun p env3 => .ok (a :: p.1, p.2) env3
  | none => .no
theorem AR.more {K : PySem.W.Frag} {F : Fz} {H : Hp} {σ : L2.St} {w : Option V} : ∀ {a : Ar} {v : V}, AR K F H σ a v → AR K F H (σ ++ [w]) a v
  | .fz d, _, h => h
  | .at i, _, h => by
    have h : σ[i]? = _ := h
    show (σ ++ [w])[i]? = _
    rw [List.getElem?_append_left (List.getElem?_eq_some_iff.mp h).1, h]
theorem ARs.more {K : PySem.W.Frag} {F : Fz} {H : Hp} {σ : L2.St} {w : Option V} : ∀ {as : List Ar} {vs : List V}, ARs K F H σ as vs → ARs K F H (σ ++ [w]) as vs
  | [], _, h => h
  | a :: as, _, h => by
    obtain ⟨v, r, e, h1, h2⟩ := h
    exact ⟨v, r, e, h1.more, h2.more⟩
section
variable {X : Cx} {W : WX} {e : Expr} {es : List Expr} {f : Ev} {fs : Ea} {fn : EaN} {pos : Pos}
theorem jn_here (ha : JE X W e f) (hr : JA X W es fs) (hs : starEach (e :: es) X.env = (false, eval e X.env) :: starEach es X.env := by rfl) : JN X W (e :: es) (nHere f fs) :=
  PA.imp (pa_cons ha hr hs) fun σ H Q ⟨F, env, e, h⟩ => by
    refine ⟨F, env, e, ?_⟩
    unfold nHere at h
    cases q : f env with
    | no => rw [q] at h; exact h
    | ex x env' => rw [q] at h; exact h
    | ok t env1 =>
      rw [q] at h
      intro F1 H1 v ok1 s1 r1
      cases t with
      | fz d => exact h.elim
      | «at» i => exact h.elim
      | new d =>
        have h1 : fin X W (relN X.K) F H σ env ((fs env1).bind fun as env3 => R.ok (.at env.length :: as, d) env3) Q := h
        refine ⟨F1, env1, ok1, ?_⟩
        cases q2 : fs env1 with
        | no => rw [q2] at h1; exact h1
        | ex x env' => rw [q2] at h1; exact fin.shift (rel := relN X.K) (r := .ex x env') h1 s1
        | ok as env3 =>
          rw [q2] at h1
          intro F3 H3 vs ok3 s3 r3
          have s13 := s1.trans s3
          have c := TR.carry r1 ok1 s3
          obtain ⟨a, rfl, nf, w, no, h0⟩ := c
          refine h1 F3 H3 _ ok3 s13 ⟨a, h0, nf, w, no, .ref a, vs, rfl, ?_, r3.more⟩
          show (σ ++ [some (V.ref a)])[env.length]? = _
          rw [List.getElem?_append_right (by rw [e.len]; exact Nat.le_refl _), e.len, Nat.sub_self]
          rfl
theorem jn_cons (b : Bool) (ha : JE X W e f) (hr : JN X W es fn) (hs : starEach (e :: es) X.env = (false, eval e X.env) :: starEach es X.env := by rfl) : JN X W (e :: es) (nCons b f fn) :=
  PA.imp (pa_cons ha hr hs) fun σ H Q ⟨F, env, e, h⟩ => by
    refine ⟨F, env, e, ?_⟩
    unfold nCons at h
    cases q : f env with
    | no => rw [q] at h; exact h
    | ex x env' => rw [q] at h; exact h
    | ok t env1 =>
      rw [q] at h
      intro F1 H1 v ok1 s1 r1
      have h1 : fin X W (relN X.K) F H σ env (match arg b env1 t with
        | some (a, env2) => (fn env2).bind fun p env3 => R.ok (a :: p.1, p.2) env3
        | none => R.no) Q := h
      split at h1
      · rename_i a env2 ha
        obtain ⟨F2, ok2, f1, f2, ow, kp, ar⟩ := arg_of r1 ok1 s1.dm ha
        have s2 := frz_stp s1 e f1 f2 ow kp (arg_len ha)
        refine ⟨F2, env2, ok2, ?_⟩
        cases q2 : fn env2 with
        | no => rw [q2] at h1; exact h1
        | ex x env' => rw [q2] at h1; exact fin.shift (rel := relN X.K) (r := .ex x env') h1 s2
        | ok p env3 =>
          rw [q2] at h1
          intro F3 H3 vs ok3 s3 r3
          obtain ⟨c, h0, nf, w, no, rs⟩ := r3
          have s23 := s2.trans s3
          exact h1 F3 H3 _ ok3 s23 ⟨c, none_of_dm s2.dm h0, nf, w, no, v, vs, rfl, (ar.carry (s3.ext ok2)).more, rs⟩
      · exact fin_no h1
end
/-! ### the call -/
def dropR (n : Nat) : R T → R T
  | .ok (.at _) _ => .no
  | .ok t env => .ok t (env.take n)
  | .ex x env => .ex x (env.take n)
  | .no => .no
def eCallN (m : En → RD) (fs : EaN) : Ev := fun env => (fs env).bind fun p env1 => dropR env1.length (callM m p.1 (env1 ++ [.ow false p.2]))
section
variable {X : Cx} {W : WX} {F F1 F' : Fz} {H H1 H' : Hp} {σ : L2.St} {env env1 env' : En} {a : Addr} {d : D} {Q : VK}
theorem call_core {m : En → RD} {np : Nat} {as : List Ar} {vs : List V} (ok1 : EnvOk X.K F1 H1 σ env1) (r1 : ARs X.K F1 H1 σ as vs) (h1 : fin X W (relT X.K) F1 H1 σ env1 (callM m as env1) Q) (hl : ∀ sl, m sl ≠ .no → sl.length = np) : spM X.K X.mg np m vs H1 Q (WE W σ) := by
  unfold callM at h1
  split at h1
  · rename_i sl hs
    split at h1
    · rename_i nd
      obtain ⟨es, lt⟩ := sl_ok ok1 r1 hs nd
      have hlen : m sl ≠ .no → vs.length = np := fun z => by
        rw [← hl sl z, (slots_get hs).1, r1.get.1]
      split at h1
      · rename_i d fin hm
        refine ⟨hlen (by rw [hm]; exact fun z => nomatch z), F1, sl, es, lt, ?_⟩
        rw [hm]
        intro F' H' v e' s' t'
        obtain ⟨b1, b2⟩ := backs_ok ok1 r1 hs nd e' s'
        exact h1 F' H' v b1 b2 t'
      · rename_i d fin hm
        refine ⟨hlen (by rw [hm]; exact fun z => nomatch z), F1, sl, es, lt, ?_⟩
        rw [hm]
        intro F' H' v e' s' t'
        obtain ⟨b1, b2⟩ := backs_ok ok1 r1 hs nd e' s'
        refine h1 F' H' v b1 b2 ?_
        obtain ⟨a, rfl, nf, w, no, f0⟩ := t'
        refine ⟨a, rfl, nf, w, fun z => ?_, f0⟩
        rcases b2.ow a z with y | y
        · obtain ⟨o, ho⟩ := ok1.own_tr y
          rw [f0] at ho; cases ho
        · obtain ⟨j, b, d', z1, z2⟩ := z
          by_cases hj : j ∈ atIx as
          · obtain ⟨p, hp⟩ := atIx_mem.mp hj
            obtain ⟨b', d2, q1, q2⟩ := ((slots_get hs).2 p).2 j hp
            obtain ⟨a', q3, q4, q5⟩ := ok1.ow j b' d2 q1
            rw [z2] at q3; cases q3
            obtain ⟨o, ho⟩ := q5.there
            rw [f0] at ho; cases ho
          · rw [backs_out as fin env1 j hj] at z1
            obtain ⟨a', q3, q4, q5⟩ := ok1.ow j b d' z1
            rw [z2] at q3; cases q3
            obtain ⟨o, ho⟩ := q5.there
            rw [f0] at ho; cases ho
      · exact fin_no h1
      · rename_i y fin hm
        refine ⟨hlen (by rw [hm]; exact fun z => nomatch z), F1, sl, es, lt, ?_⟩
        rw [hm]
        intro F' H' cls d e' s' t'
        obtain ⟨b1, b2⟩ := backs_ok ok1 r1 hs nd e' s'
        exact h1 F' H' cls d b1 b2 t'
      · exact fin_no h1
    · exact fin_no h1
  · exact fin_no h1
theorem ext_ok (e : EnvOk X.K F H σ env) (nf : ¬F a) (w : Ow X.K F H a d) (no : ¬Own σ env a) : EnvOk X.K F H (σ ++ [some (.ref a)]) (env ++ [.ow false d]) := by
  have cs : ∀ {j : Nat} {s : Sl}, (env ++ [Sl.ow false d])[j]? = some s → env[j]? = some s ∨ (j = env.length ∧ s = .ow false d) := fun {j s} h => by
    by_cases hj : j < env.length
    · rw [List.getElem?_append_left hj] at h; exact .inl h
    · rw [List.getElem?_append_right (by omega)] at h
      cases hz : j - env.length with
      | zero => rw [hz] at h; cases h; exact .inr ⟨by omega, rfl⟩
      | succ k => rw [hz] at h; simp at h
  have gl : ∀ {j : Nat}, j < env.length → (σ ++ [some (V.ref a)])[j]? = σ[j]? := fun {j} h => List.getElem?_append_left (by rw [e.len]; exact h)
  have gr : (σ ++ [some (V.ref a)])[env.length]? = some (some (.ref a)) := by
    rw [List.getElem?_append_right (by rw [e.len]; exact Nat.le_refl _), e.len, Nat.sub_self]; rfl
  have lt : ∀ {j : Nat} {s : Sl}, env[j]? = some s → j < env.length := fun h => (List.getElem?_eq_some_iff.mp h).1
  refine ⟨by simp [e.len], fun i d' h => ?_, fun i b d' h => ?_, fun i j b b' d1 d2 c h1 h2 s1 s2 => ?_, e.tr⟩
  · rcases cs h with h | ⟨_, h⟩
    · rw [gl (lt h)]; exact e.fz i d' h
    · cases h
  · rcases cs h with h | ⟨hi, h⟩
    · rw [gl (lt h)]; exact e.ow i b d' h
    · cases h
      subst hi
      exact ⟨a, gr, nf, w⟩
  · rcases cs h1 with h1 | ⟨hi, h1⟩
    · rw [gl (lt h1)] at s1
      rcases cs h2 with h2 | ⟨hj, h2⟩
      · rw [gl (lt h2)] at s2
        exact e.ne i j b b' d1 d2 c h1 h2 s1 s2
      · subst hj
        rw [gr] at s2
        cases s2
        exact absurd ⟨i, b, d1, h1, s1⟩ no
    · subst hi
      rw [gr] at s1
      cases s1
      rcases cs h2 with h2 | ⟨hj, h2⟩
      · rw [gl (lt h2)] at s2
        exact absurd ⟨j, b', d2, h2, s2⟩ no
      · exact hj.symm
theorem take_get {n j : Nat} {s : Sl} (h : (env'.take n)[j]? = some s) : env'[j]? = some s ∧ j < n := by
  rw [List.getElem?_take] at h
  split at h
  · exact ⟨h, by assumption⟩
  · cases h
theorem drop_ok (e0 : EnvOk X.K F H σ env) (s1 : Stp F H σ env F1 H1 σ env1) (e1 : EnvOk X.K F1 H1 σ env1) (h0 : H a = none) (e' : EnvOk X.K F' H' (σ ++ [some (.ref a)]) env') (s2 : Stp F1 H1 (σ ++ [some (.ref a)]) (env1 ++ [.ow false d]) F' H' (σ ++ [some (.ref a)]) env') :
    EnvOk X.K F' H' σ (env'.take env1.length) ∧ Stp F H σ env F' H' σ (env'.take env1.length) := by
  have ln : env'.length = env1.length + 1 := by rw [s2.ln]; simp
  have lσ : σ.length = env1.length := e1.len
  have gl : ∀ {j : Nat}, j < env1.length → (σ ++ [some (V.ref a)])[j]? = σ[j]? := fun {j} h => List.getElem?_append_left (by omega)
  have ownI : ∀ {c : Addr}, Own (σ ++ [some (V.ref a)]) (env1 ++ [.ow false d]) c → Own σ env1 c ∨ c = a := fun {c} ⟨i, b, d', h1, h2⟩ => by
    by_cases hi : i < env1.length
    · rw [List.getElem?_append_left hi] at h1
      rw [gl hi] at h2
      exact .inl ⟨i, b, d', h1, h2⟩
    · rw [List.getElem?_append_right (by omega)] at h2
      rw [List.getElem?_append_right (by omega)] at h1
      cases hz : i - env1.length with
      | zero =>
        rw [hz] at h1
        have hz2 : i - σ.length = 0 := by omega
        rw [hz2] at h2
        have h2 : some (some (V.ref a)) = some (some (.ref c)) := h2
        injection h2 with h2
        injection h2 with h2
        injection h2 with h2
        exact .inr h2.symm
      | succ k => rw [hz] at h1; simp at h1
  have ownT : ∀ {c : Addr}, Own σ (env'.take env1.length) c → Own (σ ++ [some (V.ref a)]) env' c := fun {c} ⟨i, b, d', h1, h2⟩ => by
    obtain ⟨q1, q2⟩ := take_get h1
    exact ⟨i, b, d', q1, by rw [gl q2]; exact h2⟩
  have none1 : ∀ {c : Addr}, H1 c = none → H c = none := fun {c} z => none_of_dm s1.dm z
  have back : ∀ {c : Addr}, Own (σ ++ [some (V.ref a)]) (env1 ++ [.ow false d]) c → Own σ env c ∨ H c = none := fun {c} z => by
    rcases ownI z with y | y
    · exact s1.ow c y
    · subst y; exact .inr h0
  refine ⟨⟨by rw [List.length_take, ln, lσ]; omega, fun i d' h => ?_, fun i b d' h => ?_, fun i j b b' d1 d2 c h1 h2 t1 t2 => ?_, e'.tr⟩, fun c o h n => ?_, fun c h => s2.f1 c (s1.f1 c h), fun c h => ?_, fun c h => ?_, fun c o h => ?_, fun i d' h => ?_, ?_⟩
  · obtain ⟨q1, q2⟩ := take_get h
    have := e'.fz i d' q1
    rwa [gl q2] at this
  · obtain ⟨q1, q2⟩ := take_get h
    have := e'.ow i b d' q1
    rwa [gl q2] at this
  · obtain ⟨q1, q2⟩ := take_get h1
    obtain ⟨q3, q4⟩ := take_get h2
    exact e'.ne i j b b' d1 d2 c q1 q3 (by rw [gl q2]; exact t1) (by rw [gl q4]; exact t2)
  · refine s2.fr c o (s1.fr c o h n) fun z => ?_
    rcases back z with y | y
    · exact n y
    · rw [h] at y; cases y
  · rcases s2.f2 c h with z | z | z
    · exact s1.f2 c z
    · exact .inr (.inl (none1 z))
    · rcases back z with y | y
      · exact .inr (.inr y)
      · exact .inr (.inl y)
  · rcases s2.ow c (ownT h) with z | z
    · exact back z
    · exact .inr (none1 z)
  · obtain ⟨o1, q⟩ := s1.dm c o h
    exact s2.dm c o1 q
  · obtain ⟨_, d1, q1⟩ := s1.kp i d' h
    have hi : i < env1.length := (List.getElem?_eq_some_iff.mp q1).1
    obtain ⟨_, d2, q2⟩ := s2.kp i d1 (by rw [List.getElem?_append_left hi]; exact q1)
    exact ⟨rfl, d2, by rw [List.getElem?_take, if_pos hi]; exact q2⟩
  · rw [List.length_take, ln, s1.ln]; omega
theorem callN_of {m : En → RD} {fs : EaN} {np : Nat} (h : tE X W (eCallN m fs) σ H Q) (hl : ∀ sl, m sl ≠ .no → sl.length = np) : tN X W fs σ H fun vs H1 => spM X.K X.mg np m vs H1 Q (WE W σ) := by
  obtain ⟨F, env, e, h⟩ := h
  refine ⟨F, env, e, fin.seq0 h fun F1 H1 p vs env1 ok1 s1 r1 h1 => ?_⟩
  obtain ⟨a, h0, nf, w, no, rs⟩ := r1
  have ok2 := ext_ok ok1 nf w no
  have ln : env1.length = env.length := s1.ln
  refine call_core (W := fun c d _ H => W c d σ H) ok2 rs ?_ hl
  cases q : callM m p.1 (env1 ++ [.ow false p.2]) with
  | no => rw [q] at h1; exact h1
  | ex x env' =>
    rw [q] at h1
    intro F' H' cls dd e' s' r
    obtain ⟨b1, b2⟩ := drop_ok e s1 ok1 h0 e' s'
    exact h1 F' H' cls dd b1 b2 r
  | ok t env' =>
    rw [q] at h1
    intro F' H' v e' s' r
    obtain ⟨b1, b2⟩ := drop_ok e s1 ok1 h0 e' s'
    cases t with
    | «at» i => exact h1.elim
    | fz d => exact h1 F' H' v b1 b2 r
    | new d =>
      refine h1 F' H' v b1 b2 ?_
      obtain ⟨c, rfl, nf', w', no', f0⟩ := r
      refine ⟨c, rfl, nf', w', fun z => no' ?_, none_of_dm s1.dm f0⟩
      obtain ⟨i, b, d', z1, z2⟩ := z
      obtain ⟨q1, q2⟩ := take_get z1
      exact ⟨i, b, d', q1, by rw [List.getElem?_append_left (by rw [ok1.len]; exact q2)]; exact z2⟩
theorem je_calN {x : Str} {e : Expr} {es : List Expr} {fs : EaN} {ps : List Str} {p pos : Pos} {m : En → RD} {k k2 : Nat} (G : Cal X.prog X.w X.K X.mg X.base k x ps m) (hr : Room k2 X.A) (hk : k ≤ k2) (tk : Takes X W) (ha : JN X W (e :: es) fs) (hg : Gl X x := by rfl) (hdb : (x == ("__debug__" : Str)) = false := by decide)
    (he : starEach (e :: es) X.env = (false, eval e X.env) :: starEach es X.env := by rfl) (hpl : (backTo pos (starEach es X.env)).any (·.1) = false := by rfl) : JE X W (.Call (.Name x p) (e :: es) [] pos) (eCallN m fs) := by
  obtain ⟨f, fd, h1, h2, h3, h4⟩ := G.ex
  exact PE.imp (pe_callS h1 (hr.mono hk) hg h2 h3 h4 (fun σ => passAt tk σ) ha hdb he hpl) fun σ H Q h => callN_of h G.hl
end
end Dl
namespace Dl
open PySem L2
/-! ### plain facts of the mirrors -/
theorem dEq_int (i j : Int) (env : En) : dEq (.int i) (.int j) env = okB (decide (i = j)) env := by
  show (match dEq0 (.int i) (.int j) with
    | some b => okB b env
    | none => .no) = _
  have : dEq0 (.int i) (.int j) = some (decide (i = j)) := by
    show some (i == j) = _
    by_cases h : i = j <;> simp [h]
  rw [this]
theorem dEq_str (i j : Str) (env : En) : dEq (.str i) (.str j) env = okB (decide (i = j)) env := by
  show (match dEq0 (.str i) (.str j) with
    | some b => okB b env
    | none => .no) = _
  have : dEq0 (.str i) (.str j) = some (decide (i = j)) := by
    show some (i == j) = _
    by_cases h : i = j <;> simp [h]
  rw [this]
theorem dNe_int (i j : Int) (env : En) : dNe (.int i) (.int j) env = okB (!decide (i = j)) env := by
  show (match dEq0 (.int i) (.int j) with
    | some b => okB (!b) env
    | none => .no) = _
  have : dEq0 (.int i) (.int j) = some (decide (i = j)) := by
    show some (i == j) = _
    by_cases h : i = j <;> simp [h]
  rw [this]
theorem pys_ints : ∀ ns : List Int, pys (ns.map D.int) = some (ns.map PyData.int)
  | [] => rfl
  | n :: r => by
    show (match (D.int n).py, pys (r.map D.int) with
      | some p, some q => some (p :: q)
      | _, _ => none) = _
    rw [pys_ints r]; rfl
theorem pys_strs : ∀ ns : List Str, pys (ns.map D.str) = some (ns.map PyData.str)
  | [] => rfl
  | n :: r => by
    show (match (D.str n).py, pys (r.map D.str) with
      | some p, some q => some (p :: q)
      | _, _ => none) = _
    rw [pys_strs r]; rfl
theorem depth_ints : ∀ ns : List Int, PyData.depthAll (ns.map PyData.int) ≤ 60
  | [] => by decide
  | n :: r => by
    have := depth_ints r
    show max (PyData.depth (.int n)) (PyData.depthAll (r.map PyData.int)) ≤ 60
    have h : PyData.depth (.int n) = 0 := rfl
    omega
theorem depth_strs : ∀ ns : List Str, PyData.depthAll (ns.map PyData.str) ≤ 60
  | [] => by decide
  | n :: r => by
    have := depth_strs r
    show max (PyData.depth (.str n)) (PyData.depthAll (r.map PyData.str)) ≤ 60
    have h : PyData.depth (.str n) = 0 := rfl
    omega
theorem any_ints (i : Int) : ∀ ns : List Int, (ns.map PyData.int).any (fun y => PyData.eqv y (.int i)) = decide (i ∈ ns)
  | [] => rfl
  | n :: r => by
    rw [List.map_cons, List.any_cons, any_ints i r]
    show ((n == i) || decide (i ∈ r)) = _
    by_cases h : n = i
    · subst h; simp
    · have h' : ¬i = n := fun z => h z.symm
      simp [h, h']
theorem any_strs (i : Str) : ∀ ns : List Str, (ns.map PyData.str).any (fun y => PyData.eqv y (.str i)) = decide (i ∈ ns)
  | [] => rfl
  | n :: r => by
    rw [List.map_cons, List.any_cons, any_strs i r]
    show ((n == i) || decide (i ∈ r)) = _
    by_cases h : n = i
    · subst h; simp
    · have h' : ¬i = n := fun z => h z.symm
      simp [h, h']
theorem dIn0_ints (i : Int) (ns : List Int) : dIn0 (.int i) (.lst (ns.map D.int)) = some (decide (i ∈ ns)) ∧ dIn0 (.int i) (.tup (ns.map D.int)) = some (decide (i ∈ ns)) := by
  have h := depth_ints ns
  unfold dIn0
  simp only [D.py, pys_ints, Option.map_some]
  rw [if_pos (by have : PyData.depth (.int i) = 0 := rfl; omega), any_ints]
  exact ⟨rfl, rfl⟩
theorem dIn0_strs (i : Str) (ns : List Str) : dIn0 (.str i) (.lst (ns.map D.str)) = some (decide (i ∈ ns)) ∧ dIn0 (.str i) (.tup (ns.map D.str)) = some (decide (i ∈ ns)) := by
  have h := depth_strs ns
  unfold dIn0
  simp only [D.py, pys_strs, Option.map_some]
  rw [if_pos (by have : PyData.depth (.str i) = 0 := rfl; omega), any_strs]
  exact ⟨rfl, rfl⟩
theorem dIn_intsL (i : Int) (ns : List Int) (env : En) : dIn (.int i) (.lst (ns.map D.int)) env = okB (decide (i ∈ ns)) env := by unfold dIn; rw [(dIn0_ints i ns).1]
theorem dIn_intsT (i : Int) (ns : List Int) (env : En) : dIn (.int i) (.tup (ns.map D.int)) env = okB (decide (i ∈ ns)) env := by unfold dIn; rw [(dIn0_ints i ns).2]
theorem dNotIn_intsL (i : Int) (ns : List Int) (env : En) : dNotIn (.int i) (.lst (ns.map D.int)) env = okB (!decide (i ∈ ns)) env := by unfold dNotIn; rw [(dIn0_ints i ns).1]
theorem dNotIn_intsT (i : Int) (ns : List Int) (env : En) : dNotIn (.int i) (.tup (ns.map D.int)) env = okB (!decide (i ∈ ns)) env := by unfold dNotIn; rw [(dIn0_ints i ns).2]
theorem dIn_strsL (i : Str) (ns : List Str) (env : En) : dIn (.str i) (.lst (ns.map D.str)) env = okB (decide (i ∈ ns)) env := by unfold dIn; rw [(dIn0_strs i ns).1]
theorem dIn_strsT (i : Str) (ns : List Str) (env : En) : dIn (.str i) (.tup (ns.map D.str)) env = okB (decide (i ∈ ns)) env := by unfold dIn; rw [(dIn0_strs i ns).2]
/-! ### places -/
theorem atI_nat {α : Type} (xs : List α) (i : Nat) : atI xs (i : Int) = xs[i]? := by
  unfold atI ixN
  by_cases h : (i : Int) < xs.length
  · rw [if_pos (by omega), if_pos h]; rfl
  · rw [if_pos (by omega), if_neg h, List.getElem?_eq_none (by omega)]; rfl
theorem atI_lt {α : Type} (xs : List α) {i : Int} (h0 : 0 ≤ i) (h : i < xs.length) : atI xs i = some (xs[i.toNat]'(by omega)) := by
  have e : atI xs i = xs[i.toNat]? := by
    have := atI_nat xs i.toNat
    rwa [show ((i.toNat : Nat) : Int) = i by omega] at this
  rw [e, List.getElem?_eq_getElem (by omega)]
theorem atI_last {α : Type} (xs : List α) : atI xs (-1) = xs.getLast? := by
  unfold atI ixN
  rw [if_neg (by omega), List.getLast?_eq_getElem?]
  cases xs with
  | nil => rfl
  | cons x r =>
    rw [if_pos (by simp; omega)]
    show (x :: r)[((-1 : Int) + ((x :: r).length : Int)).toNat]? = _
    congr 1
    simp only [List.length_cons]
    omega
theorem cut_to {α : Type} (xs : List α) (j : Nat) : cutD xs none (some (j : Int)) = xs.take j := by
  unfold cutD
  rw [HT.sIx_none, HT.sIx_nat]
  simp only [List.drop_zero, Nat.sub_zero]
  rw [Nat.min_comm, List.take_eq_take_iff]
  omega
theorem cut_from {α : Type} (xs : List α) (j : Nat) : cutD xs (some (j : Int)) none = xs.drop j := by
  unfold cutD
  rw [HT.sIx_nat, HT.sIx_none]
  by_cases h : j ≤ xs.length
  · rw [Nat.min_eq_left h, List.take_of_length_le (by simp)]
  · rw [Nat.min_eq_right (by omega), Nat.sub_self, List.take_zero, List.drop_of_length_le (by omega)]
theorem len_cutS (z : Str) (lo hi : Option Int) : (cutS z lo hi).length ≤ z.length := by
  unfold cutS PySem.Str.length
  simp only [List.size_toArray, List.length_take, List.length_drop, Array.length_toList]
  omega
theorem app_last {a b : Str} {c : Nat} (h : b.cps.toList.getLast? = some c) : (a ++ b).cps.toList.getLast? = some c := by
  show (a.cps ++ b.cps).toList.getLast? = _
  rw [Array.toList_append, List.getLast?_append, h]; rfl
/-! ### loops -/
theorem forD_inv {h : Ht} {b : Es} {dead : List Nat} (I : Nat → En → Prop) : ∀ (items : List D) (k : Nat) (env : En), I k env →
    (∀ i d env, items[i]? = some d → I (k + i) env → ∃ env1, h d env = some env1 ∧ ∃ env2, (b env1 = .nx env2 ∨ b env1 = .ct env2) ∧ I (k + i + 1) (kill dead env2)) →
    ∃ envN, forD h b dead items env = .nx envN ∧ I (k + items.length) envN
  | [], k, env, h0, _ => ⟨env, rfl, h0⟩
  | d :: ds, k, env, h0, hs => by
    obtain ⟨env1, e1, env2, e2, h1⟩ := hs 0 d env rfl h0
    obtain ⟨envN, e3, h3⟩ := forD_inv I ds (k + 1) (kill dead env2) h1 (fun i d' env' hd hi => by
      have := hs (i + 1) d' env' (by simpa using hd) (by rw [show k + (i + 1) = k + 1 + i by omega]; exact hi)
      rw [show k + (i + 1) + 1 = k + 1 + i + 1 by omega] at this
      exact this)
    refine ⟨envN, ?_, by rw [List.length_cons, show k + (ds.length + 1) = k + 1 + ds.length by omega]; exact h3⟩
    unfold forD
    rw [e1]
    rcases e2 with e2 | e2 <;> simp only [e2] <;> exact e3
/-- a loop that may end early: by a return that R tells -/
theorem forD_ret {h : Ht} {b : Es} {dead : List Nat} (I : Nat → En → Prop) (Rt : T → En → Prop) : ∀ (items : List D) (k : Nat) (env : En), I k env →
    (∀ i d env, items[i]? = some d → I (k + i) env → ∃ env1, h d env = some env1 ∧ ((∃ env2, (b env1 = .nx env2 ∨ b env1 = .ct env2) ∧ I (k + i + 1) (kill dead env2)) ∨ ∃ t env2, b env1 = .rt t env2 ∧ Rt t env2)) →
    (∃ envN, forD h b dead items env = .nx envN ∧ I (k + items.length) envN) ∨ ∃ t envN, forD h b dead items env = .rt t envN ∧ Rt t envN
  | [], k, env, h0, _ => .inl ⟨env, rfl, h0⟩
  | d :: ds, k, env, h0, hs => by
    obtain ⟨env1, e1, h1 | ⟨t, env2, e2, h2⟩⟩ := hs 0 d env rfl h0
    · obtain ⟨env2, e2, h1⟩ := h1
      have ih := forD_ret I Rt ds (k + 1) (kill dead env2) h1 (fun i d' env' hd hi => by
        have := hs (i + 1) d' env' (by simpa using hd) (by rw [show k + (i + 1) = k + 1 + i by omega]; exact hi)
        rw [show k + (i + 1) + 1 = k + 1 + i + 1 by omega] at this
        exact this)
      have e : forD h b dead (d :: ds) env = forD h b dead ds (kill dead env2) := by
        conv => lhs; unfold forD
        rw [e1]
        rcases e2 with e2 | e2 <;> simp only [e2]
      rw [e]
      rcases ih with ⟨envN, e3, h3⟩ | z
      · exact .inl ⟨envN, e3, by rw [List.length_cons, show k + (ds.length + 1) = k + 1 + ds.length by omega]; exact h3⟩
      · exact .inr z
    · refine .inr ⟨t, env2, ?_, h2⟩
      unfold forD
      rw [e1]
      simp only [e2]
theorem lcD_inv {h : Ht} {tst : Et} {el : Ev} {vs : List Nat} (I : Nat → List D → En → Prop) : ∀ (items : List D) (k : Nat) (acc : List D) (env : En), I k acc env →
    (∀ i d acc env, items[i]? = some d → I (k + i) acc env → ∃ env1, h d env = some env1 ∧ ((∃ env2 env5, tst env1 = .ok false env2 ∧ kl vs env2 = some env5 ∧ I (k + i + 1) acc env5) ∨
      ∃ env2 t env3 y env4 env5, tst env1 = .ok true env2 ∧ el env2 = .ok t env3 ∧ freeze env3 t = some (y, env4) ∧ kl vs env4 = some env5 ∧ acc.length < sizeLine ∧ I (k + i + 1) (acc ++ [y]) env5)) →
    ∃ ys env2, lcD h tst el vs items acc env = .ok ys env2 ∧ I (k + items.length) ys env2
  | [], k, acc, env, h0, _ => ⟨acc, env, rfl, h0⟩
  | d :: ds, k, acc, env, h0, hs => by
    have rest : ∀ acc' env', I (k + 1) acc' env' → ∃ ys env2, lcD h tst el vs ds acc' env' = .ok ys env2 ∧ I (k + (d :: ds).length) ys env2 := fun acc' env' h1 => by
      have := lcD_inv I ds (k + 1) acc' env' h1 (fun i d' a' env' hd hi => by
        have := hs (i + 1) d' a' env' (by simpa using hd) (by rw [show k + (i + 1) = k + 1 + i by omega]; exact hi)
        rw [show k + (i + 1) + 1 = k + 1 + i + 1 by omega] at this
        exact this)
      rwa [show k + 1 + ds.length = k + (d :: ds).length by rw [List.length_cons]; omega] at this
    obtain ⟨env1, e1, ⟨env2, env5, e2, e3, h1⟩ | ⟨env2, t, env3, y, env4, env5, e2, e3, e4, e5, e6, h1⟩⟩ := hs 0 d acc env rfl h0
    · obtain ⟨ys, en, z1, z2⟩ := rest _ _ h1
      refine ⟨ys, en, ?_, z2⟩
      unfold lcD
      simp only [e1, e2, e3]
      exact z1
    · obtain ⟨ys, en, z1, z2⟩ := rest _ _ h1
      refine ⟨ys, en, ?_, z2⟩
      unfold lcD
      simp only [e1, e2, e3, e4, e5]
      rw [if_pos e6]
      exact z1
/-- a comprehension by an invariant of (turn, what is made, slots) -/
theorem lc_inv {h : Ht} {tst : Et} {el : Ev} {vs : List Nat} {items : List D} {env1 envk : En} (I : Nat → List D → En → Prop) (hk : kl vs env1 = some envk) (h0 : I 0 [] envk)
    (hs : ∀ i d acc env, items[i]? = some d → I i acc env → ∃ env1, h d env = some env1 ∧ ((∃ env2 env5, tst env1 = .ok false env2 ∧ kl vs env2 = some env5 ∧ I (i + 1) acc env5) ∨
      ∃ env2 t env3 y env4 env5, tst env1 = .ok true env2 ∧ el env2 = .ok t env3 ∧ freeze env3 t = some (y, env4) ∧ kl vs env4 = some env5 ∧ acc.length < sizeLine ∧ I (i + 1) (acc ++ [y]) env5)) :
    ∃ ys env2, lcAll h tst el vs items env1 = .ok (.new (.lst ys)) (rests vs env1 env2) ∧ I items.length ys env2 := by
  obtain ⟨ys, env2, e, z⟩ := lcD_inv (h := h) (tst := tst) (el := el) (vs := vs) I items 0 [] envk h0 (fun i d acc env hd hi => by simpa using hs i d acc env hd (by simpa using hi))
  refine ⟨ys, env2, ?_, by simpa using z⟩
  unfold lcAll
  simp only [hk, e]
/-- one that changes nothing -/
theorem lc_map {h : Ht} {tst : Et} {el : Ev} {vs : List Nat} {items : List D} {env1 envk : En} (f : D → D) (hk : kl vs env1 = some envk) (hl : items.length ≤ sizeLine)
    (hs : ∀ d ∈ items, ∃ e1, h d envk = some e1 ∧ tst e1 = .ok true e1 ∧ ∃ t e3 e4, el e1 = .ok t e3 ∧ freeze e3 t = some (f d, e4) ∧ kl vs e4 = some envk) :
    lcAll h tst el vs items env1 = .ok (.new (.lst (items.map f))) (rests vs env1 envk) := by
  obtain ⟨ys, env2, e, e1, e2⟩ := lc_inv (h := h) (tst := tst) (el := el) (vs := vs) (items := items) (env1 := env1) (fun i acc env => acc = (items.take i).map f ∧ env = envk) hk ⟨rfl, rfl⟩ (fun i d acc env hd ⟨ha, he⟩ => by
    subst ha he
    have hi : i < items.length := (List.getElem?_eq_some_iff.mp hd).1
    obtain ⟨e1, q1, q2, t, e3, e4, q3, q4, q5⟩ := hs d (List.mem_of_getElem? hd)
    refine ⟨e1, q1, .inr ⟨e1, t, e3, f d, e4, env, q2, q3, q4, q5, ?_, ?_, rfl⟩⟩
    · rw [List.length_map, List.length_take]; omega
    · rw [List.take_add_one, hd, List.map_append]; rfl)
  subst e2
  rw [e, e1, List.take_of_length_le (Nat.le_refl _)]
/-- one that leaves some out -/
theorem lc_filter {h : Ht} {tst : Et} {el : Ev} {vs : List Nat} {items : List D} {env1 envk : En} (p : D → Bool) (f : D → D) (hk : kl vs env1 = some envk) (hl : items.length ≤ sizeLine)
    (hs : ∀ d ∈ items, ∃ e1, h d envk = some e1 ∧ tst e1 = .ok (p d) e1 ∧ kl vs e1 = some envk ∧ (p d = true → ∃ t e3 e4, el e1 = .ok t e3 ∧ freeze e3 t = some (f d, e4) ∧ kl vs e4 = some envk)) :
    lcAll h tst el vs items env1 = .ok (.new (.lst ((items.filter p).map f))) (rests vs env1 envk) := by
  obtain ⟨ys, env2, e, e1, e2⟩ := lc_inv (h := h) (tst := tst) (el := el) (vs := vs) (items := items) (env1 := env1) (fun i acc env => acc = ((items.take i).filter p).map f ∧ env = envk) hk ⟨rfl, rfl⟩ (fun i d acc env hd ⟨ha, he⟩ => by
    subst ha he
    have hi : i < items.length := (List.getElem?_eq_some_iff.mp hd).1
    obtain ⟨e1, q1, q2, q6, q⟩ := hs d (List.mem_of_getElem? hd)
    have tk : (items.take (i + 1)).filter p = (items.take i).filter p ++ (if p d = true then [d] else []) := by
      rw [List.take_add_one, hd, List.filter_append]
      congr 1
      show [d].filter p = _
      cases hp : p d <;> simp [hp]
    refine ⟨e1, q1, ?_⟩
    cases hp : p d with
    | false =>
      rw [hp] at q2 tk
      exact .inl ⟨e1, env, q2, q6, by rw [tk]; simp, rfl⟩
    | true =>
      rw [hp] at q2 tk
      obtain ⟨t, e3, e4, q3, q4, q5⟩ := q hp
      refine .inr ⟨e1, t, e3, f d, e4, env, q2, q3, q4, q5, ?_, ?_, rfl⟩
      · have := List.length_filter_le p (items.take i)
        rw [List.length_map]
        rw [List.length_take] at this
        omega
      · rw [tk, List.map_append]; rfl)
  subst e2
  rw [e, e1, List.take_of_length_le (Nat.le_refl _)]
end Dl
/-! Evaluation of the mirrors by simp only: nothing is unfolded before its environment is known. -/
namespace Dl
section
variable {α β : Type} {env env1 e : En} {t t1 t2 : T} {b : Bool} {f f1 f2 f3 : Ev} {g g1 g2 : Es} {c c1 c2 : Et} {fs : Ea} {G : D → D → En → R T} {G1 : D → En → R T} {i j : Nat}
/-! ### results -/
theorem bind_ok {a : α} {k : α → En → R β} : (R.ok a e).bind k = k a e := rfl
theorem bind_ex {x : Exn} {k : α → En → R β} : (R.ex x e : R α).bind k = .ex x e := rfl
theorem bind_no {k : α → En → R β} : (R.no : R α).bind k = .no := rfl
theorem so_ok {a : α} {k : α → En → SO} : (R.ok a e).so k = k a e := rfl
theorem so_ex {x : Exn} {k : α → En → SO} : (R.ex x e : R α).so k = .ex x e := rfl
theorem so_no {k : α → En → SO} : (R.no : R α).so k = .no := rfl
/-! ### statements -/
def bS (r : SO) (g : Es) : SO := match r with
  | .nx e => g e
  | r => r
theorem sSeq_ap : sSeq g1 g2 env = bS (g1 env) g2 := rfl
theorem bS_nx : bS (.nx e) g = g e := rfl
theorem bS_rt : bS (.rt t e) g = .rt t e := rfl
theorem bS_ex {x : Exn} : bS (.ex x e) g = .ex x e := rfl
theorem bS_bk : bS (.bk e) g = .bk e := rfl
theorem bS_ct : bS (.ct e) g = .ct e := rfl
theorem bS_no : bS .no g = .no := rfl
theorem sNil_ap : sNil env = .nx env := rfl
theorem sBrk_ap : sBrk env = .bk env := rfl
theorem sCnt_ap : sCnt env = .ct env := rfl
theorem sRetN_ap : sRetN env = .rt (.fz .non) env := rfl
theorem sRet_ap : sRet f env = (f env).so SO.rt := rfl
def kNx (_ : T) (e : En) : SO := .nx e
theorem sExpr_ap : sExpr f env = (f env).so kNx := rfl
theorem kNx_ap : kNx t e = .nx e := rfl
theorem sSet_ap : sSet i f env = (f env).so (asg i) := rfl
theorem asg_fz {d : D} : asg i (.fz d) env = setSl i (.fz d) env := rfl
theorem asg_new {d : D} : asg i (.new d) env = setSl i (.ow false d) env := rfl
theorem asg_at : asg i (.at j) env = match freeze env (.at j) with
    | some (d, env') => setSl i (.fz d) env'
    | none => .no := rfl
def ifK (g1 g2 : Es) (b : Bool) (e : En) : SO := if b = true then g1 e else g2 e
theorem sIf_ap : sIf c g1 g2 env = (c env).so (ifK g1 g2) := rfl
theorem ifK_t : ifK g1 g2 true e = g1 e := rfl
theorem ifK_f : ifK g1 g2 false e = g2 e := rfl
theorem sRaise_ap {x : PySem.Str} : sRaise x env = .ex ⟨x, []⟩ env := rfl
def putK (i : Nat) (fj : Ev) (t : T) (env1 : En) : SO := match env1[i]? with
  | some (.ow _ _) => (fj env1).so (Dl.putAt i t)
  | _ => .no
theorem sPut_ap {fj fe : Ev} : sPut i fj fe env = (fe env).so (putK i fj) := rfl
def augK (i : Nat) (G : D → D → En → R T) (t : T) (env1 : En) : SO := match env1[i]?, peek env1 t with
  | some (.fz d1), some d2 => (G d1 d2 env1).so (asg i)
  | _, _ => .no
theorem sAug_ap {d : D} (h : env[i]? = some (.fz d)) (hk : ∀ t e, f env = .ok t e → e[i]? = some (.fz d)) : sAug i f G env = (f env).so (augK i G) := by
  unfold sAug
  rw [h]
  cases q : f env with
  | no => rfl
  | ex x e => rfl
  | ok t e =>
    have := hk t e q
    show (match e[i]?, peek e t with
      | some (.fz _), some d2 => (G d d2 e).so (asg i)
      | _, _ => .no) = augK i G t e
    unfold augK
    rw [this]
    cases peek e t <;> rfl
def tgK (h : Ht) (t : T) (env1 : En) : SO := match freeze env1 t with
  | some (d, env2) => match h d env2 with
    | some env3 => .nx env3
    | none => .no
  | none => .no
theorem sTg_ap {h : Ht} : sTg f h env = (f env).so (tgK h) := rfl
def parK (i j : Nat) (as : List Ar) (env1 : En) : SO := match dsOf as with
  | some [d1, d2] => match hName i d1 env1 with
    | some env2 => match hName j d2 env2 with
      | some env3 => .nx env3
      | none => .no
    | none => .no
  | _ => .no
theorem sPar_ap : sPar i j fs env = (fs env).so (parK i j) := rfl
def forK (h : Ht) (b : Es) (dead : List Nat) (items : List D) (env1 : En) : SO := forD h b dead items (kill dead env1)
theorem sFor_ap {fi : Ei} {h : Ht} {dead : List Nat} : sFor fi h g dead env = (fi env).so (forK h g dead) := rfl
theorem sWhile_ap {fu : En → Nat} {dead : List Nat} : sWhile fu c g dead env = whileD c g dead (fu (kill dead env)) (kill dead env) := rfl
def tryK (c0 : PySem.Str) (i : Nat) (bs : List Bool) (r : SO) : SO := match r with
  | .ex x env' => if x.c = c0 ∧ x.fs = [] ∧ bs.length ≤ PySem.sizeLine then match env'[i]? with
      | some .un => .rt (.new (.lst (bs.map D.bl))) env'
      | _ => .no
    else .no
  | r => r
theorem sTryM_ap {c0 : PySem.Str} {bs : List Bool} : sTryM i c0 bs g env = tryK c0 i bs (g env) := rfl
/-! ### expressions -/
theorem eVar_ap : eVar i env = match env[i]? with
  | some (.fz d) => .ok (.fz d) env
  | some (.ow _ _) => .ok (.at i) env
  | _ => .no := rfl
theorem eC_ap {d : D} : eC d env = .ok (.fz d) env := rfl
def e2b (G : D → D → En → R T) (t1 t2 : T) (env2 : En) : R T := match peek env2 t1, peek env2 t2 with
  | some d1, some d2 => G d1 d2 env2
  | _, _ => .no
def e2a (f2 : Ev) (G : D → D → En → R T) (t1 : T) (env1 : En) : R T := (f2 env1).bind (e2b G t1)
theorem e2_ap : e2 f1 f2 G env = (f1 env).bind (e2a f2 G) := rfl
theorem e2a_ap : e2a f2 G t1 env1 = (f2 env1).bind (e2b G t1) := rfl
def e1a (G1 : D → En → R T) (t : T) (env1 : En) : R T := match peek env1 t with
  | some d => G1 d env1
  | none => .no
theorem e1_ap : e1 f G1 env = (f env).bind (e1a G1) := rfl
def tbK (t : T) (e : En) : R Bool := match t with
  | .fz (.bl b) => .ok b e
  | _ => .no
theorem tb_ap : tb f env = (f env).bind tbK := rfl
theorem tbK_ap : tbK (.fz (.bl b)) e = .ok b e := rfl
def trK (t : T) (env1 : En) : R Bool := match peek env1 t with
  | some d => match truth d with
    | some b => .ok b env1
    | none => .no
  | none => .no
theorem tr_ap : tr f env = (f env).bind trK := rfl
def andK (g2 : Et) (b : Bool) (e : En) : R Bool := if b = true then g2 e else .ok false e
def orK (g2 : Et) (b : Bool) (e : En) : R Bool := if b = true then .ok true e else g2 e
def notK (b : Bool) (e : En) : R Bool := .ok (!b) e
theorem bAnd_ap : bAnd c1 c2 env = (c1 env).bind (andK c2) := rfl
theorem bOr_ap : bOr c1 c2 env = (c1 env).bind (orK c2) := rfl
theorem bNot_ap : bNot c env = (c env).bind notK := rfl
theorem andK_t : andK c true e = c e := rfl
theorem andK_f : andK c false e = .ok false e := rfl
theorem orK_t : orK c true e = .ok true e := rfl
theorem orK_f : orK c false e = c e := rfl
theorem notK_ap : notK b e = .ok (!b) e := rfl
theorem bYes_ap : bYes env = .ok true env := rfl
def eandK (f2 : Ev) (t : T) (e : En) : R T := match t with
  | .fz (.bl true) => f2 e
  | .fz (.bl false) => okB false e
  | _ => .no
def eorK (f2 : Ev) (t : T) (e : En) : R T := match t with
  | .fz (.bl true) => okB true e
  | .fz (.bl false) => f2 e
  | _ => .no
def enotK (t : T) (e : En) : R T := match t with
  | .fz (.bl b) => okB (!b) e
  | _ => .no
theorem eAnd_ap : eAnd f1 f2 env = (f1 env).bind (eandK f2) := rfl
theorem eOr_ap : eOr f1 f2 env = (f1 env).bind (eorK f2) := rfl
theorem eNot_ap : eNot f env = (f env).bind enotK := rfl
theorem eandK_t : eandK f (.fz (.bl true)) e = f e := rfl
theorem eandK_f : eandK f (.fz (.bl false)) e = okB false e := rfl
theorem eorK_t : eorK f (.fz (.bl true)) e = okB true e := rfl
theorem eorK_f : eorK f (.fz (.bl false)) e = f e := rfl
theorem enotK_ap : enotK (.fz (.bl b)) e = okB (!b) e := rfl
def eifK (f1 f2 : Ev) (b : Bool) (e : En) : R T := if b = true then f1 e else f2 e
theorem eIf_ap : eIf c f1 f2 env = (c env).bind (eifK f1 f2) := rfl
theorem eifK_t : eifK f1 f2 true e = f1 e := rfl
theorem eifK_f : eifK f1 f2 false e = f2 e := rfl
/-- chains -/
def chC (G' : D → D → En → R T) (t2 t3 : T) (env4 : En) : R T := match peek env4 t2, peek env4 t3 with
  | some d2, some d3 => G' d2 d3 env4
  | _, _ => .no
def chB (f3 : Ev) (G' : D → D → En → R T) (t2 : T) (t : T) (env3 : En) : R T := match t with
  | .fz (.bl true) => (f3 env3).bind (chC G' t2)
  | .fz (.bl false) => okB false env3
  | _ => .no
def chA (f3 : Ev) (G G' : D → D → En → R T) (t1 t2 : T) (env2 : En) : R T := match peek env2 t1, peek env2 t2 with
  | some d1, some d2 => (G d1 d2 env2).bind (chB f3 G' t2)
  | _, _ => .no
def ch1 (f2 f3 : Ev) (G G' : D → D → En → R T) (t1 : T) (env1 : En) : R T := (f2 env1).bind (chA f3 G G' t1)
theorem eCh_ap {G' : D → D → En → R T} : eCh f1 f2 f3 G G' env = (f1 env).bind (ch1 f2 f3 G G') := rfl
theorem ch1_ap {G' : D → D → En → R T} : ch1 f2 f3 G G' t1 env1 = (f2 env1).bind (chA f3 G G' t1) := rfl
theorem chB_t {G' : D → D → En → R T} : chB f3 G' t2 (.fz (.bl true)) e = (f3 e).bind (chC G' t2) := rfl
theorem chB_f {G' : D → D → En → R T} : chB f3 G' t2 (.fz (.bl false)) e = okB false e := rfl
/-- argument lists -/
theorem aNil_ap : aNil env = .ok [] env := rfl
def acL (a : Ar) (as : List Ar) (e : En) : R (List Ar) := .ok (a :: as) e
def acM (fs : Ea) : Option (Ar × En) → R (List Ar)
  | some (a, e) => (fs e).bind (acL a)
  | none => .no
def acK (b : Bool) (fs : Ea) (t : T) (env1 : En) : R (List Ar) := acM fs (arg b env1 t)
theorem aCons_ap : aCons b f fs env = (f env).bind (acK b fs) := by
  unfold aCons
  congr 1
theorem acK_ap : acK b fs t e = acM fs (arg b e t) := rfl
theorem acM_some {a : Ar} : acM fs (some (a, e)) = (fs e).bind (acL a) := rfl
theorem acM_none : acM fs none = .no := rfl
theorem acL_ap {a : Ar} {as : List Ar} : acL a as e = .ok (a :: as) e := rfl
def cbK (g : List D → En → R T) (as : List Ar) (env1 : En) : R T := match peeks env1 as with
  | some ds => g ds env1
  | none => .no
theorem eCB_ap {g : List D → En → R T} : eCB fs g env = (fs env).bind (cbK g) := rfl
def tupK (as : List Ar) (env1 : En) : R T := match dsOf as with
  | some ds => if ds.length ≤ 1000 then .ok (.fz (.tup ds)) env1 else .no
  | none => .no
def lstK (as : List Ar) (env1 : En) : R T := match dsOf as with
  | some ds => if ds.length ≤ 1000 then .ok (.new (.lst ds)) env1 else .no
  | none => .no
theorem eTup_ap : eTup fs env = (fs env).bind tupK := rfl
theorem eLst_ap : eLst fs env = (fs env).bind lstK := rfl
def mtK (i : Nat) (step : List D → List D → Option (List D × D)) (as : List Ar) (env1 : En) : R T := match dsOf as, env1[i]? with
  | some args, some (.ow b (.lst ds)) => match step ds args with
    | some (ds', r) => .ok (.fz r) (env1.set i (.ow b (.lst ds')))
    | none => .no
  | _, _ => .no
theorem eMt_ap {step : List D → List D → Option (List D × D)} : eMt i fs step env = match env[i]? with
  | some (.ow _ (.lst _)) => (fs env).bind (mtK i step)
  | _ => .no := rfl
def slC (t : T) (l u : Option Int) (env3 : En) : R T := match peek env3 t with
  | some d => dSl d l u env3
  | none => .no
def slB (hi : Eo) (t : T) (l : Option Int) (env2 : En) : R T := (eo hi env2).bind (slC t l)
def slA (lo hi : Eo) (t : T) (env1 : En) : R T := (eo lo env1).bind (slB hi t)
theorem eSl_ap {lo hi : Eo} : eSl f lo hi env = (f env).bind (slA lo hi) := rfl
theorem slA_ap {lo hi : Eo} : slA lo hi t env1 = (eo lo env1).bind (slB hi t) := rfl
theorem slB_ap {hi : Eo} {l : Option Int} : slB hi t l env1 = (eo hi env1).bind (slC t l) := rfl
def eoK (t : T) (env1 : En) : R (Option Int) := match t with
  | .fz (.int i) => .ok (some i) env1
  | _ => .no
theorem eo_none : eo none env = .ok none env := rfl
theorem eo_some : eo (some f) env = (f env).bind eoK := rfl
theorem eoK_ap {i : Int} : eoK (.fz (.int i)) e = .ok (some i) e := rfl
theorem eCall_ap {m : En → RD} : eCall m fs env = (fs env).bind (callM m) := rfl
def callR (as : List Ar) (env : En) (r : RD) : R T := match r with
  | .rt (.fz d) fin => .ok (.fz d) (backs as fin env)
  | .rt (.new d) fin => .ok (.new d) (backs as fin env)
  | .rt (.at _) _ => .no
  | .ex x fin => .ex x (backs as fin env)
  | .no => .no
theorem callM_ap {m : En → RD} {as : List Ar} : callM m as env = match slots env as with
  | some sl => if (atIx as).Nodup then callR as env (m sl) else .no
  | none => .no := by
  unfold callM
  cases slots env as with
  | none => rfl
  | some sl =>
    show (if (atIx as).Nodup then _ else _) = (if (atIx as).Nodup then _ else _)
    by_cases h : (atIx as).Nodup
    · rw [if_pos h, if_pos h]
      unfold callR
      cases m sl with
      | rt t fin => cases t <;> rfl
      | ex x fin => rfl
      | no => rfl
    · rw [if_neg h, if_neg h]
theorem callR_fz {as : List Ar} {d : D} : callR as env (.rt (.fz d) e) = .ok (.fz d) (backs as e env) := rfl
theorem callR_new {as : List Ar} {d : D} : callR as env (.rt (.new d) e) = .ok (.new d) (backs as e env) := rfl
theorem callR_ex {as : List Ar} {x : Exn} : callR as env (.ex x e) = .ex x (backs as e env) := rfl
/-- a fresh argument -/
def nhL (n : Nat) (d : D) (as : List Ar) (e : En) : R (List Ar × D) := .ok (.at n :: as, d) e
def nhK (n : Nat) (fs : Ea) (t : T) (env1 : En) : R (List Ar × D) := match t with
  | .new d => (fs env1).bind (nhL n d)
  | _ => .no
theorem nHere_ap : nHere f fs env = (f env).bind (nhK env.length fs) := rfl
theorem nhK_new {n : Nat} {d : D} : nhK n fs (.new d) e = (fs e).bind (nhL n d) := rfl
theorem nhL_ap {n : Nat} {d : D} {as : List Ar} : nhL n d as e = .ok (.at n :: as, d) e := rfl
def ncL (a : Ar) (p : List Ar × D) (e : En) : R (List Ar × D) := .ok (a :: p.1, p.2) e
def ncK (b : Bool) (fn : EaN) (t : T) (env1 : En) : R (List Ar × D) := match arg b env1 t with
  | some (a, env2) => (fn env2).bind (ncL a)
  | none => .no
theorem nCons_ap {fn : EaN} : nCons b f fn env = (f env).bind (ncK b fn) := rfl
def cnK (m : En → RD) (p : List Ar × D) (env1 : En) : R T := dropR env1.length (callM m p.1 (env1 ++ [.ow false p.2]))
theorem eCallN_ap {m : En → RD} {fn : EaN} : eCallN m fn env = (fn env).bind (cnK m) := rfl
/-- what is walked -/
def itK (t : T) (env1 : En) : R (List D) := match freeze env1 t with
  | some (.tup xs, env2) => .ok xs env2
  | some (.lst xs, env2) => .ok xs env2
  | some (.scr xs, env2) => .ok xs env2
  | _ => .no
theorem eIt_ap : eIt f env = (f env).bind itK := rfl
def r1K (as : List Ar) (env1 : En) : R (List D) := match dsOf as with
  | some [.int j] => if j < 2 ^ 62 ∧ -(2 ^ 62) ≤ j then .ok (rng 0 j.toNat) env1 else .no
  | _ => .no
def r2K (as : List Ar) (env1 : En) : R (List D) := match dsOf as with
  | some [.int i, .int j] => if (j < 2 ^ 62 ∧ -(2 ^ 62) ≤ j) ∧ i < 2 ^ 62 ∧ -(2 ^ 62) ≤ i then .ok (rng i (j - i).toNat) env1 else .no
  | _ => .no
theorem eR1_ap : eR1 fs env = (fs env).bind r1K := rfl
theorem eR2_ap : eR2 fs env = (fs env).bind r2K := rfl
theorem eLc_ap {fi : Ei} {h : Ht} {el : Ev} {vs : List Nat} : eLc fi h c el vs env = (fi env).bind (lcAll h c el vs) := rfl
theorem hName_ap {d : D} : hName i d env = match env[i]? with
  | some (.ow true _) => none
  | none => none
  | _ => some (env.set i (.fz d)) := rfl
theorem hTup_ap {n : Nat} {hs : List D → En → Option En} {ds : List D} : hTup n hs (.tup ds) env = if ds.length = n then hs ds env else none := rfl
theorem hNil_ap : hNil [] env = some env := rfl
def hcK (hs : List D → En → Option En) (r : List D) (o : Option En) : Option En := match o with
  | some env' => hs r env'
  | none => none
theorem hCons_ap {h : Ht} {hs : List D → En → Option En} {d : D} {r : List D} : hCons h hs (d :: r) env = hcK hs r (h d env) := rfl
theorem hcK_ap {hs : List D → En → Option En} {r : List D} : hcK hs r (some e) = hs r e := rfl
/-! ### a def -/
def mdR (args : En) (r : SO) : RD := match r with
  | .nx env' => .rt (.fz .non) (back args env')
  | .rt t env' => match outT env' t with
    | some t' => .rt t' (back args env')
    | none => .no
  | .ex x env' => .ex x (back args env')
  | _ => .no
theorem mDef_ap {np k : Nat} {args : En} : mDef np k g args = if args.length = np then mdR args (g (args ++ List.replicate k .un)) else .no := rfl
theorem mdR_nx {args : En} : mdR args (.nx e) = .rt (.fz .non) (back args e) := rfl
theorem mdR_ex {args : En} {x : Exn} : mdR args (.ex x e) = .ex x (back args e) := rfl
theorem mdR_rt {args : En} : mdR args (.rt t e) = match outT e t with
    | some t' => .rt t' (back args e)
    | none => .no := rfl
/-! ### loops, found by what they are equal to -/
def nxt (r : SO) (P : En → Prop) : Prop := match r with
  | .nx e => P e
  | .ct e => P e
  | _ => False
theorem nxt_nx {P : En → Prop} : nxt (.nx e) P = P e := rfl
theorem nxt_ct {P : En → Prop} : nxt (.ct e) P = P e := rfl
/-- one turn of a loop: the invariant at the next one -/
def nxtI (r : SO) (I : Nat → En → Prop) (n : Nat) (dead : List Nat) : Prop := nxt r fun e => I n (kill dead e)
theorem nxtI_nx {I : Nat → En → Prop} {n : Nat} {dead : List Nat} : nxtI (.nx e) I n dead = I n (kill dead e) := rfl
theorem nxtI_ct {I : Nat → En → Prop} {n : Nat} {dead : List Nat} : nxtI (.ct e) I n dead = I n (kill dead e) := rfl
theorem forD_at {h : Ht} {b : Es} {dead : List Nat} {items : List D} {r : SO} (hf : forD h b dead items env = r) (I : Nat → En → Prop) (h0 : I 0 env)
    (hs : ∀ i d e, items[i]? = some d → I i e → ∃ e1, h d e = some e1 ∧ nxtI (b e1) I (i + 1) dead) : ∃ envN, r = .nx envN ∧ I items.length envN := by
  obtain ⟨envN, q1, q2⟩ := forD_inv (h := h) (b := b) (dead := dead) I items 0 env h0 (fun i d e hd hi => by
    obtain ⟨e1, q1, q2⟩ := hs i d e hd (by simpa using hi)
    refine ⟨e1, q1, ?_⟩
    unfold nxtI at q2
    cases q : b e1 with
    | nx e2 => rw [q] at q2; exact ⟨e2, .inl rfl, by simpa using (show I (i + 1) (kill dead e2) from q2)⟩
    | ct e2 => rw [q] at q2; exact ⟨e2, .inr rfl, by simpa using (show I (i + 1) (kill dead e2) from q2)⟩
    | rt t e2 => rw [q] at q2; exact q2.elim
    | ex x e2 => rw [q] at q2; exact q2.elim
    | bk e2 => rw [q] at q2; exact q2.elim
    | no => rw [q] at q2; exact q2.elim)
  exact ⟨envN, hf ▸ q1, by simpa using q2⟩
def nxr (r : SO) (P : En → Prop) (Q : T → En → Prop) : Prop := match r with
  | .nx e => P e
  | .ct e => P e
  | .rt t e => Q t e
  | _ => False
theorem nxr_nx {P : En → Prop} {Q : T → En → Prop} : nxr (.nx e) P Q = P e := rfl
theorem nxr_ct {P : En → Prop} {Q : T → En → Prop} : nxr (.ct e) P Q = P e := rfl
theorem nxr_rt {P : En → Prop} {Q : T → En → Prop} : nxr (.rt t e) P Q = Q t e := rfl
def nxrI (r : SO) (I : Nat → En → Prop) (n : Nat) (dead : List Nat) (Q : T → En → Prop) : Prop := nxr r (fun e => I n (kill dead e)) Q
theorem nxrI_nx {I : Nat → En → Prop} {n : Nat} {dead : List Nat} {Q : T → En → Prop} : nxrI (.nx e) I n dead Q = I n (kill dead e) := rfl
theorem nxrI_ct {I : Nat → En → Prop} {n : Nat} {dead : List Nat} {Q : T → En → Prop} : nxrI (.ct e) I n dead Q = I n (kill dead e) := rfl
theorem nxrI_rt {I : Nat → En → Prop} {n : Nat} {dead : List Nat} {Q : T → En → Prop} : nxrI (.rt t e) I n dead Q = Q t e := rfl
theorem forD_atR {h : Ht} {b : Es} {dead : List Nat} {items : List D} {r : SO} (hf : forD h b dead items env = r) (I : Nat → En → Prop) (Rt : T → En → Prop) (h0 : I 0 env)
    (hs : ∀ i d e, items[i]? = some d → I i e → ∃ e1, h d e = some e1 ∧ nxrI (b e1) I (i + 1) dead Rt) : (∃ envN, r = .nx envN ∧ I items.length envN) ∨ ∃ t envN, r = .rt t envN ∧ Rt t envN := by
  have key := forD_ret (h := h) (b := b) (dead := dead) I Rt items 0 env h0 (fun i d e hd hi => by
    obtain ⟨e1, q1, q2⟩ := hs i d e hd (by simpa using hi)
    refine ⟨e1, q1, ?_⟩
    unfold nxrI at q2
    cases q : b e1 with
    | nx e2 => rw [q] at q2; exact .inl ⟨e2, .inl rfl, by simpa using (show I (i + 1) (kill dead e2) from q2)⟩
    | ct e2 => rw [q] at q2; exact .inl ⟨e2, .inr rfl, by simpa using (show I (i + 1) (kill dead e2) from q2)⟩
    | rt t e2 => rw [q] at q2; exact .inr ⟨t, e2, rfl, q2⟩
    | ex x e2 => rw [q] at q2; exact q2.elim
    | bk e2 => rw [q] at q2; exact q2.elim
    | no => rw [q] at q2; exact q2.elim)
  rcases key with ⟨envN, q1, q2⟩ | ⟨t, envN, q1, q2⟩
  · exact .inl ⟨envN, hf ▸ q1, by simpa using q2⟩
  · exact .inr ⟨t, envN, hf ▸ q1, q2⟩
/-- comprehensions: one turn as a proposition -/
def lcT (r : R T) (P : D → En → Prop) : Prop := match r with
  | .ok t e => match freeze e t with
    | some (y, e4) => P y e4
    | none => False
  | _ => False
theorem lcT_ok {P : D → En → Prop} : lcT (.ok t e) P = match freeze e t with
    | some (y, e4) => P y e4
    | none => False := rfl
def lcB (r : R Bool) (Pf : En → Prop) (Pt : En → Prop) : Prop := match r with
  | .ok true e => Pt e
  | .ok false e => Pf e
  | _ => False
theorem lcB_t {P Q : En → Prop} : lcB (.ok true e) P Q = Q e := rfl
theorem lcB_f {P Q : En → Prop} : lcB (.ok false e) P Q = P e := rfl
def klP (vs : List Nat) (e : En) (P : En → Prop) : Prop := match kl vs e with
  | some e5 => P e5
  | none => False
theorem lc_at {h : Ht} {tst : Et} {el : Ev} {vs : List Nat} {items : List D} {r : R T} (hf : lcAll h tst el vs items env = r) (I : Nat → List D → En → Prop) (h0 : klP vs env (I 0 [])) (hl : items.length ≤ PySem.sizeLine)
    (hI : ∀ i acc e, I i acc e → acc.length ≤ i)
    (hs : ∀ i d acc e, items[i]? = some d → I i acc e → ∃ e1, h d e = some e1 ∧ lcB (tst e1) (fun e2 => klP vs e2 (I (i + 1) acc)) fun e2 => lcT (el e2) fun y e4 => klP vs e4 (I (i + 1) (acc ++ [y]))) :
    ∃ ys env2, r = .ok (.new (.lst ys)) (rests vs env env2) ∧ I items.length ys env2 := by
  unfold klP at h0
  cases hk : kl vs env with
  | none => rw [hk] at h0; exact h0.elim
  | some envk =>
    rw [hk] at h0
    obtain ⟨ys, env2, q1, q2⟩ := lc_inv (h := h) (tst := tst) (el := el) I hk h0 (fun i d acc e hd hi => by
      obtain ⟨e1, q1, q2⟩ := hs i d acc e hd hi
      refine ⟨e1, q1, ?_⟩
      cases q3 : tst e1 with
      | no => rw [q3] at q2; exact q2.elim
      | ex x e2 => rw [q3] at q2; exact q2.elim
      | ok b e2 =>
        rw [q3] at q2
        cases b with
        | false =>
          have q2 : klP vs e2 (I (i + 1) acc) := q2
          unfold klP at q2
          cases q4 : kl vs e2 with
          | none => rw [q4] at q2; exact q2.elim
          | some e5 => rw [q4] at q2; exact .inl ⟨e2, e5, rfl, q4, q2⟩
        | true =>
          have q2 : lcT (el e2) fun y e4 => klP vs e4 (I (i + 1) (acc ++ [y])) := q2
          unfold lcT at q2
          cases q4 : el e2 with
          | no => rw [q4] at q2; exact q2.elim
          | ex x e3 => rw [q4] at q2; exact q2.elim
          | ok t e3 =>
            rw [q4] at q2
            simp only at q2
            cases q5 : freeze e3 t with
            | none => rw [q5] at q2; exact q2.elim
            | some p =>
              obtain ⟨y, e4⟩ := p
              rw [q5] at q2
              have q2 : klP vs e4 (I (i + 1) (acc ++ [y])) := q2
              unfold klP at q2
              cases q6 : kl vs e4 with
              | none => rw [q6] at q2; exact q2.elim
              | some e5 =>
                rw [q6] at q2
                have hi2 : i < items.length := (List.getElem?_eq_some_iff.mp hd).1
                exact .inr ⟨e2, t, e3, y, e4, e5, rfl, q4, q5, q6, by have := hI i acc e hi; omega, q2⟩)
    exact ⟨ys, env2, hf ▸ q1, q2⟩
/-- a comprehension with one name, that changes nothing -/
def calmAt (i : Nat) (env : En) : Prop := env[i]? = some .un ∨ ∃ d, env[i]? = some (.fz d)
theorem calm_kl (h : calmAt i env) : kl [i] env = some (env.set i .un) := by
  have hi : i < env.length := by rcases h with h | ⟨d, h⟩ <;> exact (List.getElem?_eq_some_iff.mp h).1
  have hk : kill [i] env = env.set i .un := by
    show un1 i env = _
    unfold un1
    rcases h with h | ⟨d, h⟩ <;> rw [h]
  unfold kl
  rw [hk]
  have : allUn [i] (env.set i .un) = true := by
    unfold allUn
    simp [List.getElem?_set_self hi]
  rw [if_pos this]
theorem calm_set {d : D} (h : calmAt i env) : kl [i] (env.set i (.fz d)) = some (env.set i .un) := by
  have hi : i < env.length := by rcases h with h | ⟨d, h⟩ <;> exact (List.getElem?_eq_some_iff.mp h).1
  have := calm_kl (i := i) (env := env.set i (.fz d)) (.inr ⟨d, List.getElem?_set_self hi⟩)
  rw [this, List.set_set]
theorem calm_back (h : calmAt i env) : rests [i] env (env.set i .un) = env := by
  have hi : i < env.length := by rcases h with h | ⟨d, h⟩ <;> exact (List.getElem?_eq_some_iff.mp h).1
  show rest1 i env (env.set i .un) = env
  unfold rest1
  rcases h with h | ⟨d, h⟩
  · rw [h]
    apply List.ext_getElem?
    intro m
    by_cases hm : m = i
    · subst hm; rw [List.getElem?_set_self hi, h]
    · rw [List.getElem?_set_ne (Ne.symm hm)]
  · rw [h, List.getElem?_set_self hi]
    simp only [List.set_set]
    apply List.ext_getElem?
    intro m
    by_cases hm : m = i
    · subst hm; rw [List.getElem?_set_self hi, h]
    · rw [List.getElem?_set_ne (Ne.symm hm)]
theorem calm_name {d : D} (h : calmAt i env) : hName i d (env.set i .un) = some (env.set i (.fz d)) := by
  have hi : i < env.length := by rcases h with h | ⟨d, h⟩ <;> exact (List.getElem?_eq_some_iff.mp h).1
  unfold hName
  rw [List.getElem?_set_self hi]
  simp only [List.set_set]
theorem lc_pure {items : List D} {el : Ev} (F : D → D) (h : calmAt i env) (hl : items.length ≤ PySem.sizeLine) (he : ∀ d ∈ items, el (env.set i (.fz d)) = .ok (.fz (F d)) (env.set i (.fz d))) :
    lcAll (hName i) bYes el [i] items env = .ok (.new (.lst (items.map F))) env := by
  rw [lc_map (h := hName i) (tst := bYes) F (calm_kl h) hl (fun d hd => ⟨_, calm_name h, rfl, _, _, _, he d hd, rfl, calm_set h⟩), calm_back h]
theorem lc_pureF {items : List D} {el : Ev} {tst : Et} (p : D → Bool) (F : D → D) (h : calmAt i env) (hl : items.length ≤ PySem.sizeLine) (ht : ∀ d ∈ items, tst (env.set i (.fz d)) = .ok (p d) (env.set i (.fz d)))
    (he : ∀ d ∈ items, p d = true → el (env.set i (.fz d)) = .ok (.fz (F d)) (env.set i (.fz d))) :
    lcAll (hName i) tst el [i] items env = .ok (.new (.lst ((items.filter p).map F))) env := by
  rw [lc_filter (h := hName i) (tst := tst) p F (calm_kl h) hl (fun d hd => ⟨_, calm_name h, ht d hd, calm_set h, fun q => ⟨_, _, _, he d hd q, rfl, calm_set h⟩⟩), calm_back h]
theorem rng_get {lo : Int} {n i : Nat} {d : D} (h : (rng lo n)[i]? = some d) : d = .int (lo + i) ∧ i < n := by
  unfold rng at h
  rw [List.getElem?_map] at h
  have hi : i < n := by
    have := (List.getElem?_eq_some_iff.mp (show ((List.range n).map fun i : Nat => D.int (lo + (i : Int)))[i]? = some d by rw [List.getElem?_map]; exact h)).1
    simpa using this
  rw [List.getElem?_range hi] at h
  cases h
  exact ⟨rfl, hi⟩
theorem rng_len {lo : Int} {n : Nat} : (rng lo n).length = n := by unfold rng; simp
theorem cut_fromI {α : Type} (xs : List α) {j : Int} (h : 0 ≤ j) : cutD xs (some j) none = xs.drop j.toNat := by
  have := cut_from xs j.toNat
  rwa [show ((j.toNat : Nat) : Int) = j by omega] at this
theorem cut_toI {α : Type} (xs : List α) {j : Int} (h : 0 ≤ j) : cutD xs none (some j) = xs.take j.toNat := by
  have := cut_to xs j.toNat
  rwa [show ((j.toNat : Nat) : Int) = j by omega] at this
theorem intsD_map : ∀ ns : List Int, intsD (ns.map D.int) = some ns
  | [] => rfl
  | n :: r => by show (intsD (r.map D.int)).map (n :: ·) = _; rw [intsD_map r]; rfl
theorem blsOf_map : ∀ bs : List Bool, blsOf (bs.map D.bl) = some bs
  | [] => rfl
  | n :: r => by show (blsOf (r.map D.bl)).map (n :: ·) = _; rw [blsOf_map r]; rfl
end
end Dl
namespace K01
open PySem PySem.Spec PyProof.Rows L2 Dl
/-! ### the text -/
def topS (i : Nat) : Stmt := PySem.Challenge.pw_nosurebet_k01_check_word.main.body.getD i (.Pass ⟨0, 0, 0, 0⟩)
abbrev s__law_draws : Stmt := topS 15
abbrev N__law_draws : List Str := ["script", "many", "cells", "rest", "draws", "k", "at", "once", "cell"]
abbrev p__law_draws : List Str := ["script", "many"]
theorem sc__law_draws : FnScope N__law_draws p__law_draws (defScope s__law_draws) := ⟨rfl, rfl, rfl, by decide +kernel, rfl, by decide +kernel, by decide +kernel⟩
def d__law_draws : He.DefD := ⟨("_law_draws", none), "_law_draws", "_law_draws", defArgs s__law_draws, defBody s__law_draws, defScope s__law_draws, [], []⟩
abbrev s__law_take : Stmt := topS 16
abbrev N__law_take : List Str := ["draws", "many"]
abbrev p__law_take : List Str := ["draws", "many"]
theorem sc__law_take : FnScope N__law_take p__law_take (defScope s__law_take) := ⟨rfl, rfl, rfl, by decide +kernel, rfl, by decide +kernel, by decide +kernel⟩
def d__law_take : He.DefD := ⟨("_law_take", none), "_law_take", "_law_take", defArgs s__law_take, defBody s__law_take, defScope s__law_take, [], []⟩
abbrev s__law_strange : Stmt := topS 20
abbrev N__law_strange : List Str := ["code", "word", "signs", "drawn", "way", "k", "at", "found"]
abbrev p__law_strange : List Str := ["code", "word"]
theorem sc__law_strange : FnScope N__law_strange p__law_strange (defScope s__law_strange) := ⟨rfl, rfl, rfl, by decide +kernel, rfl, by decide +kernel, by decide +kernel⟩
def d__law_strange : He.DefD := ⟨("_law_strange", none), "_law_strange", "_law_strange", defArgs s__law_strange, defBody s__law_strange, defScope s__law_strange, [], []⟩
abbrev s__law_name : Stmt := topS 21
abbrev N__law_name : List Str := ["word", "spoil", "kind"]
abbrev p__law_name : List Str := ["word", "spoil"]
theorem sc__law_name : FnScope N__law_name p__law_name (defScope s__law_name) := ⟨rfl, rfl, rfl, by decide +kernel, rfl, by decide +kernel, by decide +kernel⟩
def d__law_name : He.DefD := ⟨("_law_name", none), "_law_name", "_law_name", defArgs s__law_name, defBody s__law_name, defScope s__law_name, [], []⟩
abbrev s__law_cell : Stmt := topS 17
abbrev N__law_cell : List Str := ["script", "at"]
abbrev p__law_cell : List Str := ["script", "at"]
theorem sc__law_cell : FnScope N__law_cell p__law_cell (defScope s__law_cell) := ⟨rfl, rfl, rfl, by decide +kernel, rfl, by decide +kernel, by decide +kernel⟩
def d__law_cell : He.DefD := ⟨("_law_cell", none), "_law_cell", "_law_cell", defArgs s__law_cell, defBody s__law_cell, defScope s__law_cell, [], []⟩
abbrev s__law_leaf : Stmt := topS 22
abbrev N__law_leaf : List Str := ["script", "draws", "n", "spoil", "outcome", "far"]
abbrev p__law_leaf : List Str := ["script", "draws", "n", "spoil"]
theorem sc__law_leaf : FnScope N__law_leaf p__law_leaf (defScope s__law_leaf) := ⟨rfl, rfl, rfl, by decide +kernel, rfl, by decide +kernel, by decide +kernel⟩
def d__law_leaf : He.DefD := ⟨("_law_leaf", none), "_law_leaf", "_law_leaf", defArgs s__law_leaf, defBody s__law_leaf, defScope s__law_leaf, [], []⟩
abbrev s__law_tree : Stmt := topS 23
abbrev N__law_tree : List Str := ["script", "draws", "n", "steps", "tall", "places", "spoil", "stack", "k", "here", "kind", "many", "leaf", "parts", "depth", "made", "part"]
abbrev p__law_tree : List Str := ["script", "draws", "n", "steps", "tall", "places", "spoil"]
theorem sc__law_tree : FnScope N__law_tree p__law_tree (defScope s__law_tree) := ⟨rfl, rfl, rfl, by decide +kernel, rfl, by decide +kernel, by decide +kernel⟩
def d__law_tree : He.DefD := ⟨("_law_tree", none), "_law_tree", "_law_tree", defArgs s__law_tree, defBody s__law_tree, defScope s__law_tree, [], []⟩
abbrev s_is_word : Stmt := topS 12
abbrev N_is_word : List Str := ["word", "n", "part"]
abbrev p_is_word : List Str := ["word", "n"]
theorem sc_is_word : FnScope N_is_word p_is_word (defScope s_is_word) := ⟨rfl, rfl, rfl, by decide +kernel, rfl, by decide +kernel, by decide +kernel⟩
def d_is_word : He.DefD := ⟨("is_word", none), "is_word", "is_word", defArgs s_is_word, defBody s_is_word, defScope s_is_word, [], []⟩
abbrev s_check_word : Stmt := topS 13
abbrev N_check_word : List Str := ["word", "n"]
abbrev p_check_word : List Str := ["word", "n"]
theorem sc_check_word : FnScope N_check_word p_check_word (defScope s_check_word) := ⟨rfl, rfl, rfl, by decide +kernel, rfl, by decide +kernel, by decide +kernel⟩
def d_check_word : He.DefD := ⟨("check_word", none), "check_word", "check_word", defArgs s_check_word, defBody s_check_word, defScope s_check_word, [], []⟩
abbrev s__law_check : Stmt := topS 19
abbrev N__law_check : List Str := ["word", "n", "told", "e"]
abbrev p__law_check : List Str := ["word", "n"]
theorem sc__law_check : FnScope N__law_check p__law_check (defScope s__law_check) := ⟨rfl, rfl, rfl, by decide +kernel, rfl, by decide +kernel, by decide +kernel⟩
def d__law_check : He.DefD := ⟨("_law_check", none), "_law_check", "_law_check", defArgs s__law_check, defBody s__law_check, defScope s__law_check, [], []⟩
abbrev s__law_error : Stmt := topS 18
abbrev N__law_error : List Str := ["name", "names", "other"]
abbrev p__law_error : List Str := ["name"]
theorem sc__law_error : FnScope N__law_error p__law_error (defScope s__law_error) := ⟨rfl, rfl, rfl, by decide +kernel, rfl, by decide +kernel, by decide +kernel⟩
def d__law_error : He.DefD := ⟨("_law_error", none), "_law_error", "_law_error", defArgs s__law_error, defBody s__law_error, defScope s__law_error, [], []⟩
abbrev s_law : Stmt := topS 24
abbrev N_law : List Str := ["script", "draws", "n", "steps", "tall", "spoils", "k", "spoil", "at", "places", "good", "bad"]
abbrev p_law : List Str := ["script"]
theorem sc_law : FnScope N_law p_law (defScope s_law) := ⟨rfl, rfl, rfl, by decide +kernel, rfl, by decide +kernel, by decide +kernel⟩
def d_law : He.DefD := ⟨("law", none), "law", "law", defArgs s_law, defBody s_law, defScope s_law, [], []⟩
def fn : List He.DefD := [d__law_draws, d__law_take, d__law_strange, d__law_name, d__law_cell, d__law_leaf, d__law_tree, d_is_word, d_check_word, d__law_check, d__law_error, d_law]
def fa : List He.Fa := [.glo "_law_draws", .glo "_law_take", .glo "_law_strange", .glo "_law_name", .glo "_law_cell", .glo "_law_leaf", .glo "_law_tree", .glo "is_word", .glo "check_word", .glo "_law_check", .glo "_law_error", .glo "law", .free "int", .free "len", .free "list", .free "range", .free "abs", .free "min", .free "max", .free "tuple", .free "all", .free "isinstance", .free "ValueError"]
def ex (K : PySem.W.Frag) : Bool := ((He.Fa.glo "InvalidWord").ok K && (He.Fa.exc "InvalidWord").ok K) && (excCB K (He.ga K "InvalidWord") && (kitBT K "InvalidWord" "ValueError" true && (kitB2 K "InvalidWord" "NothingToRedo" false && ((He.Fa.glo "NothingToRedo").ok K && (kitB2 K "InvalidWord" "NothingToUndo" false && ((He.Fa.glo "NothingToUndo").ok K && (kitB2 K "InvalidWord" "SureBet" false && ((He.Fa.glo "SureBet").ok K && (kitB2 K "InvalidWord" "NotTaken" false && ((He.Fa.glo "NotTaken").ok K && (kitB2 K "InvalidWord" "NoBet" false && ((He.Fa.glo "NoBet").ok K && (kitB2 K "InvalidWord" "BadText" false && ((He.Fa.glo "BadText").ok K && (kitB2 K "InvalidWord" "InvalidChances" false && ((He.Fa.glo "InvalidChances").ok K && (kitB2 K "InvalidWord" "InvalidTable" false && ((He.Fa.glo "InvalidTable").ok K && (kitB2 K "InvalidWord" "InvalidWord" true && ((He.Fa.glo "InvalidWord").ok K && ((He.Fa.glo "BetError").ok K && ((He.Fa.exm "InvalidWord" "BetError" true).ok K))))))))))))))))))))))
abbrev Says (w : World) (h : Heap) (K : PySem.W.Frag) : Prop := He.SaysX fa fn [] [] ex w h K
section
variable {P : Program} {w : World} {K : PySem.W.Frag} {mg : Str → Option Value} {h base : Heap}
theorem o__law_draws (X0 : K.In h) (G0 : h.Ns mainGlobals mg) (c : Says w h K) : mg "_law_draws" = some (.ref (He.ga K "_law_draws")) := He.glo_ok X0 G0 (c.t.d.fact 0 (f := .glo "_law_draws") rfl)
theorem o__law_take (X0 : K.In h) (G0 : h.Ns mainGlobals mg) (c : Says w h K) : mg "_law_take" = some (.ref (He.ga K "_law_take")) := He.glo_ok X0 G0 (c.t.d.fact 1 (f := .glo "_law_take") rfl)
theorem o__law_strange (X0 : K.In h) (G0 : h.Ns mainGlobals mg) (c : Says w h K) : mg "_law_strange" = some (.ref (He.ga K "_law_strange")) := He.glo_ok X0 G0 (c.t.d.fact 2 (f := .glo "_law_strange") rfl)
theorem o__law_name (X0 : K.In h) (G0 : h.Ns mainGlobals mg) (c : Says w h K) : mg "_law_name" = some (.ref (He.ga K "_law_name")) := He.glo_ok X0 G0 (c.t.d.fact 3 (f := .glo "_law_name") rfl)
theorem o__law_cell (X0 : K.In h) (G0 : h.Ns mainGlobals mg) (c : Says w h K) : mg "_law_cell" = some (.ref (He.ga K "_law_cell")) := He.glo_ok X0 G0 (c.t.d.fact 4 (f := .glo "_law_cell") rfl)
theorem o__law_leaf (X0 : K.In h) (G0 : h.Ns mainGlobals mg) (c : Says w h K) : mg "_law_leaf" = some (.ref (He.ga K "_law_leaf")) := He.glo_ok X0 G0 (c.t.d.fact 5 (f := .glo "_law_leaf") rfl)
theorem o__law_tree (X0 : K.In h) (G0 : h.Ns mainGlobals mg) (c : Says w h K) : mg "_law_tree" = some (.ref (He.ga K "_law_tree")) := He.glo_ok X0 G0 (c.t.d.fact 6 (f := .glo "_law_tree") rfl)
theorem o_is_word (X0 : K.In h) (G0 : h.Ns mainGlobals mg) (c : Says w h K) : mg "is_word" = some (.ref (He.ga K "is_word")) := He.glo_ok X0 G0 (c.t.d.fact 7 (f := .glo "is_word") rfl)
theorem o_check_word (X0 : K.In h) (G0 : h.Ns mainGlobals mg) (c : Says w h K) : mg "check_word" = some (.ref (He.ga K "check_word")) := He.glo_ok X0 G0 (c.t.d.fact 8 (f := .glo "check_word") rfl)
theorem o__law_check (X0 : K.In h) (G0 : h.Ns mainGlobals mg) (c : Says w h K) : mg "_law_check" = some (.ref (He.ga K "_law_check")) := He.glo_ok X0 G0 (c.t.d.fact 9 (f := .glo "_law_check") rfl)
theorem o__law_error (X0 : K.In h) (G0 : h.Ns mainGlobals mg) (c : Says w h K) : mg "_law_error" = some (.ref (He.ga K "_law_error")) := He.glo_ok X0 G0 (c.t.d.fact 10 (f := .glo "_law_error") rfl)
theorem o_law (X0 : K.In h) (G0 : h.Ns mainGlobals mg) (c : Says w h K) : mg "law" = some (.ref (He.ga K "law")) := He.glo_ok X0 G0 (c.t.d.fact 11 (f := .glo "law") rfl)
theorem n_int (X0 : K.In h) (G0 : h.Ns mainGlobals mg) (c : Says w h K) : mg "int" = none := He.free_ok X0 G0 (c.t.d.fact 12 (f := .free "int") rfl)
theorem n_len (X0 : K.In h) (G0 : h.Ns mainGlobals mg) (c : Says w h K) : mg "len" = none := He.free_ok X0 G0 (c.t.d.fact 13 (f := .free "len") rfl)
theorem n_list (X0 : K.In h) (G0 : h.Ns mainGlobals mg) (c : Says w h K) : mg "list" = none := He.free_ok X0 G0 (c.t.d.fact 14 (f := .free "list") rfl)
theorem n_range (X0 : K.In h) (G0 : h.Ns mainGlobals mg) (c : Says w h K) : mg "range" = none := He.free_ok X0 G0 (c.t.d.fact 15 (f := .free "range") rfl)
theorem n_abs (X0 : K.In h) (G0 : h.Ns mainGlobals mg) (c : Says w h K) : mg "abs" = none := He.free_ok X0 G0 (c.t.d.fact 16 (f := .free "abs") rfl)
theorem n_min (X0 : K.In h) (G0 : h.Ns mainGlobals mg) (c : Says w h K) : mg "min" = none := He.free_ok X0 G0 (c.t.d.fact 17 (f := .free "min") rfl)
theorem n_max (X0 : K.In h) (G0 : h.Ns mainGlobals mg) (c : Says w h K) : mg "max" = none := He.free_ok X0 G0 (c.t.d.fact 18 (f := .free "max") rfl)
theorem n_tuple (X0 : K.In h) (G0 : h.Ns mainGlobals mg) (c : Says w h K) : mg "tuple" = none := He.free_ok X0 G0 (c.t.d.fact 19 (f := .free "tuple") rfl)
theorem n_all (X0 : K.In h) (G0 : h.Ns mainGlobals mg) (c : Says w h K) : mg "all" = none := He.free_ok X0 G0 (c.t.d.fact 20 (f := .free "all") rfl)
theorem n_isinstance (X0 : K.In h) (G0 : h.Ns mainGlobals mg) (c : Says w h K) : mg "isinstance" = none := He.free_ok X0 G0 (c.t.d.fact 21 (f := .free "isinstance") rfl)
theorem n_ValueError (X0 : K.In h) (G0 : h.Ns mainGlobals mg) (c : Says w h K) : mg "ValueError" = none := He.free_ok X0 G0 (c.t.d.fact 22 (f := .free "ValueError") rfl)
theorem c_f_InvalidWord (X0 : K.In h) (G0 : h.Ns mainGlobals mg) (c : Says w h K) : ExcF K mg "InvalidWord" (He.ga K "InvalidWord") := excF_of X0 G0 (He.ba ((He.ba c.more).1)).1 (He.ba ((He.ba c.more).1)).2
theorem c_e_InvalidWord (X0 : K.In h) (G0 : h.Ns mainGlobals mg) (c : Says w h K) : ExcC K (He.ga K "InvalidWord") := excCB_ok ((He.ba (He.ba c.more).2).1)
theorem c_k_InvalidWord_ValueError (X0 : K.In h) (G0 : h.Ns mainGlobals mg) (c : Says w h K) : PySem.W.kitOne K (.ref (He.ga K "InvalidWord")) (.type "ValueError") = some true := kitBT_ok ((He.ba (He.ba (He.ba c.more).2).2).1)
theorem c_k_InvalidWord_NothingToRedo (X0 : K.In h) (G0 : h.Ns mainGlobals mg) (c : Says w h K) : PySem.W.kitOne K (.ref (He.ga K "InvalidWord")) (.ref (He.ga K "NothingToRedo")) = some false := kitB2_ok ((He.ba (He.ba (He.ba (He.ba c.more).2).2).2).1)
theorem c_g_NothingToRedo (X0 : K.In h) (G0 : h.Ns mainGlobals mg) (c : Says w h K) : mg "NothingToRedo" = some (.ref (He.ga K "NothingToRedo")) := He.glo_ok X0 G0 ((He.ba (He.ba (He.ba (He.ba (He.ba c.more).2).2).2).2).1)
theorem c_k_InvalidWord_NothingToUndo (X0 : K.In h) (G0 : h.Ns mainGlobals mg) (c : Says w h K) : PySem.W.kitOne K (.ref (He.ga K "InvalidWord")) (.ref (He.ga K "NothingToUndo")) = some false := kitB2_ok ((He.ba (He.ba (He.ba (He.ba (He.ba (He.ba c.more).2).2).2).2).2).1)
theorem c_g_NothingToUndo (X0 : K.In h) (G0 : h.Ns mainGlobals mg) (c : Says w h K) : mg "NothingToUndo" = some (.ref (He.ga K "NothingToUndo")) := He.glo_ok X0 G0 ((He.ba (He.ba (He.ba (He.ba (He.ba (He.ba (He.ba c.more).2).2).2).2).2).2).1)
theorem c_k_InvalidWord_SureBet (X0 : K.In h) (G0 : h.Ns mainGlobals mg) (c : Says w h K) : PySem.W.kitOne K (.ref (He.ga K "InvalidWord")) (.ref (He.ga K "SureBet")) = some false := kitB2_ok ((He.ba (He.ba (He.ba (He.ba (He.ba (He.ba (He.ba (He.ba c.more).2).2).2).2).2).2).2).1)
theorem c_g_SureBet (X0 : K.In h) (G0 : h.Ns mainGlobals mg) (c : Says w h K) : mg "SureBet" = some (.ref (He.ga K "SureBet")) := He.glo_ok X0 G0 ((He.ba (He.ba (He.ba (He.ba (He.ba (He.ba (He.ba (He.ba (He.ba c.more).2).2).2).2).2).2).2).2).1)
theorem c_k_InvalidWord_NotTaken (X0 : K.In h) (G0 : h.Ns mainGlobals mg) (c : Says w h K) : PySem.W.kitOne K (.ref (He.ga K "InvalidWord")) (.ref (He.ga K "NotTaken")) = some false := kitB2_ok ((He.ba (He.ba (He.ba (He.ba (He.ba (He.ba (He.ba (He.ba (He.ba (He.ba c.more).2).2).2).2).2).2).2).2).2).1)
theorem c_g_NotTaken (X0 : K.In h) (G0 : h.Ns mainGlobals mg) (c : Says w h K) : mg "NotTaken" = some (.ref (He.ga K "NotTaken")) := He.glo_ok X0 G0 ((He.ba (He.ba (He.ba (He.ba (He.ba (He.ba (He.ba (He.ba (He.ba (He.ba (He.ba c.more).2).2).2).2).2).2).2).2).2).2).1)
theorem c_k_InvalidWord_NoBet (X0 : K.In h) (G0 : h.Ns mainGlobals mg) (c : Says w h K) : PySem.W.kitOne K (.ref (He.ga K "InvalidWord")) (.ref (He.ga K "NoBet")) = some false := kitB2_ok ((He.ba (He.ba (He.ba (He.ba (He.ba (He.ba (He.ba (He.ba (He.ba (He.ba (He.ba (He.ba c.more).2).2).2).2).2).2).2).2).2).2).2).1)
theorem c_g_NoBet (X0 : K.In h) (G0 : h.Ns mainGlobals mg) (c : Says w h K) : mg "NoBet" = some (.ref (He.ga K "NoBet")) := He.glo_ok X0 G0 ((He.ba (He.ba (He.ba (He.ba (He.ba (He.ba (He.ba (He.ba (He.ba (He.ba (He.ba (He.ba (He.ba c.more).2).2).2).2).2).2).2).2).2).2).2).2).1)
theorem c_k_InvalidWord_BadText (X0 : K.In h) (G0 : h.Ns mainGlobals mg) (c : Says w h K) : PySem.W.kitOne K (.ref (He.ga K "InvalidWord")) (.ref (He.ga K "BadText")) = some false := kitB2_ok ((He.ba (He.ba (He.ba (He.ba (He.ba (He.ba (He.ba (He.ba (He.ba (He.ba (He.ba (He.ba (He.ba (He.ba c.more).2).2).2).2).2).2).2).2).2).2).2).2).2).1)
theorem c_g_BadText (X0 : K.In h) (G0 : h.Ns mainGlobals mg) (c : Says w h K) : mg "BadText" = some (.ref (He.ga K "BadText")) := He.glo_ok X0 G0 ((He.ba (He.ba (He.ba (He.ba (He.ba (He.ba (He.ba (He.ba (He.ba (He.ba (He.ba (He.ba (He.ba (He.ba (He.ba c.more).2).2).2).2).2).2).2).2).2).2).2).2).2).2).1)
theorem c_k_InvalidWord_InvalidChances (X0 : K.In h) (G0 : h.Ns mainGlobals mg) (c : Says w h K) : PySem.W.kitOne K (.ref (He.ga K "InvalidWord")) (.ref (He.ga K "InvalidChances")) = some false := kitB2_ok ((He.ba (He.ba (He.ba (He.ba (He.ba (He.ba (He.ba (He.ba (He.ba (He.ba (He.ba (He.ba (He.ba (He.ba (He.ba (He.ba c.more).2).2).2).2).2).2).2).2).2).2).2).2).2).2).2).1)
theorem c_g_InvalidChances (X0 : K.In h) (G0 : h.Ns mainGlobals mg) (c : Says w h K) : mg "InvalidChances" = some (.ref (He.ga K "InvalidChances")) := He.glo_ok X0 G0 ((He.ba (He.ba (He.ba (He.ba (He.ba (He.ba (He.ba (He.ba (He.ba (He.ba (He.ba (He.ba (He.ba (He.ba (He.ba (He.ba (He.ba c.more).2).2).2).2).2).2).2).2).2).2).2).2).2).2).2).2).1)
theorem c_k_InvalidWord_InvalidTable (X0 : K.In h) (G0 : h.Ns mainGlobals mg) (c : Says w h K) : PySem.W.kitOne K (.ref (He.ga K "InvalidWord")) (.ref (He.ga K "InvalidTable")) = some false := kitB2_ok ((He.ba (He.ba (He.ba (He.ba (He.ba (He.ba (He.ba (He.ba (He.ba (He.ba (He.ba (He.ba (He.ba (He.ba (He.ba (He.ba (He.ba (He.ba c.more).2).2).2).2).2).2).2).2).2).2).2).2).2).2).2).2).2).1)
theorem c_g_InvalidTable (X0 : K.In h) (G0 : h.Ns mainGlobals mg) (c : Says w h K) : mg "InvalidTable" = some (.ref (He.ga K "InvalidTable")) := He.glo_ok X0 G0 ((He.ba (He.ba (He.ba (He.ba (He.ba (He.ba (He.ba (He.ba (He.ba (He.ba (He.ba (He.ba (He.ba (He.ba (He.ba (He.ba (He.ba (He.ba (He.ba c.more).2).2).2).2).2).2).2).2).2).2).2).2).2).2).2).2).2).2).1)
theorem c_k_InvalidWord_InvalidWord (X0 : K.In h) (G0 : h.Ns mainGlobals mg) (c : Says w h K) : PySem.W.kitOne K (.ref (He.ga K "InvalidWord")) (.ref (He.ga K "InvalidWord")) = some true := kitB2_ok ((He.ba (He.ba (He.ba (He.ba (He.ba (He.ba (He.ba (He.ba (He.ba (He.ba (He.ba (He.ba (He.ba (He.ba (He.ba (He.ba (He.ba (He.ba (He.ba (He.ba c.more).2).2).2).2).2).2).2).2).2).2).2).2).2).2).2).2).2).2).2).1)
theorem c_g_InvalidWord (X0 : K.In h) (G0 : h.Ns mainGlobals mg) (c : Says w h K) : mg "InvalidWord" = some (.ref (He.ga K "InvalidWord")) := He.glo_ok X0 G0 ((He.ba (He.ba (He.ba (He.ba (He.ba (He.ba (He.ba (He.ba (He.ba (He.ba (He.ba (He.ba (He.ba (He.ba (He.ba (He.ba (He.ba (He.ba (He.ba (He.ba (He.ba c.more).2).2).2).2).2).2).2).2).2).2).2).2).2).2).2).2).2).2).2).2).1)
theorem c_g_BetError (X0 : K.In h) (G0 : h.Ns mainGlobals mg) (c : Says w h K) : mg "BetError" = some (.ref (He.ga K "BetError")) := He.glo_ok X0 G0 ((He.ba (He.ba (He.ba (He.ba (He.ba (He.ba (He.ba (He.ba (He.ba (He.ba (He.ba (He.ba (He.ba (He.ba (He.ba (He.ba (He.ba (He.ba (He.ba (He.ba (He.ba (He.ba c.more).2).2).2).2).2).2).2).2).2).2).2).2).2).2).2).2).2).2).2).2).2).1)
theorem c_m_InvalidWord_BetError (X0 : K.In h) (G0 : h.Ns mainGlobals mg) (c : Says w h K) : PySem.W.exmOne K (.ref (He.ga K "InvalidWord")) (.ref (He.ga K "BetError")) = some true := He.exm_ok ((He.ba (He.ba (He.ba (He.ba (He.ba (He.ba (He.ba (He.ba (He.ba (He.ba (He.ba (He.ba (He.ba (He.ba (He.ba (He.ba (He.ba (He.ba (He.ba (He.ba (He.ba (He.ba c.more).2).2).2).2).2).2).2).2).2).2).2).2).2).2).2).2).2).2).2).2).2).2)
end
/-! _law_draws(script, many): 0 script 1 many 2 cells 3 rest 4 draws 5 k 6 at 7 once 8 cell -/
def g__law_draws : Es := (sSeq (sSet 2 (eLc (eIt (eVar 0)) (hName 8) bYes (eCB (aCons true (eVar 8) aNil) gInt) [8]))
  (sSeq (sIf (tb (e2 (eCB (aCons true (eVar 2) aNil) gLen) (eC (.int 0)) dEq)) (sExpr (eMt 2 (aCons false (eC (.int 0)) aNil) stAppend)) sNil)
  (sSeq (sSet 3 (eCB (aCons true (eVar 2) aNil) gList))
  (sSeq (sSet 4 (eLst aNil))
  (sSeq (sFor (eR1 (aCons true (eVar 1) aNil)) (hName 5) (sSeq (sSet 6 (e2 (eVar 5) (eCB (aCons true (eVar 2) aNil) gLen) dMod))
    (sIf (tb (e2 (e2 (eVar 2) (eVar 6) dIx) (e2 (eC (.int 10)) (eC (.int 18)) dPow) dGe)) (sSeq (sExpr (eMt 4 (aCons false (e2 (eCB (aCons true (e2 (eVar 3) (eVar 6) dIx) aNil) gInt) (eC (.int 1000)) dMod) aNil) stAppend))
      (sPut 3 (eVar 6) (e2 (e2 (eVar 3) (eVar 6) dIx) (eC (.int 1000)) dDiv))) (sSeq (sSet 7 (e2 (eCB (aCons true (e2 (e2 (e2 (e2 (eVar 2) (eVar 6) dIx) (eC (.int 48271)) dMulL) (e2 (eVar 5) (eC (.int 69621)) dMulL) dAdd) (eC (.int 11)) dAdd) aNil) gInt) (eC (.int 2147483647)) dMod))
      (sExpr (eMt 4 (aCons false (e2 (eCB (aCons true (e2 (e2 (e2 (eVar 7) (eVar 7) dMulL) (e2 (eC (.int 3)) (eVar 7) dMulL) dAdd) (eVar 5) dAdd) aNil) gInt) (eC (.int 1000003)) dMod) aNil) stAppend))))) [6, 7, 5])
  (sSeq (sExpr (eMt 4 aNil stRev))
  (sRet (eVar 4))))))))
def m__law_draws : En → RD := mDef 2 7 g__law_draws
theorem cal__law_draws {P : Program} {w : World} {K : PySem.W.Frag} {mg : Str → Option Value} {h base : Heap} (X0 : K.In h) (G0 : h.Ns mainGlobals mg) (c : Says w h K) : Cal P w K mg base 1 "_law_draws" p__law_draws m__law_draws := by
  have n_int := n_int X0 G0 c
  have n_len := n_len X0 G0 c
  have n_list := n_list X0 G0 c
  have n_range := n_range X0 G0 c
  have a1 : ∃ fd, FunD K "_law_draws" "_law_draws" (defArgs s__law_draws) (defBody s__law_draws) (defScope s__law_draws) [] [] (He.ga K "_law_draws") fd := c.t.d.def_ 0 (d := d__law_draws) rfl
  have a2 := o__law_draws X0 G0 c
  have a3 : ∀ (kV doc pm : Value) (an : Option Addr) (cdv ct : Value) (us : List Value), us.length = p__law_draws.length → bindArgs (PySem.W.fnOf "_law_draws" "_law_draws" (defArgs s__law_draws) (defBody s__law_draws) (defScope s__law_draws) .none kV doc pm an cdv ct) ⟨us, []⟩ = pure (p__law_draws.zip us) := fun _ _ _ _ _ _ us hl => match us, hl with | [_, _], _ => rfl
  have a4 : mDef p__law_draws.length (N__law_draws.length - p__law_draws.length) g__law_draws = m__law_draws := rfl
  rw [← a4]
  refine cal_mk (k := 0) a1 a2 a3 sc__law_draws fun X W cdv A outer s H E eX eW hr tk hps hu => ?_
  subst eX eW
  have nd := sc__law_draws.nd
  exact (jss_cons (js_setLc (i := 2) (own := [("cell", 8)]) rfl nd rfl (ji_seq (je_var 0)) (blk_ok (by kernel_rfl)) (fun _ _ _ _ _ => (jg_name nd)) (fun _ _ _ _ _ => (jts_nil (W := W0))) (fun _ _ _ _ _ => (je_intC n_int (ja_cons true (je_var 8) ja_nil))))
  (jss_cons (js_if (jt_eq hu (je_len n_len (ja_cons true (je_var 2) ja_nil)) je_int) (jss_one (js_expr (je_append (pv 2) (ja_cons false je_int ja_nil)))) jss_nil)
  (jss_cons (js_set (i := 3) (je_listC n_list (ja_cons true (je_var 2) ja_nil)) nd)
  (jss_cons (js_set (i := 4) (je_lst ja_nil) nd)
  (jss_cons (js_for (us := [5]) [6, 7, 5] hps rfl (ji_r1 n_range (ja_cons true (je_var 1) ja_nil)) (jg_name nd)
    (jss_cons (js_set (i := 6) (je_mod (je_var 5) (je_len n_len (ja_cons true (je_var 2) ja_nil))) nd)
    (jss_one (js_if (jt_ge (je_ix (je_var 2) (je_var 6)) (je_pow je_int je_int)) (jss_cons (js_expr (je_append (pv 4) (ja_cons false (je_mod (je_intC n_int (ja_cons true (je_ix (je_var 3) (je_var 6)) ja_nil)) je_int) ja_nil)))
      (jss_one (js_put (pv 3) (je_var 6) (je_div (je_ix (je_var 3) (je_var 6)) je_int)))) (jss_cons (js_set (i := 7) (je_mod (je_intC n_int (ja_cons true (je_add (je_add (je_mul (je_ix (je_var 2) (je_var 6)) je_int) (je_mul (je_var 5) je_int)) je_int) ja_nil)) je_int) nd)
      (jss_one (js_expr (je_append (pv 4) (ja_cons false (je_mod (je_intC n_int (ja_cons true (je_add (je_add (je_mul (je_var 7) (je_var 7)) (je_mul je_int (je_var 7))) (je_var 5)) ja_nil)) je_int) ja_nil)))))))))
  (jss_cons (js_expr (je_reverse (pv 4)))
  (jss_one (js_ret (je_var 4)))))))))
/-! _law_take(draws, many): 0 draws 1 many -/
def g__law_take : Es := (sSeq (sIf (tb (e2 (eCB (aCons true (eVar 0) aNil) gLen) (eC (.int 0)) dEq)) (sRet (eC (.int 0))) sNil)
  (sRet (e2 (eCB (aCons true (eMt 0 aNil stPop) aNil) gInt) (eVar 1) dMod)))
def m__law_take : En → RD := mDef 2 0 g__law_take
theorem cal__law_take {P : Program} {w : World} {K : PySem.W.Frag} {mg : Str → Option Value} {h base : Heap} (X0 : K.In h) (G0 : h.Ns mainGlobals mg) (c : Says w h K) : Cal P w K mg base 1 "_law_take" p__law_take m__law_take := by
  have n_len := n_len X0 G0 c
  have n_int := n_int X0 G0 c
  have a1 : ∃ fd, FunD K "_law_take" "_law_take" (defArgs s__law_take) (defBody s__law_take) (defScope s__law_take) [] [] (He.ga K "_law_take") fd := c.t.d.def_ 1 (d := d__law_take) rfl
  have a2 := o__law_take X0 G0 c
  have a3 : ∀ (kV doc pm : Value) (an : Option Addr) (cdv ct : Value) (us : List Value), us.length = p__law_take.length → bindArgs (PySem.W.fnOf "_law_take" "_law_take" (defArgs s__law_take) (defBody s__law_take) (defScope s__law_take) .none kV doc pm an cdv ct) ⟨us, []⟩ = pure (p__law_take.zip us) := fun _ _ _ _ _ _ us hl => match us, hl with | [_, _], _ => rfl
  have a4 : mDef p__law_take.length (N__law_take.length - p__law_take.length) g__law_take = m__law_take := rfl
  rw [← a4]
  refine cal_mk (k := 0) a1 a2 a3 sc__law_take fun X W cdv A outer s H E eX eW hr tk hps hu => ?_
  subst eX eW
  have nd := sc__law_take.nd
  exact (jss_cons (js_if (jt_eq hu (je_len n_len (ja_cons true (je_var 0) ja_nil)) je_int) (jss_one (js_ret je_int)) jss_nil)
  (jss_one (js_ret (je_mod (je_intC n_int (ja_cons true (je_pop (pv 0)) ja_nil)) (je_var 1)))))
/-! _law_strange(code, word): 0 code 1 word 2 signs 3 drawn 4 way 5 k 6 at 7 found -/
def g__law_strange : Es := (sSeq (sSet 2 (eC (.str "abdefghilnosty0 (_IA.1")))
  (sSeq (sSet 3 (eC (.str "")))
  (sSeq (sSet 4 (e2 (eCB (aCons true (eVar 0) aNil) gInt) (eC (.int 4)) dMod))
  (sSeq (sSet 0 (e2 (eVar 0) (eC (.int 4)) dDiv))
  (sSeq (sFor (eR1 (aCons true (eC (.int 4)) aNil)) (hName 5) (sIf (tb (e2 (eVar 0) (eC (.int 0)) dGt)) (sSeq (sSet 3 (e2 (eVar 3) (e2 (eVar 2) (e2 (eCB (aCons true (eVar 0) aNil) gInt) (eCB (aCons true (eVar 2) aNil) gLen) dMod) dIx) dAdd))
      (sSet 0 (e2 (eVar 0) (eCB (aCons true (eVar 2) aNil) gLen) dDiv))) sNil) [5])
  (sSeq (sSet 6 (e2 (eCB (aCons true (e2 (eVar 0) (eCB (aCons true (eVar 3) aNil) gLen) dAdd) aNil) gInt) (eCB (aCons true (eVar 1) aNil) gLen) dMod))
  (sSeq (sSet 7 (e2 (eLst (aCons false (eVar 3) (aCons false (e2 (eVar 1) (eVar 3) dAdd) (aCons false (e2 (e2 (eSl (eVar 1) none (some (eVar 6))) (eSl (eVar 3) none (some (eC (.int 1)))) dAdd) (eSl (eVar 1) (some (e2 (eVar 6) (eC (.int 1)) dAdd)) none) dAdd) (aCons false (e2 (e2 (eSl (eVar 1) none (some (eVar 6))) (eVar 3) dAdd) (eSl (eVar 1) (some (eVar 6)) none) dAdd) aNil))))) (eVar 4) dIx))
  (sSeq (sIf (tb (e2 (eVar 7) (eLst (aCons false (eC (.str "is")) (aCons false (eC (.str "not")) (aCons false (eC (.str "all")) (aCons false (eC (.str "any")) aNil))))) dIn)) (sRet (e2 (e2 (eVar 7) (eVar 3) dAdd) (eC (.str "_")) dAdd)) sNil)
  (sRet (eVar 7))))))))))
def m__law_strange : En → RD := mDef 2 6 g__law_strange
theorem cal__law_strange {P : Program} {w : World} {K : PySem.W.Frag} {mg : Str → Option Value} {h base : Heap} (X0 : K.In h) (G0 : h.Ns mainGlobals mg) (c : Says w h K) : Cal P w K mg base 1 "_law_strange" p__law_strange m__law_strange := by
  have n_int := n_int X0 G0 c
  have n_range := n_range X0 G0 c
  have n_len := n_len X0 G0 c
  have a1 : ∃ fd, FunD K "_law_strange" "_law_strange" (defArgs s__law_strange) (defBody s__law_strange) (defScope s__law_strange) [] [] (He.ga K "_law_strange") fd := c.t.d.def_ 2 (d := d__law_strange) rfl
  have a2 := o__law_strange X0 G0 c
  have a3 : ∀ (kV doc pm : Value) (an : Option Addr) (cdv ct : Value) (us : List Value), us.length = p__law_strange.length → bindArgs (PySem.W.fnOf "_law_strange" "_law_strange" (defArgs s__law_strange) (defBody s__law_strange) (defScope s__law_strange) .none kV doc pm an cdv ct) ⟨us, []⟩ = pure (p__law_strange.zip us) := fun _ _ _ _ _ _ us hl => match us, hl with | [_, _], _ => rfl
  have a4 : mDef p__law_strange.length (N__law_strange.length - p__law_strange.length) g__law_strange = m__law_strange := rfl
  rw [← a4]
  refine cal_mk (k := 0) a1 a2 a3 sc__law_strange fun X W cdv A outer s H E eX eW hr tk hps hu => ?_
  subst eX eW
  have nd := sc__law_strange.nd
  exact (jss_cons (js_set (i := 2) je_str nd)
  (jss_cons (js_set (i := 3) je_str nd)
  (jss_cons (js_set (i := 4) (je_mod (je_intC n_int (ja_cons true (je_var 0) ja_nil)) je_int) nd)
  (jss_cons (js_set (i := 0) (je_div (je_var 0) je_int) nd)
  (jss_cons (js_for (us := [5]) [5] hps rfl (ji_r1 n_range (ja_cons true je_int ja_nil)) (jg_name nd)
    (jss_one (js_if (jt_gt (je_var 0) je_int) (jss_cons (js_set (i := 3) (je_add (je_var 3) (je_ix (je_var 2) (je_mod (je_intC n_int (ja_cons true (je_var 0) ja_nil)) (je_len n_len (ja_cons true (je_var 2) ja_nil))))) nd)
      (jss_one (js_set (i := 0) (je_div (je_var 0) (je_len n_len (ja_cons true (je_var 2) ja_nil))) nd))) jss_nil)))
  (jss_cons (js_set (i := 6) (je_mod (je_intC n_int (ja_cons true (je_add (je_var 0) (je_len n_len (ja_cons true (je_var 3) ja_nil))) ja_nil)) (je_len n_len (ja_cons true (je_var 1) ja_nil))) nd)
  (jss_cons (js_set (i := 7) (je_ix (je_lst (ja_cons false (je_var 3) (ja_cons false (je_add (je_var 1) (je_var 3)) (ja_cons false (je_add (je_add (je_slice (je_var 1) jo_none (jo_some (je_var 6))) (je_slice (je_var 3) jo_none (jo_some je_int))) (je_slice (je_var 1) (jo_some (je_add (je_var 6) je_int)) jo_none)) (ja_cons false (je_add (je_add (je_slice (je_var 1) jo_none (jo_some (je_var 6))) (je_var 3)) (je_slice (je_var 1) (jo_some (je_var 6)) jo_none)) ja_nil))))) (je_var 4)) nd)
  (jss_cons (js_if (jt_in hu (je_var 7) (je_lst (ja_cons false je_str (ja_cons false je_str (ja_cons false je_str (ja_cons false je_str ja_nil)))))) (jss_one (js_ret (je_add (je_add (je_var 7) (je_var 3)) je_str))) jss_nil)
  (jss_one (js_ret (je_var 7)))))))))))
/-! _law_name(word, spoil): 0 word 1 spoil 2 kind -/
def g__law_name : Es := (sSeq (sIf (bOr (tb (e2 (eVar 1) (eC (.int 0)) dLt)) (tb (e2 (e2 (eCB (aCons true (eVar 1) aNil) gInt) (eC (.int 2)) dMod) (eC (.int 1)) dEq))) (sRet (eVar 0)) sNil)
  (sSeq (sSet 2 (e2 (eCB (aCons true (e2 (eVar 1) (eC (.int 2)) dDiv) aNil) gInt) (eC (.int 12)) dMod))
  (sSeq (sIf (tb (e2 (eVar 2) (eC (.int 5)) dGt)) (sRet (eCall m__law_strange (aCons true (e2 (eVar 1) (eC (.int 24)) dDiv) (aCons true (eVar 0) aNil)))) sNil)
  (sRet (e2 (eLst (aCons false (eC (.str "")) (aCons false (e2 (eVar 0) (eC (.str "s")) dAdd) (aCons false (eC (.str "Is")) (aCons false (eC (.str "none")) (aCons false (e2 (eC (.str " ")) (eVar 0) dAdd) (aCons false (eSl (eVar 0) none (some (eC (.int 1)))) aNil))))))) (eVar 2) dIx)))))
def m__law_name : En → RD := mDef 2 1 g__law_name
theorem cal__law_name {P : Program} {w : World} {K : PySem.W.Frag} {mg : Str → Option Value} {h base : Heap} (X0 : K.In h) (G0 : h.Ns mainGlobals mg) (c : Says w h K) : Cal P w K mg base 2 "_law_name" p__law_name m__law_name := by
  have n_int := n_int X0 G0 c
  have r__law_strange := cal__law_strange (P := P) (base := base) X0 G0 c
  have a1 : ∃ fd, FunD K "_law_name" "_law_name" (defArgs s__law_name) (defBody s__law_name) (defScope s__law_name) [] [] (He.ga K "_law_name") fd := c.t.d.def_ 3 (d := d__law_name) rfl
  have a2 := o__law_name X0 G0 c
  have a3 : ∀ (kV doc pm : Value) (an : Option Addr) (cdv ct : Value) (us : List Value), us.length = p__law_name.length → bindArgs (PySem.W.fnOf "_law_name" "_law_name" (defArgs s__law_name) (defBody s__law_name) (defScope s__law_name) .none kV doc pm an cdv ct) ⟨us, []⟩ = pure (p__law_name.zip us) := fun _ _ _ _ _ _ us hl => match us, hl with | [_, _], _ => rfl
  have a4 : mDef p__law_name.length (N__law_name.length - p__law_name.length) g__law_name = m__law_name := rfl
  rw [← a4]
  refine cal_mk (k := 1) a1 a2 a3 sc__law_name fun X W cdv A outer s H E eX eW hr tk hps hu => ?_
  subst eX eW
  have nd := sc__law_name.nd
  exact (jss_cons (js_if (jt_w (jw_or (jt_lt (je_var 1) je_int) (jw_or1 (jt_eq hu (je_mod (je_intC n_int (ja_cons true (je_var 1) ja_nil)) je_int) je_int)))) (jss_one (js_ret (je_var 0))) jss_nil)
  (jss_cons (js_set (i := 2) (je_mod (je_intC n_int (ja_cons true (je_div (je_var 1) je_int) ja_nil)) je_int) nd)
  (jss_cons (js_if (jt_gt (je_var 2) je_int) (jss_one (js_ret (je_cal r__law_strange hr (by decide) tk (ja_cons true (je_div (je_var 1) je_int) (ja_cons true (je_var 0) ja_nil))))) jss_nil)
  (jss_one (js_ret (je_ix (je_lst (ja_cons false je_str (ja_cons false (je_add (je_var 0) je_str) (ja_cons false je_str (ja_cons false je_str (ja_cons false (je_add je_str (je_var 0)) (ja_cons false (je_slice (je_var 0) jo_none (jo_some je_int)) ja_nil))))))) (je_var 2)))))))
/-! _law_cell(script, at): 0 script 1 at -/
def g__law_cell : Es := (sSeq (sIf (tb (e2 (eCB (aCons true (eVar 0) aNil) gLen) (eC (.int 0)) dEq)) (sRet (eC (.int 0))) sNil)
  (sRet (eCB (aCons true (e2 (eVar 0) (e2 (eCB (aCons true (eVar 1) aNil) gInt) (eCB (aCons true (eVar 0) aNil) gLen) dMod) dIx) aNil) gInt)))
def m__law_cell : En → RD := mDef 2 0 g__law_cell
theorem cal__law_cell {P : Program} {w : World} {K : PySem.W.Frag} {mg : Str → Option Value} {h base : Heap} (X0 : K.In h) (G0 : h.Ns mainGlobals mg) (c : Says w h K) : Cal P w K mg base 1 "_law_cell" p__law_cell m__law_cell := by
  have n_len := n_len X0 G0 c
  have n_int := n_int X0 G0 c
  have a1 : ∃ fd, FunD K "_law_cell" "_law_cell" (defArgs s__law_cell) (defBody s__law_cell) (defScope s__law_cell) [] [] (He.ga K "_law_cell") fd := c.t.d.def_ 4 (d := d__law_cell) rfl
  have a2 := o__law_cell X0 G0 c
  have a3 : ∀ (kV doc pm : Value) (an : Option Addr) (cdv ct : Value) (us : List Value), us.length = p__law_cell.length → bindArgs (PySem.W.fnOf "_law_cell" "_law_cell" (defArgs s__law_cell) (defBody s__law_cell) (defScope s__law_cell) .none kV doc pm an cdv ct) ⟨us, []⟩ = pure (p__law_cell.zip us) := fun _ _ _ _ _ _ us hl => match us, hl with | [_, _], _ => rfl
  have a4 : mDef p__law_cell.length (N__law_cell.length - p__law_cell.length) g__law_cell = m__law_cell := rfl
  rw [← a4]
  refine cal_mk (k := 0) a1 a2 a3 sc__law_cell fun X W cdv A outer s H E eX eW hr tk hps hu => ?_
  subst eX eW
  have nd := sc__law_cell.nd
  exact (jss_cons (js_if (jt_eq hu (je_len n_len (ja_cons true (je_var 0) ja_nil)) je_int) (jss_one (js_ret je_int)) jss_nil)
  (jss_one (js_ret (je_intC n_int (ja_cons true (je_ix (je_var 0) (je_mod (je_intC n_int (ja_cons true (je_var 1) ja_nil)) (je_len n_len (ja_cons true (je_var 0) ja_nil)))) ja_nil)))))
/-! _law_leaf(script, draws, n, spoil): 0 script 1 draws 2 n 3 spoil 4 outcome 5 far -/
def g__law_leaf : Es := (sSeq (sSet 4 (eCall m__law_take (aCons true (eVar 1) (aCons true (eVar 2) aNil))))
  (sSeq (sSet 5 (e2 (eCall m__law_take (aCons true (eVar 1) (aCons true (eC (.int 3)) aNil))) (eCB (aCons true (eCall m__law_cell (aCons true (eVar 0) (aCons true (eCall m__law_take (aCons true (eVar 1) (aCons true (eC (.int 63)) aNil))) aNil))) aNil) gAbs) dMulL))
  (sSeq (sIf (bAnd (tb (e2 (eVar 3) (eC (.int 0)) dGe)) (tb (e2 (e2 (eCB (aCons true (eVar 3) aNil) gInt) (eC (.int 2)) dMod) (eC (.int 1)) dEq))) (sSet 4 (e2 (eLst (aCons false (eVar 2) (aCons false (e1 (eC (.int 1)) dNeg) (aCons false (e2 (eVar 2) (eVar 5) dAdd) (aCons false (e2 (e1 (eC (.int 1)) dNeg) (eVar 5) dSub) aNil))))) (e2 (eCB (aCons true (e2 (eVar 3) (eC (.int 2)) dDiv) aNil) gInt) (eC (.int 4)) dMod) dIx)) sNil)
  (sRet (eTup (aCons false (eCall m__law_name (aCons true (eC (.str "is")) (aCons true (eVar 3) aNil))) (aCons false (eVar 4) aNil)))))))
def m__law_leaf : En → RD := mDef 4 2 g__law_leaf
theorem cal__law_leaf {P : Program} {w : World} {K : PySem.W.Frag} {mg : Str → Option Value} {h base : Heap} (X0 : K.In h) (G0 : h.Ns mainGlobals mg) (c : Says w h K) : Cal P w K mg base 3 "_law_leaf" p__law_leaf m__law_leaf := by
  have n_abs := n_abs X0 G0 c
  have n_int := n_int X0 G0 c
  have r__law_take := cal__law_take (P := P) (base := base) X0 G0 c
  have r__law_cell := cal__law_cell (P := P) (base := base) X0 G0 c
  have r__law_name := cal__law_name (P := P) (base := base) X0 G0 c
  have a1 : ∃ fd, FunD K "_law_leaf" "_law_leaf" (defArgs s__law_leaf) (defBody s__law_leaf) (defScope s__law_leaf) [] [] (He.ga K "_law_leaf") fd := c.t.d.def_ 5 (d := d__law_leaf) rfl
  have a2 := o__law_leaf X0 G0 c
  have a3 : ∀ (kV doc pm : Value) (an : Option Addr) (cdv ct : Value) (us : List Value), us.length = p__law_leaf.length → bindArgs (PySem.W.fnOf "_law_leaf" "_law_leaf" (defArgs s__law_leaf) (defBody s__law_leaf) (defScope s__law_leaf) .none kV doc pm an cdv ct) ⟨us, []⟩ = pure (p__law_leaf.zip us) := fun _ _ _ _ _ _ us hl => match us, hl with | [_, _, _, _], _ => rfl
  have a4 : mDef p__law_leaf.length (N__law_leaf.length - p__law_leaf.length) g__law_leaf = m__law_leaf := rfl
  rw [← a4]
  refine cal_mk (k := 2) a1 a2 a3 sc__law_leaf fun X W cdv A outer s H E eX eW hr tk hps hu => ?_
  subst eX eW
  have nd := sc__law_leaf.nd
  exact (jss_cons (js_set (i := 4) (je_cal r__law_take hr (by decide) tk (ja_cons true (je_var 1) (ja_cons true (je_var 2) ja_nil))) nd)
  (jss_cons (js_set (i := 5) (je_mul (je_cal r__law_take hr (by decide) tk (ja_cons true (je_var 1) (ja_cons true je_int ja_nil))) (je_abs n_abs (ja_cons true (je_cal r__law_cell hr (by decide) tk (ja_cons true (je_var 0) (ja_cons true (je_cal r__law_take hr (by decide) tk (ja_cons true (je_var 1) (ja_cons true je_int ja_nil))) ja_nil))) ja_nil))) nd)
  (jss_cons (js_if (jt_w (jw_and (jt_ge (je_var 3) je_int) (jw_and1 (jt_eq hu (je_mod (je_intC n_int (ja_cons true (je_var 3) ja_nil)) je_int) je_int)))) (jss_one (js_set (i := 4) (je_ix (je_lst (ja_cons false (je_var 2) (ja_cons false (je_neg je_int) (ja_cons false (je_add (je_var 2) (je_var 5)) (ja_cons false (je_sub (je_neg je_int) (je_var 5)) ja_nil))))) (je_mod (je_intC n_int (ja_cons true (je_div (je_var 3) je_int) ja_nil)) je_int)) nd)) jss_nil)
  (jss_one (js_ret (je_tup (ja_cons false (je_cal r__law_name hr (by decide) tk (ja_cons true je_str (ja_cons true (je_var 3) ja_nil))) (ja_cons false (je_var 4) ja_nil))))))))
/-! _law_tree(script, draws, n, steps, tall, places, spoil): 0 script 1 draws 2 n 3 steps 4 tall 5 places 6 spoil 7 stack 8 k 9 here 10 kind 11 many 12 leaf 13 parts 14 depth 15 made 16 part -/
def g__law_tree : Es := (sSeq (sSet 7 (eLst aNil))
  (sSeq (sFor (eR1 (aCons true (eVar 3) aNil)) (hName 8) (sSeq (sSet 9 (e1 (eC (.int 1)) dNeg))
    (sSeq (sIf (tb (e2 (eVar 8) (eVar 5) dIn)) (sSet 9 (eVar 6)) sNil)
    (sSeq (sSet 10 (eCall m__law_take (aCons true (eVar 1) (aCons true (eC (.int 8)) aNil))))
    (sSeq (sIf (bAnd (tr (eVar 4)) (tb (e2 (eVar 8) (eC (.int 0)) dGt))) (sSet 10 (e2 (eC (.int 4)) (e2 (eCB (aCons true (eVar 10) aNil) gInt) (eC (.int 4)) dMod) dAdd)) sNil)
    (sSeq (sSet 11 (eCB (aCons true (eCall m__law_take (aCons true (eVar 1) (aCons true (eC (.int 4)) aNil))) (aCons true (eCB (aCons true (eVar 7) aNil) gLen) aNil)) gMin2))
    (sSeq (sIf (bOr (tb (e2 (eVar 10) (eC (.int 4)) dEq)) (tr (eVar 4))) (sSet 11 (eCB (aCons true (eC (.int 1)) (aCons true (eCB (aCons true (eVar 7) aNil) gLen) aNil)) gMin2)) sNil)
    (sSeq (sSet 12 (eCall m__law_leaf (aCons true (eVar 0) (aCons true (eVar 1) (aCons true (eVar 2) (aCons true (eVar 9) aNil))))))
    (sSeq (sSet 13 (eSl (eVar 7) (some (e2 (eCB (aCons true (eVar 7) aNil) gLen) (eVar 11) dSub)) none))
    (sSeq (sSet 14 (e2 (eC (.int 1)) (eCB (aCons true (e2 (eLst (aCons false (eC (.int 0)) aNil)) (eLc (eIt (eVar 13)) (hName 16) bYes (e2 (eVar 16) (eC (.int 1)) dIx) [16]) dAdd) aNil) gMax) dAdd))
    (sIf (bOr (tb (e2 (eVar 10) (eC (.int 4)) dLt)) (bOr (tb (e2 (eVar 14) (eC (.int 9)) dGt)) (bAnd (tb (e2 (eVar 10) (eC (.int 4)) dEq)) (tb (e2 (eVar 11) (eC (.int 0)) dEq))))) (sExpr (eMt 7 (aCons false (eTup (aCons false (eVar 12) (aCons false (eC (.int 1)) aNil))) aNil) stAppend)) (sSeq (sSet 15 (eCB (aCons true (eLc (eIt (eVar 13)) (hName 16) bYes (e2 (eVar 16) (eC (.int 0)) dIx) [16]) aNil) gTuple))
      (sSeq (sIf (tb (e2 (eVar 10) (eC (.int 4)) dEq)) (sSet 15 (e2 (eVar 15) (eC (.int 0)) dIx)) sNil)
      (sSeq (sIf (tb (e2 (eVar 9) (eC (.int 0)) dGe)) (sSet 9 (e2 (eC (.int 2)) (eVar 9) dMulL)) sNil)
      (sSeq (sSet 15 (eTup (aCons false (eCall m__law_name (aCons true (e2 (eLst (aCons false (eC (.str "not")) (aCons false (eC (.str "any")) (aCons false (eC (.str "all")) (aCons false (eC (.str "any")) aNil))))) (e2 (eVar 10) (eC (.int 4)) dSub) dIx) (aCons true (eVar 9) aNil))) (aCons false (eVar 15) aNil))))
      (sSet 7 (e2 (eSl (eVar 7) none (some (e2 (eCB (aCons true (eVar 7) aNil) gLen) (eVar 11) dSub))) (eLst (aCons false (eTup (aCons false (eVar 15) (aCons false (eVar 14) aNil))) aNil)) dAdd)))))))))))))))) [9, 10, 11, 12, 13, 14, 15, 8])
  (sSeq (sIf (tb (e2 (eCB (aCons true (eVar 7) aNil) gLen) (eC (.int 1)) dEq)) (sRet (e2 (e2 (eVar 7) (eC (.int 0)) dIx) (eC (.int 0)) dIx)) sNil)
  (sRet (eTup (aCons false (e2 (eLst (aCons false (eC (.str "all")) (aCons false (eC (.str "any")) aNil))) (eCall m__law_take (aCons true (eVar 1) (aCons true (eC (.int 2)) aNil))) dIx) (aCons false (eCB (aCons true (eLc (eIt (eVar 7)) (hName 16) bYes (e2 (eVar 16) (eC (.int 0)) dIx) [16]) aNil) gTuple) aNil)))))))
def m__law_tree : En → RD := mDef 7 10 g__law_tree
theorem cal__law_tree {P : Program} {w : World} {K : PySem.W.Frag} {mg : Str → Option Value} {h base : Heap} (X0 : K.In h) (G0 : h.Ns mainGlobals mg) (c : Says w h K) : Cal P w K mg base 4 "_law_tree" p__law_tree m__law_tree := by
  have n_range := n_range X0 G0 c
  have n_int := n_int X0 G0 c
  have n_len := n_len X0 G0 c
  have n_min := n_min X0 G0 c
  have n_max := n_max X0 G0 c
  have n_tuple := n_tuple X0 G0 c
  have r__law_take := cal__law_take (P := P) (base := base) X0 G0 c
  have r__law_leaf := cal__law_leaf (P := P) (base := base) X0 G0 c
  have r__law_name := cal__law_name (P := P) (base := base) X0 G0 c
  have a1 : ∃ fd, FunD K "_law_tree" "_law_tree" (defArgs s__law_tree) (defBody s__law_tree) (defScope s__law_tree) [] [] (He.ga K "_law_tree") fd := c.t.d.def_ 6 (d := d__law_tree) rfl
  have a2 := o__law_tree X0 G0 c
  have a3 : ∀ (kV doc pm : Value) (an : Option Addr) (cdv ct : Value) (us : List Value), us.length = p__law_tree.length → bindArgs (PySem.W.fnOf "_law_tree" "_law_tree" (defArgs s__law_tree) (defBody s__law_tree) (defScope s__law_tree) .none kV doc pm an cdv ct) ⟨us, []⟩ = pure (p__law_tree.zip us) := fun _ _ _ _ _ _ us hl => match us, hl with | [_, _, _, _, _, _, _], _ => rfl
  have a4 : mDef p__law_tree.length (N__law_tree.length - p__law_tree.length) g__law_tree = m__law_tree := rfl
  rw [← a4]
  refine cal_mk (k := 3) a1 a2 a3 sc__law_tree fun X W cdv A outer s H E eX eW hr tk hps hu => ?_
  subst eX eW
  have nd := sc__law_tree.nd
  exact (jss_cons (js_set (i := 7) (je_lst ja_nil) nd)
  (jss_cons (js_for (us := [8]) [9, 10, 11, 12, 13, 14, 15, 8] hps rfl (ji_r1 n_range (ja_cons true (je_var 3) ja_nil)) (jg_name nd)
    (jss_cons (js_set (i := 9) (je_neg je_int) nd)
    (jss_cons (js_if (jt_in hu (je_var 8) (je_var 5)) (jss_one (js_set (i := 9) (je_var 6) nd)) jss_nil)
    (jss_cons (js_set (i := 10) (je_cal r__law_take hr (by decide) tk (ja_cons true (je_var 1) (ja_cons true je_int ja_nil))) nd)
    (jss_cons (js_if (jt_w (jw_and (jt_val (je_var 4)) (jw_and1 (jt_gt (je_var 8) je_int)))) (jss_one (js_set (i := 10) (je_add je_int (je_mod (je_intC n_int (ja_cons true (je_var 10) ja_nil)) je_int)) nd)) jss_nil)
    (jss_cons (js_set (i := 11) (je_min2 rfl n_min (ja_cons true (je_cal r__law_take hr (by decide) tk (ja_cons true (je_var 1) (ja_cons true je_int ja_nil))) (ja_cons true (je_len n_len (ja_cons true (je_var 7) ja_nil)) ja_nil))) nd)
    (jss_cons (js_if (jt_w (jw_or (jt_eq hu (je_var 10) je_int) (jw_or1 (jt_val (je_var 4))))) (jss_one (js_set (i := 11) (je_min2 rfl n_min (ja_cons true je_int (ja_cons true (je_len n_len (ja_cons true (je_var 7) ja_nil)) ja_nil))) nd)) jss_nil)
    (jss_cons (js_set (i := 12) (je_cal r__law_leaf hr (by decide) tk (ja_cons true (je_var 0) (ja_cons true (je_var 1) (ja_cons true (je_var 2) (ja_cons true (je_var 9) ja_nil))))) nd)
    (jss_cons (js_set (i := 13) (je_slice (je_var 7) (jo_some (je_sub (je_len n_len (ja_cons true (je_var 7) ja_nil)) (je_var 11))) jo_none) nd)
    (jss_cons (js_set (i := 14) (je_add je_int (je_max1 rfl n_max (ja_cons true (je_add (je_lst (ja_cons false je_int ja_nil)) (je_lc (own := [("part", 16)]) rfl nd (ji_seq (je_var 13)) (blk_ok (by kernel_rfl)) (fun _ _ _ _ _ => (jg_name nd)) (fun _ _ _ _ _ => (jts_nil (W := W0))) (fun _ _ _ _ _ => (je_ix (je_var 16) je_int)))) ja_nil))) nd)
    (jss_one (js_if (jt_w (jw_or (jt_lt (je_var 10) je_int) (jw_or (jt_gt (je_var 14) je_int) (jw_or1 (jt_w (jw_and (jt_eq hu (je_var 10) je_int) (jw_and1 (jt_eq hu (je_var 11) je_int)))))))) (jss_one (js_expr (je_append (pv 7) (ja_cons false (je_tup (ja_cons false (je_var 12) (ja_cons false je_int ja_nil))) ja_nil)))) (jss_cons (js_set (i := 15) (je_tupleC n_tuple (ja_cons true (je_lc (own := [("part", 16)]) rfl nd (ji_seq (je_var 13)) (blk_ok (by kernel_rfl)) (fun _ _ _ _ _ => (jg_name nd)) (fun _ _ _ _ _ => (jts_nil (W := W0))) (fun _ _ _ _ _ => (je_ix (je_var 16) je_int))) ja_nil)) nd)
      (jss_cons (js_if (jt_eq hu (je_var 10) je_int) (jss_one (js_set (i := 15) (je_ix (je_var 15) je_int) nd)) jss_nil)
      (jss_cons (js_if (jt_ge (je_var 9) je_int) (jss_one (js_set (i := 9) (je_mul je_int (je_var 9)) nd)) jss_nil)
      (jss_cons (js_set (i := 15) (je_tup (ja_cons false (je_cal r__law_name hr (by decide) tk (ja_cons true (je_ix (je_lst (ja_cons false je_str (ja_cons false je_str (ja_cons false je_str (ja_cons false je_str ja_nil))))) (je_sub (je_var 10) je_int)) (ja_cons true (je_var 9) ja_nil))) (ja_cons false (je_var 15) ja_nil))) nd)
      (jss_one (js_set (i := 7) (je_add (je_slice (je_var 7) jo_none (jo_some (je_sub (je_len n_len (ja_cons true (je_var 7) ja_nil)) (je_var 11)))) (je_lst (ja_cons false (je_tup (ja_cons false (je_var 15) (ja_cons false (je_var 14) ja_nil))) ja_nil))) nd))))))))))))))))))
  (jss_cons (js_if (jt_eq hu (je_len n_len (ja_cons true (je_var 7) ja_nil)) je_int) (jss_one (js_ret (je_ix (je_ix (je_var 7) je_int) je_int))) jss_nil)
  (jss_one (js_ret (je_tup (ja_cons false (je_ix (je_lst (ja_cons false je_str (ja_cons false je_str ja_nil))) (je_cal r__law_take hr (by decide) tk (ja_cons true (je_var 1) (ja_cons true je_int ja_nil)))) (ja_cons false (je_tupleC n_tuple (ja_cons true (je_lc (own := [("part", 16)]) rfl nd (ji_seq (je_var 7)) (blk_ok (by kernel_rfl)) (fun _ _ _ _ _ => (jg_name nd)) (fun _ _ _ _ _ => (jts_nil (W := W0))) (fun _ _ _ _ _ => (je_ix (je_var 16) je_int))) ja_nil)) ja_nil))))))))
/-! is_word(word, n): 0 word 1 n 2 part -/
def g_is_word (mR : En → RD) : Es := (sSeq (sIf (tb (e2 (e2 (eVar 0) (eC (.int 0)) dIx) (eC (.str "is")) dEq)) (sRet (eCh (eC (.int 0)) (e2 (eVar 0) (eC (.int 1)) dIx) (eVar 1) dLe dLt)) sNil)
  (sSeq (sIf (tb (e2 (e2 (eVar 0) (eC (.int 0)) dIx) (eC (.str "not")) dEq)) (sRet (eCall mR (aCons true (e2 (eVar 0) (eC (.int 1)) dIx) (aCons true (eVar 1) aNil)))) sNil)
  (sRet (eAnd (e2 (e2 (eVar 0) (eC (.int 0)) dIx) (eTup (aCons false (eC (.str "all")) (aCons false (eC (.str "any")) aNil))) dIn) (eCB (aCons true (eLc (eIt (e2 (eVar 0) (eC (.int 1)) dIx)) (hName 2) bYes (eCall mR (aCons true (eVar 2) (aCons true (eVar 1) aNil))) [2]) aNil) gAll)))))
def m_is_word : Nat → En → RD
  | 0 => fun _ => .no
  | n + 1 => mDef 2 1 (g_is_word (m_is_word n))
theorem cal_is_word {P : Program} {w : World} {K : PySem.W.Frag} {mg : Str → Option Value} {h base : Heap} (X0 : K.In h) (G0 : h.Ns mainGlobals mg) (c : Says w h K) (n : Nat) : Cal P w K mg base (1 + n) "is_word" p_is_word (m_is_word n) := by
  have n_all := n_all X0 G0 c
  have a1 : ∃ fd, FunD K "is_word" "is_word" (defArgs s_is_word) (defBody s_is_word) (defScope s_is_word) [] [] (He.ga K "is_word") fd := c.t.d.def_ 7 (d := d_is_word) rfl
  have a2 := o_is_word X0 G0 c
  have a3 : ∀ (kV doc pm : Value) (an : Option Addr) (cdv ct : Value) (us : List Value), us.length = p_is_word.length → bindArgs (PySem.W.fnOf "is_word" "is_word" (defArgs s_is_word) (defBody s_is_word) (defScope s_is_word) .none kV doc pm an cdv ct) ⟨us, []⟩ = pure (p_is_word.zip us) := fun _ _ _ _ _ _ us hl => match us, hl with | [_, _], _ => rfl
  induction n with
  | zero => exact cal_no (k := 0) a1 a2 a3 sc_is_word
  | succ n r_is_word =>
  have a4 : mDef p_is_word.length (N_is_word.length - p_is_word.length) (g_is_word (m_is_word n)) = m_is_word (n + 1) := rfl
  rw [← a4]
  refine cal_mk (k := 1 + n) a1 a2 a3 sc_is_word fun X W cdv A outer s H E eX eW hr tk hps hu => ?_
  subst eX eW
  have nd := sc_is_word.nd
  exact (jss_cons (js_if (jt_eq hu (je_ix (je_var 0) je_int) je_str) (jss_one (js_ret (je_chain op_le snd_le op_lt snd_lt je_int (je_ix (je_var 0) je_int) (je_var 1)))) jss_nil)
  (jss_cons (js_if (jt_eq hu (je_ix (je_var 0) je_int) je_str) (jss_one (js_ret (je_cal r_is_word hr (Nat.le_refl _) tk (ja_cons true (je_ix (je_var 0) je_int) (ja_cons true (je_var 1) ja_nil))))) jss_nil)
  (jss_one (js_ret (je_and (je_in hu (je_ix (je_var 0) je_int) (je_tup (ja_cons false je_str (ja_cons false je_str ja_nil)))) (je_one (je_all rfl n_all (ja_cons true (je_lc (own := [("part", 2)]) rfl nd (ji_seq (je_ix (je_var 0) je_int)) (blk_ok (by kernel_rfl)) (fun _ _ _ _ _ => (jg_name nd)) (fun _ _ _ _ _ => (jts_nil (W := W0))) (fun _ _ _ _ _ => (je_cal r_is_word hr (Nat.le_refl _) takes0 (ja_cons true (je_var 2) (ja_cons true (je_var 1) ja_nil))))) ja_nil))))))))
/-! check_word(word, n): 0 word 1 n -/
def g_check_word : Es := (sIf (bNot (tr (eCall (m_is_word 40) (aCons true (eVar 0) (aCons true (eVar 1) aNil))))) (sRaise "InvalidWord") sNil)
def m_check_word : En → RD := mDef 2 0 g_check_word
theorem cal_check_word {P : Program} {w : World} {K : PySem.W.Frag} {mg : Str → Option Value} {h base : Heap} (X0 : K.In h) (G0 : h.Ns mainGlobals mg) (c : Says w h K) : Cal P w K mg base 42 "check_word" p_check_word m_check_word := by
  have c_f_InvalidWord := c_f_InvalidWord X0 G0 c
  have r_is_word := cal_is_word (P := P) (base := base) X0 G0 c 40
  have a1 : ∃ fd, FunD K "check_word" "check_word" (defArgs s_check_word) (defBody s_check_word) (defScope s_check_word) [] [] (He.ga K "check_word") fd := c.t.d.def_ 8 (d := d_check_word) rfl
  have a2 := o_check_word X0 G0 c
  have a3 : ∀ (kV doc pm : Value) (an : Option Addr) (cdv ct : Value) (us : List Value), us.length = p_check_word.length → bindArgs (PySem.W.fnOf "check_word" "check_word" (defArgs s_check_word) (defBody s_check_word) (defScope s_check_word) .none kV doc pm an cdv ct) ⟨us, []⟩ = pure (p_check_word.zip us) := fun _ _ _ _ _ _ us hl => match us, hl with | [_, _], _ => rfl
  have a4 : mDef p_check_word.length (N_check_word.length - p_check_word.length) g_check_word = m_check_word := rfl
  rw [← a4]
  refine cal_mk (k := 41) a1 a2 a3 sc_check_word fun X W cdv A outer s H E eX eW hr tk hps hu => ?_
  subst eX eW
  have nd := sc_check_word.nd
  exact (jss_one (js_if (jt_not (jt_val (je_cal r_is_word hr (by decide) tk (ja_cons true (je_var 0) (ja_cons true (je_var 1) ja_nil))))) (jss_one (js_raise c_f_InvalidWord rfl tk)) jss_nil))
/-! _law_check(word, n): 0 word 1 n 2 told 3 e -/
def g__law_check : Es := (sSeq (sTryM 3 "InvalidWord" [true, false, false, false, false, false, false, false, false, true] (sSet 2 (eCall m_check_word (aCons true (eVar 0) (aCons true (eVar 1) aNil)))))
  (sSeq (sIf (tb (e2 (eVar 2) (eC .non) dIsN)) (sRet (eC .non)) sNil)
  (sRet (eC (.int 0)))))
def m__law_check : En → RD := mDef 2 2 g__law_check
theorem cal__law_check {P : Program} {w : World} {K : PySem.W.Frag} {mg : Str → Option Value} {h base : Heap} (X0 : K.In h) (G0 : h.Ns mainGlobals mg) (c : Says w h K) : Cal P w K mg base 43 "_law_check" p__law_check m__law_check := by
  have n_isinstance := n_isinstance X0 G0 c
  have n_ValueError := n_ValueError X0 G0 c
  have c_e_InvalidWord := c_e_InvalidWord X0 G0 c
  have c_k_InvalidWord_ValueError := c_k_InvalidWord_ValueError X0 G0 c
  have c_k_InvalidWord_NothingToRedo := c_k_InvalidWord_NothingToRedo X0 G0 c
  have c_g_NothingToRedo := c_g_NothingToRedo X0 G0 c
  have c_k_InvalidWord_NothingToUndo := c_k_InvalidWord_NothingToUndo X0 G0 c
  have c_g_NothingToUndo := c_g_NothingToUndo X0 G0 c
  have c_k_InvalidWord_SureBet := c_k_InvalidWord_SureBet X0 G0 c
  have c_g_SureBet := c_g_SureBet X0 G0 c
  have c_k_InvalidWord_NotTaken := c_k_InvalidWord_NotTaken X0 G0 c
  have c_g_NotTaken := c_g_NotTaken X0 G0 c
  have c_k_InvalidWord_NoBet := c_k_InvalidWord_NoBet X0 G0 c
  have c_g_NoBet := c_g_NoBet X0 G0 c
  have c_k_InvalidWord_BadText := c_k_InvalidWord_BadText X0 G0 c
  have c_g_BadText := c_g_BadText X0 G0 c
  have c_k_InvalidWord_InvalidChances := c_k_InvalidWord_InvalidChances X0 G0 c
  have c_g_InvalidChances := c_g_InvalidChances X0 G0 c
  have c_k_InvalidWord_InvalidTable := c_k_InvalidWord_InvalidTable X0 G0 c
  have c_g_InvalidTable := c_g_InvalidTable X0 G0 c
  have c_k_InvalidWord_InvalidWord := c_k_InvalidWord_InvalidWord X0 G0 c
  have c_g_InvalidWord := c_g_InvalidWord X0 G0 c
  have c_g_BetError := c_g_BetError X0 G0 c
  have c_m_InvalidWord_BetError := c_m_InvalidWord_BetError X0 G0 c
  have r_check_word := cal_check_word (P := P) (base := base) X0 G0 c
  have a1 : ∃ fd, FunD K "_law_check" "_law_check" (defArgs s__law_check) (defBody s__law_check) (defScope s__law_check) [] [] (He.ga K "_law_check") fd := c.t.d.def_ 9 (d := d__law_check) rfl
  have a2 := o__law_check X0 G0 c
  have a3 : ∀ (kV doc pm : Value) (an : Option Addr) (cdv ct : Value) (us : List Value), us.length = p__law_check.length → bindArgs (PySem.W.fnOf "_law_check" "_law_check" (defArgs s__law_check) (defBody s__law_check) (defScope s__law_check) .none kV doc pm an cdv ct) ⟨us, []⟩ = pure (p__law_check.zip us) := fun _ _ _ _ _ _ us hl => match us, hl with | [_, _], _ => rfl
  have a4 : mDef p__law_check.length (N__law_check.length - p__law_check.length) g__law_check = m__law_check := rfl
  rw [← a4]
  refine cal_mk (k := 42) a1 a2 a3 sc__law_check fun X W cdv A outer s H E eX eW hr tk hps hu => ?_
  subst eX eW
  have nd := sc__law_check.nd
  exact (jss_cons (js_tryM (i := 3) (c0 := "InvalidWord") rfl rfl nd c_g_InvalidWord c_g_BetError c_m_InvalidWord_BetError tk (fun W pn xe tk hps => (jss_one (js_set (i := 2) (je_cal r_check_word hr (by decide) tk (ja_cons true (je_var 0) (ja_cons true (je_var 1) ja_nil))) nd)))
  (fun a oe pn hz hf => (pae_cons (pee_is c_e_InvalidWord hz hf n_isinstance c_g_InvalidWord c_k_InvalidWord_InvalidWord) (pae_cons (pee_is c_e_InvalidWord hz hf n_isinstance c_g_InvalidTable c_k_InvalidWord_InvalidTable) (pae_cons (pee_is c_e_InvalidWord hz hf n_isinstance c_g_InvalidChances c_k_InvalidWord_InvalidChances) (pae_cons (pee_is c_e_InvalidWord hz hf n_isinstance c_g_BadText c_k_InvalidWord_BadText) (pae_cons (pee_is c_e_InvalidWord hz hf n_isinstance c_g_NoBet c_k_InvalidWord_NoBet) (pae_cons (pee_is c_e_InvalidWord hz hf n_isinstance c_g_NotTaken c_k_InvalidWord_NotTaken) (pae_cons (pee_is c_e_InvalidWord hz hf n_isinstance c_g_SureBet c_k_InvalidWord_SureBet) (pae_cons (pee_is c_e_InvalidWord hz hf n_isinstance c_g_NothingToUndo c_k_InvalidWord_NothingToUndo) (pae_cons (pee_is c_e_InvalidWord hz hf n_isinstance c_g_NothingToRedo c_k_InvalidWord_NothingToRedo) (pae_cons (pee_isT c_e_InvalidWord hz hf n_isinstance n_ValueError (by decide +kernel) c_k_InvalidWord_ValueError) pae_nil))))))))))))
  (jss_cons (js_if (jt_isN (je_var 2) je_non) (jss_one (js_ret je_non)) jss_nil)
  (jss_one (js_ret je_int))))
/-! _law_error(name): 0 name 1 names 2 other -/
def g__law_error : Es := (sSeq (sSet 1 (eLst (aCons false (eC (.str "InvalidWord")) (aCons false (eC (.str "InvalidTable")) (aCons false (eC (.str "InvalidChances")) (aCons false (eC (.str "BadText")) (aCons false (eC (.str "NoBet")) (aCons false (eC (.str "NotTaken")) (aCons false (eC (.str "SureBet")) aNil)))))))))
  (sRet (e2 (eLc (eIt (e2 (eVar 1) (eLst (aCons false (eC (.str "NothingToUndo")) (aCons false (eC (.str "NothingToRedo")) aNil))) dAdd)) (hName 2) bYes (e2 (eVar 2) (eVar 0) dEq) [2]) (eLst (aCons false (eC (.bl true)) aNil)) dAdd)))
def m__law_error : En → RD := mDef 1 2 g__law_error
theorem cal__law_error {P : Program} {w : World} {K : PySem.W.Frag} {mg : Str → Option Value} {h base : Heap} (X0 : K.In h) (G0 : h.Ns mainGlobals mg) (c : Says w h K) : Cal P w K mg base 1 "_law_error" p__law_error m__law_error := by
  have a1 : ∃ fd, FunD K "_law_error" "_law_error" (defArgs s__law_error) (defBody s__law_error) (defScope s__law_error) [] [] (He.ga K "_law_error") fd := c.t.d.def_ 10 (d := d__law_error) rfl
  have a2 := o__law_error X0 G0 c
  have a3 : ∀ (kV doc pm : Value) (an : Option Addr) (cdv ct : Value) (us : List Value), us.length = p__law_error.length → bindArgs (PySem.W.fnOf "_law_error" "_law_error" (defArgs s__law_error) (defBody s__law_error) (defScope s__law_error) .none kV doc pm an cdv ct) ⟨us, []⟩ = pure (p__law_error.zip us) := fun _ _ _ _ _ _ us hl => match us, hl with | [_], _ => rfl
  have a4 : mDef p__law_error.length (N__law_error.length - p__law_error.length) g__law_error = m__law_error := rfl
  rw [← a4]
  refine cal_mk (k := 0) a1 a2 a3 sc__law_error fun X W cdv A outer s H E eX eW hr tk hps hu => ?_
  subst eX eW
  have nd := sc__law_error.nd
  exact (jss_cons (js_set (i := 1) (je_lst (ja_cons false je_str (ja_cons false je_str (ja_cons false je_str (ja_cons false je_str (ja_cons false je_str (ja_cons false je_str (ja_cons false je_str ja_nil)))))))) nd)
  (jss_one (js_ret (je_add (je_lc (own := [("other", 2)]) rfl nd (ji_seq (je_add (je_var 1) (je_lst (ja_cons false je_str (ja_cons false je_str ja_nil))))) (blk_ok (by kernel_rfl)) (fun _ _ _ _ _ => (jg_name nd)) (fun _ _ _ _ _ => (jts_nil (W := W0))) (fun _ _ _ _ _ => (je_eq hu (je_var 2) (je_var 0)))) (je_lst (ja_cons false je_bl ja_nil))))))
/-! law(script): 0 script 1 draws 2 n 3 steps 4 tall 5 spoils 6 k 7 spoil 8 at 9 places 10 good 11 bad -/
def g_law : Es := (sSeq (sSet 1 (eCall m__law_draws (aCons true (eVar 0) (aCons true (eC (.int 330)) aNil))))
  (sSeq (sSet 2 (e2 (eC (.int 1)) (eCall m__law_take (aCons true (eVar 1) (aCons true (eC (.int 10)) aNil))) dAdd))
  (sSeq (sSet 3 (e2 (eC (.int 1)) (eCall m__law_take (aCons true (eVar 1) (aCons true (eC (.int 6)) aNil))) dAdd))
  (sSeq (sIf (tb (e2 (eCall m__law_take (aCons true (eVar 1) (aCons true (eC (.int 3)) aNil))) (eC (.int 1)) dEq)) (sSet 3 (e2 (eC (.int 1)) (eCall m__law_take (aCons true (eVar 1) (aCons true (eC (.int 39)) aNil))) dAdd)) sNil)
  (sSeq (sSet 4 (e2 (eCall m__law_take (aCons true (eVar 1) (aCons true (eC (.int 4)) aNil))) (eC (.int 2)) dEq))
  (sSeq (sSet 5 (eLst aNil))
  (sSeq (sFor (eR1 (aCons true (eC (.int 3)) aNil)) (hName 6) (sSeq (sSet 7 (e2 (eCall m__law_take (aCons true (eVar 1) (aCons true (eC (.int 96)) aNil))) (e2 (eC (.int 96)) (eCall m__law_take (aCons true (eVar 1) (aCons true (eC (.int 1000)) aNil))) dMulL) dAdd))
    (sSeq (sSet 8 (eCall m__law_take (aCons true (eVar 1) (aCons true (eVar 3) aNil))))
    (sSeq (sSet 9 (eLst (aCons false (eVar 8) (aCons false (e2 (eLst (aCons false (eVar 8) (aCons false (eCall m__law_take (aCons true (eVar 1) (aCons true (eVar 3) aNil))) aNil))) (eCall m__law_take (aCons true (eVar 1) (aCons true (eC (.int 2)) aNil))) dIx) aNil))))
    (sExpr (eMt 5 (aCons false (eTup (aCons false (eVar 9) (aCons false (e2 (eVar 7) (e2 (eC (.int 96000)) (eCall m__law_take (aCons true (eVar 1) (aCons true (eC (.int 1000)) aNil))) dMulL) dAdd) aNil))) aNil) stAppend))))) [7, 8, 9, 6])
  (sSeq (sSet 10 (eCallN m__law_tree (nCons true (eVar 0) (nHere (eCB (aCons true (eVar 1) aNil) gList) (aCons true (eVar 2) (aCons true (eVar 3) (aCons true (eVar 4) (aCons true (eLst aNil) (aCons true (e1 (eC (.int 1)) dNeg) aNil)))))))))
  (sSeq (sIf (bOr (tb (e2 (eCall m__law_check (aCons true (eVar 10) (aCons true (eVar 2) aNil))) (eC .non) dNotN)) (tb (e2 (eCall m__law_check (aCons true (eTup (aCons false (eC (.str "any")) (aCons false (eTup aNil) aNil))) (aCons true (eVar 2) aNil))) (eC .non) dNotN))) (sRet (eC (.bl false))) sNil)
  (sSeq (sIf (bOr (tb (e2 (eCall m__law_check (aCons true (eTup (aCons false (eC (.str "is")) (aCons false (e2 (eVar 2) (eC (.int 1)) dSub) aNil))) (aCons true (eVar 2) aNil))) (eC .non) dNotN)) (tb (e2 (eCall m__law_check (aCons true (eTup (aCons false (eC (.str "is")) (aCons false (eVar 2) aNil))) (aCons true (eVar 2) aNil))) (eCall m__law_error (aCons true (eC (.str "InvalidWord")) aNil)) dNe))) (sRet (eC (.bl false))) sNil)
  (sSeq (sFor (eIt (eVar 5)) (hName 7) (sSeq (sSet 11 (eCallN m__law_tree (nCons true (eVar 0) (nHere (eCB (aCons true (eVar 1) aNil) gList) (aCons true (eVar 2) (aCons true (eVar 3) (aCons true (eVar 4) (aCons true (e2 (eVar 7) (eC (.int 0)) dIx) (aCons true (e2 (eVar 7) (eC (.int 1)) dIx) aNil)))))))))
    (sIf (tb (e2 (eCall m__law_check (aCons true (eVar 11) (aCons true (eVar 2) aNil))) (eCall m__law_error (aCons true (eC (.str "InvalidWord")) aNil)) dNe)) (sRet (eC (.bl false))) sNil)) [11, 7])
  (sRet (e2 (eCall m__law_check (aCons true (eVar 10) (aCons true (eVar 2) aNil))) (eC .non) dIsN)))))))))))))
def m_law : En → RD := mDef 1 11 g_law
theorem cal_law {P : Program} {w : World} {K : PySem.W.Frag} {mg : Str → Option Value} {h base : Heap} (X0 : K.In h) (G0 : h.Ns mainGlobals mg) (c : Says w h K) : Cal P w K mg base 44 "law" p_law m_law := by
  have n_range := n_range X0 G0 c
  have n_list := n_list X0 G0 c
  have r__law_draws := cal__law_draws (P := P) (base := base) X0 G0 c
  have r__law_take := cal__law_take (P := P) (base := base) X0 G0 c
  have r__law_tree := cal__law_tree (P := P) (base := base) X0 G0 c
  have r__law_check := cal__law_check (P := P) (base := base) X0 G0 c
  have r__law_error := cal__law_error (P := P) (base := base) X0 G0 c
  have a1 : ∃ fd, FunD K "law" "law" (defArgs s_law) (defBody s_law) (defScope s_law) [] [] (He.ga K "law") fd := c.t.d.def_ 11 (d := d_law) rfl
  have a2 := o_law X0 G0 c
  have a3 : ∀ (kV doc pm : Value) (an : Option Addr) (cdv ct : Value) (us : List Value), us.length = p_law.length → bindArgs (PySem.W.fnOf "law" "law" (defArgs s_law) (defBody s_law) (defScope s_law) .none kV doc pm an cdv ct) ⟨us, []⟩ = pure (p_law.zip us) := fun _ _ _ _ _ _ us hl => match us, hl with | [_], _ => rfl
  have a4 : mDef p_law.length (N_law.length - p_law.length) g_law = m_law := rfl
  rw [← a4]
  refine cal_mk (k := 43) a1 a2 a3 sc_law fun X W cdv A outer s H E eX eW hr tk hps hu => ?_
  subst eX eW
  have nd := sc_law.nd
  exact (jss_cons (js_set (i := 1) (je_cal r__law_draws hr (by decide) tk (ja_cons true (je_var 0) (ja_cons true je_int ja_nil))) nd)
  (jss_cons (js_set (i := 2) (je_add je_int (je_cal r__law_take hr (by decide) tk (ja_cons true (je_var 1) (ja_cons true je_int ja_nil)))) nd)
  (jss_cons (js_set (i := 3) (je_add je_int (je_cal r__law_take hr (by decide) tk (ja_cons true (je_var 1) (ja_cons true je_int ja_nil)))) nd)
  (jss_cons (js_if (jt_eq hu (je_cal r__law_take hr (by decide) tk (ja_cons true (je_var 1) (ja_cons true je_int ja_nil))) je_int) (jss_one (js_set (i := 3) (je_add je_int (je_cal r__law_take hr (by decide) tk (ja_cons true (je_var 1) (ja_cons true je_int ja_nil)))) nd)) jss_nil)
  (jss_cons (js_set (i := 4) (je_eq hu (je_cal r__law_take hr (by decide) tk (ja_cons true (je_var 1) (ja_cons true je_int ja_nil))) je_int) nd)
  (jss_cons (js_set (i := 5) (je_lst ja_nil) nd)
  (jss_cons (js_for (us := [6]) [7, 8, 9, 6] hps rfl (ji_r1 n_range (ja_cons true je_int ja_nil)) (jg_name nd)
    (jss_cons (js_set (i := 7) (je_add (je_cal r__law_take hr (by decide) tk (ja_cons true (je_var 1) (ja_cons true je_int ja_nil))) (je_mul je_int (je_cal r__law_take hr (by decide) tk (ja_cons true (je_var 1) (ja_cons true je_int ja_nil))))) nd)
    (jss_cons (js_set (i := 8) (je_cal r__law_take hr (by decide) tk (ja_cons true (je_var 1) (ja_cons true (je_var 3) ja_nil))) nd)
    (jss_cons (js_set (i := 9) (je_lst (ja_cons false (je_var 8) (ja_cons false (je_ix (je_lst (ja_cons false (je_var 8) (ja_cons false (je_cal r__law_take hr (by decide) tk (ja_cons true (je_var 1) (ja_cons true (je_var 3) ja_nil))) ja_nil))) (je_cal r__law_take hr (by decide) tk (ja_cons true (je_var 1) (ja_cons true je_int ja_nil)))) ja_nil))) nd)
    (jss_one (js_expr (je_append (pv 5) (ja_cons false (je_tup (ja_cons false (je_var 9) (ja_cons false (je_add (je_var 7) (je_mul je_int (je_cal r__law_take hr (by decide) tk (ja_cons true (je_var 1) (ja_cons true je_int ja_nil))))) ja_nil))) ja_nil))))))))
  (jss_cons (js_set (i := 10) (je_calN r__law_tree hr (by decide) tk (jn_cons true (je_var 0) (jn_here (je_listC n_list (ja_cons true (je_var 1) ja_nil)) (ja_cons true (je_var 2) (ja_cons true (je_var 3) (ja_cons true (je_var 4) (ja_cons true (je_lst ja_nil) (ja_cons true (je_neg je_int) ja_nil)))))))) nd)
  (jss_cons (js_if (jt_w (jw_or (jt_notN (je_cal r__law_check hr (by decide) tk (ja_cons true (je_var 10) (ja_cons true (je_var 2) ja_nil))) je_non) (jw_or1 (jt_notN (je_cal r__law_check hr (by decide) tk (ja_cons true (je_tup (ja_cons false je_str (ja_cons false (je_tup ja_nil) ja_nil))) (ja_cons true (je_var 2) ja_nil))) je_non)))) (jss_one (js_ret je_bl)) jss_nil)
  (jss_cons (js_if (jt_w (jw_or (jt_notN (je_cal r__law_check hr (by decide) tk (ja_cons true (je_tup (ja_cons false je_str (ja_cons false (je_sub (je_var 2) je_int) ja_nil))) (ja_cons true (je_var 2) ja_nil))) je_non) (jw_or1 (jt_ne hu (je_cal r__law_check hr (by decide) tk (ja_cons true (je_tup (ja_cons false je_str (ja_cons false (je_var 2) ja_nil))) (ja_cons true (je_var 2) ja_nil))) (je_cal r__law_error hr (by decide) tk (ja_cons true je_str ja_nil)))))) (jss_one (js_ret je_bl)) jss_nil)
  (jss_cons (js_for (us := [7]) [11, 7] hps rfl (ji_seq (je_var 5)) (jg_name nd)
    (jss_cons (js_set (i := 11) (je_calN r__law_tree hr (by decide) tk (jn_cons true (je_var 0) (jn_here (je_listC n_list (ja_cons true (je_var 1) ja_nil)) (ja_cons true (je_var 2) (ja_cons true (je_var 3) (ja_cons true (je_var 4) (ja_cons true (je_ix (je_var 7) je_int) (ja_cons true (je_ix (je_var 7) je_int) ja_nil)))))))) nd)
    (jss_one (js_if (jt_ne hu (je_cal r__law_check hr (by decide) tk (ja_cons true (je_var 11) (ja_cons true (je_var 2) ja_nil))) (je_cal r__law_error hr (by decide) tk (ja_cons true je_str ja_nil))) (jss_one (js_ret je_bl)) jss_nil))))
  (jss_one (js_ret (je_isN (je_cal r__law_check hr (by decide) tk (ja_cons true (je_var 10) (ja_cons true (je_var 2) ja_nil))) je_non))))))))))))))
/-! ### the end -/
theorem fn_law {P : Program} {w : World} {K : PySem.W.Frag} {mg : Str → Option Value} {h base : Heap} {fd : FuncData} (F : FunD K "law" "law" (defArgs s_law) (defBody s_law) (defScope s_law) [] [] (He.ga K "law") fd) (X0 : K.In h) (G0 : h.Ns mainGlobals mg) (c : Says w h K) : FnOk P w K mg base (L2.CX P w) 44 (He.ga K "law") fd p_law (spM K mg p_law.length m_law) := by
  have n_range := n_range X0 G0 c
  have n_list := n_list X0 G0 c
  have r__law_draws := cal__law_draws (P := P) (base := base) X0 G0 c
  have r__law_take := cal__law_take (P := P) (base := base) X0 G0 c
  have r__law_tree := cal__law_tree (P := P) (base := base) X0 G0 c
  have r__law_check := cal__law_check (P := P) (base := base) X0 G0 c
  have r__law_error := cal__law_error (P := P) (base := base) X0 G0 c
  have a4 : mDef p_law.length (N_law.length - p_law.length) g_law = m_law := rfl
  rw [← a4]
  refine fn_mk (k := 43) F sc_law fun X W cdv A outer s H E eX eW hr tk hps hu => ?_
  subst eX eW
  have nd := sc_law.nd
  exact (jss_cons (js_set (i := 1) (je_cal r__law_draws hr (by decide) tk (ja_cons true (je_var 0) (ja_cons true je_int ja_nil))) nd)
  (jss_cons (js_set (i := 2) (je_add je_int (je_cal r__law_take hr (by decide) tk (ja_cons true (je_var 1) (ja_cons true je_int ja_nil)))) nd)
  (jss_cons (js_set (i := 3) (je_add je_int (je_cal r__law_take hr (by decide) tk (ja_cons true (je_var 1) (ja_cons true je_int ja_nil)))) nd)
  (jss_cons (js_if (jt_eq hu (je_cal r__law_take hr (by decide) tk (ja_cons true (je_var 1) (ja_cons true je_int ja_nil))) je_int) (jss_one (js_set (i := 3) (je_add je_int (je_cal r__law_take hr (by decide) tk (ja_cons true (je_var 1) (ja_cons true je_int ja_nil)))) nd)) jss_nil)
  (jss_cons (js_set (i := 4) (je_eq hu (je_cal r__law_take hr (by decide) tk (ja_cons true (je_var 1) (ja_cons true je_int ja_nil))) je_int) nd)
  (jss_cons (js_set (i := 5) (je_lst ja_nil) nd)
  (jss_cons (js_for (us := [6]) [7, 8, 9, 6] hps rfl (ji_r1 n_range (ja_cons true je_int ja_nil)) (jg_name nd)
    (jss_cons (js_set (i := 7) (je_add (je_cal r__law_take hr (by decide) tk (ja_cons true (je_var 1) (ja_cons true je_int ja_nil))) (je_mul je_int (je_cal r__law_take hr (by decide) tk (ja_cons true (je_var 1) (ja_cons true je_int ja_nil))))) nd)
    (jss_cons (js_set (i := 8) (je_cal r__law_take hr (by decide) tk (ja_cons true (je_var 1) (ja_cons true (je_var 3) ja_nil))) nd)
    (jss_cons (js_set (i := 9) (je_lst (ja_cons false (je_var 8) (ja_cons false (je_ix (je_lst (ja_cons false (je_var 8) (ja_cons false (je_cal r__law_take hr (by decide) tk (ja_cons true (je_var 1) (ja_cons true (je_var 3) ja_nil))) ja_nil))) (je_cal r__law_take hr (by decide) tk (ja_cons true (je_var 1) (ja_cons true je_int ja_nil)))) ja_nil))) nd)
    (jss_one (js_expr (je_append (pv 5) (ja_cons false (je_tup (ja_cons false (je_var 9) (ja_cons false (je_add (je_var 7) (je_mul je_int (je_cal r__law_take hr (by decide) tk (ja_cons true (je_var 1) (ja_cons true je_int ja_nil))))) ja_nil))) ja_nil))))))))
  (jss_cons (js_set (i := 10) (je_calN r__law_tree hr (by decide) tk (jn_cons true (je_var 0) (jn_here (je_listC n_list (ja_cons true (je_var 1) ja_nil)) (ja_cons true (je_var 2) (ja_cons true (je_var 3) (ja_cons true (je_var 4) (ja_cons true (je_lst ja_nil) (ja_cons true (je_neg je_int) ja_nil)))))))) nd)
  (jss_cons (js_if (jt_w (jw_or (jt_notN (je_cal r__law_check hr (by decide) tk (ja_cons true (je_var 10) (ja_cons true (je_var 2) ja_nil))) je_non) (jw_or1 (jt_notN (je_cal r__law_check hr (by decide) tk (ja_cons true (je_tup (ja_cons false je_str (ja_cons false (je_tup ja_nil) ja_nil))) (ja_cons true (je_var 2) ja_nil))) je_non)))) (jss_one (js_ret je_bl)) jss_nil)
  (jss_cons (js_if (jt_w (jw_or (jt_notN (je_cal r__law_check hr (by decide) tk (ja_cons true (je_tup (ja_cons false je_str (ja_cons false (je_sub (je_var 2) je_int) ja_nil))) (ja_cons true (je_var 2) ja_nil))) je_non) (jw_or1 (jt_ne hu (je_cal r__law_check hr (by decide) tk (ja_cons true (je_tup (ja_cons false je_str (ja_cons false (je_var 2) ja_nil))) (ja_cons true (je_var 2) ja_nil))) (je_cal r__law_error hr (by decide) tk (ja_cons true je_str ja_nil)))))) (jss_one (js_ret je_bl)) jss_nil)
  (jss_cons (js_for (us := [7]) [11, 7] hps rfl (ji_seq (je_var 5)) (jg_name nd)
    (jss_cons (js_set (i := 11) (je_calN r__law_tree hr (by decide) tk (jn_cons true (je_var 0) (jn_here (je_listC n_list (ja_cons true (je_var 1) ja_nil)) (ja_cons true (je_var 2) (ja_cons true (je_var 3) (ja_cons true (je_var 4) (ja_cons true (je_ix (je_var 7) je_int) (ja_cons true (je_ix (je_var 7) je_int) ja_nil)))))))) nd)
    (jss_one (js_if (jt_ne hu (je_cal r__law_check hr (by decide) tk (ja_cons true (je_var 11) (ja_cons true (je_var 2) ja_nil))) (je_cal r__law_error hr (by decide) tk (ja_cons true je_str ja_nil))) (jss_one (js_ret je_bl)) jss_nil))))
  (jss_one (js_ret (je_isN (je_cal r__law_check hr (by decide) tk (ja_cons true (je_var 10) (ja_cons true (je_var 2) ja_nil))) je_non))))))))))))))
abbrev R : PySem.W.OpenRow := PySem.W.OpenLaw.row PySem.Challenge.rw_nosurebet_k01_check_word
abbrev hk : PySem.W.Hook := He.hookX 5 fa fn [] [] ex
def ob (s : PySem.W.SharedT) : He.AlX := He.obsX 5 fa fn [] [] ex (HandSHeadRun.getT s)
theorem ob_eq (s : PySem.W.SharedT) : ob s = hk.obs s.abs := He.obsX_eq (HandSHeadRun.getT_eq s)
def loose0 : List Str := ["BetError", "InvalidWord", "InvalidTable", "InvalidChances", "BadText", "NoBet", "NotTaken", "SureBet", "NothingToUndo", "NothingToRedo", "is_word", "check_word", "_law_draws", "_law_take", "_law_cell", "_law_error", "_law_check", "_law_strange", "_law_name", "_law_leaf", "_law_tree"]
def loose : List Str := loose0
theorem run (w : World) : HandSHeadRun.RunEq R (PySem.W.view R.prog [24]) hk ob 6000 loose w := by
  intro os
  kernel_rfl
theorem facts {w : World} {K : PySem.W.Frag} {mg : Str → Option Value} {h : Heap} {f : Addr} (X0 : K.In h) (G0 : h.Ns mainGlobals mg) (hfa : mg "law" = some (.ref f)) (c : Says w h K) :
    ∃ fd : FuncData, (∀ (s : Shared) (u : Value), BindsTo s fd ⟨[u], []⟩ [("script", u)]) ∧ ∀ base : Heap, K.In base → base.Ns mainGlobals mg → FnOk PySem.Challenge.rw_nosurebet_k01_check_word.prog w K mg base (L2.CX PySem.Challenge.rw_nosurebet_k01_check_word.prog w) 44 f fd ["script"] (spM K mg 1 m_law) := by
  obtain ⟨fd, F⟩ := c.t.d.def_ 11 (d := d_law) rfl
  have F : FunD K "law" "law" (defArgs s_law) (defBody s_law) (defScope s_law) [] [] (He.ga K "law") fd := F
  have e := hfa.symm.trans (o_law X0 G0 c)
  cases e
  have b := FunD.bindsA (ps := ["script"]) F fun _ _ _ _ _ _ us hl => match us, hl with | [_], _ => rfl
  exact ⟨fd, fun s v => b s [v] rfl, fun base _ _ => fn_law F X0 G0 c⟩
end K01
namespace K01
open Dl
open L2 (atI cutS)
theorem take_spec (vs : List Int) (k : Int) (hk : 0 < k) : ∃ (t : Int) (vs' : List Int), m__law_take [.ow true (.lst (vs.map D.int)), .fz (.int k)] = .rt (.fz (.int t)) [.ow true (.lst (vs'.map D.int)), .fz (.int k)] ∧ 0 ≤ t ∧ t < k := by
  rcases List.eq_nil_or_concat vs with h | ⟨r, v, h⟩
  · subst h
    refine ⟨0, [], ?_, by omega, by omega⟩
    unfold m__law_take g__law_take
    simp [bind_ok, bind_ex, bind_no, so_ok, so_ex, so_no, sSeq_ap, bS_nx, bS_rt, bS_ex, bS_bk, bS_ct, bS_no, sNil_ap, sBrk_ap, sCnt_ap, sRetN_ap, sRet_ap, sExpr_ap, kNx_ap, sSet_ap, asg_fz, asg_new, asg_at, setSl, sIf_ap, ifK_t, ifK_f, sRaise_ap, putK, sPut_ap, putAt, augK, tgK, sTg_ap, parK, sPar_ap, forK, sFor_ap, sWhile_ap, tryK, sTryM_ap, eVar_ap, eC_ap, e2b, e2_ap, e2a_ap, e1a, e1_ap, tb_ap, tbK_ap, trK, tr_ap, truth, bAnd_ap, bOr_ap, bNot_ap, andK_t, andK_f, orK_t, orK_f, notK_ap, bYes_ap, eAnd_ap, eOr_ap, eNot_ap, eandK_t, eandK_f, eorK_t, eorK_f, enotK_ap, eIf_ap, eifK_t, eifK_f, eCh_ap, ch1_ap, chA, chB_t, chB_f, chC, aNil_ap, aCons_ap, acK_ap, acM_some, acM_none, acL_ap, cbK, eCB_ap, tupK, lstK, eTup_ap, eLst_ap, mtK, eMt_ap, slC, eSl_ap, slA_ap, slB_ap, eo_none, eo_some, eoK_ap, eCall_ap, callM_ap, callR_fz, callR_new, callR_ex, nHere_ap, nhK_new, nhL_ap, ncL, ncK, nCons_ap, cnK, eCallN_ap, dropR, itK, eIt_ap, r1K, r2K, eR1_ap, eR2_ap, eLc_ap, hName_ap, hTup_ap, hNil_ap, hCons_ap, hcK_ap, peek, freeze, arg, peeks, peekA, dsOf, stAppend, stPop, stPopAt, stRev, okI, okB, okS, dAdd, dSub, dMulL, dDiv, dMod, dPow, dNeg, dLt, dLe, dGt, dGe, dIsN, dNotN, isNon, gLen, dLen, gInt, gAbs, gMin2, gMax2, gSum, gAll, gAny, gMin, gMax, gGcd, gList, gTuple, gStr, dIx, dSl, slots, atIx, backs, Dl.put, dTy, dEq_int, dEq_str, dNe_int, outT, back, kill, un1, nxtI_nx, nxtI_ct, nxrI_nx, nxrI_ct, nxrI_rt, lcB_t, lcB_f, lcT_ok, mDef_ap, mdR_nx, mdR_ex, mdR_rt, tyBool, tyInt, tyStr, tyTuple, tyList, List.getElem?_cons_zero, List.getElem?_cons_succ, List.getElem?_nil, List.set_cons_zero, List.set_cons_succ, List.set_nil, List.length_cons, List.length_nil, List.replicate_succ, List.replicate_zero, List.cons_append, List.nil_append, List.append_nil, ite_true, ite_false, if_true, if_false, Option.map_some, Option.map_none, reduceIte, List.nodup_nil, List.nodup_cons, List.not_mem_nil, not_false_eq_true, and_self, Option.bind_some, Option.getD_some, decide_true, decide_false, Bool.false_eq_true, Bool.true_eq_false, PySem.sizeLine_eq]
  · subst h
    refine ⟨v.fmod k, r, ?_, Int.fmod_nonneg_of_pos v hk, Int.fmod_lt_of_pos v hk⟩
    unfold m__law_take g__law_take
    have hk' : k ≠ 0 := by omega
    have h0 : ¬ ((r.length : Int) + 1 = 0) := by omega
    simp [bind_ok, bind_ex, bind_no, so_ok, so_ex, so_no, sSeq_ap, bS_nx, bS_rt, bS_ex, bS_bk, bS_ct, bS_no, sNil_ap, sBrk_ap, sCnt_ap, sRetN_ap, sRet_ap, sExpr_ap, kNx_ap, sSet_ap, asg_fz, asg_new, asg_at, setSl, sIf_ap, ifK_t, ifK_f, sRaise_ap, putK, sPut_ap, putAt, augK, tgK, sTg_ap, parK, sPar_ap, forK, sFor_ap, sWhile_ap, tryK, sTryM_ap, eVar_ap, eC_ap, e2b, e2_ap, e2a_ap, e1a, e1_ap, tb_ap, tbK_ap, trK, tr_ap, truth, bAnd_ap, bOr_ap, bNot_ap, andK_t, andK_f, orK_t, orK_f, notK_ap, bYes_ap, eAnd_ap, eOr_ap, eNot_ap, eandK_t, eandK_f, eorK_t, eorK_f, enotK_ap, eIf_ap, eifK_t, eifK_f, eCh_ap, ch1_ap, chA, chB_t, chB_f, chC, aNil_ap, aCons_ap, acK_ap, acM_some, acM_none, acL_ap, cbK, eCB_ap, tupK, lstK, eTup_ap, eLst_ap, mtK, eMt_ap, slC, eSl_ap, slA_ap, slB_ap, eo_none, eo_some, eoK_ap, eCall_ap, callM_ap, callR_fz, callR_new, callR_ex, nHere_ap, nhK_new, nhL_ap, ncL, ncK, nCons_ap, cnK, eCallN_ap, dropR, itK, eIt_ap, r1K, r2K, eR1_ap, eR2_ap, eLc_ap, hName_ap, hTup_ap, hNil_ap, hCons_ap, hcK_ap, peek, freeze, arg, peeks, peekA, dsOf, stAppend, stPop, stPopAt, stRev, okI, okB, okS, dAdd, dSub, dMulL, dDiv, dMod, dPow, dNeg, dLt, dLe, dGt, dGe, dIsN, dNotN, isNon, gLen, dLen, gInt, gAbs, gMin2, gMax2, gSum, gAll, gAny, gMin, gMax, gGcd, gList, gTuple, gStr, dIx, dSl, slots, atIx, backs, Dl.put, dTy, dEq_int, dEq_str, dNe_int, outT, back, kill, un1, nxtI_nx, nxtI_ct, nxrI_nx, nxrI_ct, nxrI_rt, lcB_t, lcB_f, lcT_ok, mDef_ap, mdR_nx, mdR_ex, mdR_rt, tyBool, tyInt, tyStr, tyTuple, tyList, List.getElem?_cons_zero, List.getElem?_cons_succ, List.getElem?_nil, List.set_cons_zero, List.set_cons_succ, List.set_nil, List.length_cons, List.length_nil, List.replicate_succ, List.replicate_zero, List.cons_append, List.nil_append, List.append_nil, ite_true, ite_false, if_true, if_false, Option.map_some, Option.map_none, reduceIte, List.nodup_nil, List.nodup_cons, List.not_mem_nil, not_false_eq_true, and_self, Option.bind_some, Option.getD_some, decide_true, decide_false, Bool.false_eq_true, Bool.true_eq_false, PySem.sizeLine_eq, hk', h0]
theorem cell_spec (ns : List Int) (at_ : Int) (hb : ∀ n ∈ ns, bits n ≤ 1048576) : ∃ t : Int, m__law_cell [.fz (.scr (ns.map D.int)), .fz (.int at_)] = .rt (.fz (.int t)) [.fz (.scr (ns.map D.int)), .fz (.int at_)] ∧ bits t ≤ 1048576 := by
  by_cases h : ns = []
  · subst h
    refine ⟨0, ?_, by decide⟩
    unfold m__law_cell g__law_cell
    simp [bind_ok, bind_ex, bind_no, so_ok, so_ex, so_no, sSeq_ap, bS_nx, bS_rt, bS_ex, bS_bk, bS_ct, bS_no, sNil_ap, sBrk_ap, sCnt_ap, sRetN_ap, sRet_ap, sExpr_ap, kNx_ap, sSet_ap, asg_fz, asg_new, asg_at, setSl, sIf_ap, ifK_t, ifK_f, sRaise_ap, putK, sPut_ap, putAt, augK, tgK, sTg_ap, parK, sPar_ap, forK, sFor_ap, sWhile_ap, tryK, sTryM_ap, eVar_ap, eC_ap, e2b, e2_ap, e2a_ap, e1a, e1_ap, tb_ap, tbK_ap, trK, tr_ap, truth, bAnd_ap, bOr_ap, bNot_ap, andK_t, andK_f, orK_t, orK_f, notK_ap, bYes_ap, eAnd_ap, eOr_ap, eNot_ap, eandK_t, eandK_f, eorK_t, eorK_f, enotK_ap, eIf_ap, eifK_t, eifK_f, eCh_ap, ch1_ap, chA, chB_t, chB_f, chC, aNil_ap, aCons_ap, acK_ap, acM_some, acM_none, acL_ap, cbK, eCB_ap, tupK, lstK, eTup_ap, eLst_ap, mtK, eMt_ap, slC, eSl_ap, slA_ap, slB_ap, eo_none, eo_some, eoK_ap, eCall_ap, callM_ap, callR_fz, callR_new, callR_ex, nHere_ap, nhK_new, nhL_ap, ncL, ncK, nCons_ap, cnK, eCallN_ap, dropR, itK, eIt_ap, r1K, r2K, eR1_ap, eR2_ap, eLc_ap, hName_ap, hTup_ap, hNil_ap, hCons_ap, hcK_ap, peek, freeze, arg, peeks, peekA, dsOf, stAppend, stPop, stPopAt, stRev, okI, okB, okS, dAdd, dSub, dMulL, dDiv, dMod, dPow, dNeg, dLt, dLe, dGt, dGe, dIsN, dNotN, isNon, gLen, dLen, gInt, gAbs, gMin2, gMax2, gSum, gAll, gAny, gMin, gMax, gGcd, gList, gTuple, gStr, dIx, dSl, slots, atIx, backs, Dl.put, dTy, dEq_int, dEq_str, dNe_int, outT, back, kill, un1, nxtI_nx, nxtI_ct, nxrI_nx, nxrI_ct, nxrI_rt, lcB_t, lcB_f, lcT_ok, mDef_ap, mdR_nx, mdR_ex, mdR_rt, tyBool, tyInt, tyStr, tyTuple, tyList, List.getElem?_cons_zero, List.getElem?_cons_succ, List.getElem?_nil, List.set_cons_zero, List.set_cons_succ, List.set_nil, List.length_cons, List.length_nil, List.replicate_succ, List.replicate_zero, List.cons_append, List.nil_append, List.append_nil, ite_true, ite_false, if_true, if_false, Option.map_some, Option.map_none, reduceIte, List.nodup_nil, List.nodup_cons, List.not_mem_nil, not_false_eq_true, and_self, Option.bind_some, Option.getD_some, decide_true, decide_false, Bool.false_eq_true, Bool.true_eq_false, PySem.sizeLine_eq]
  · have hl : 0 < ns.length := List.length_pos_iff.mpr h
    have h0 : ¬ ((ns.length : Int) = 0) := by omega
    have h1 : ¬ (ns.length = 0) := by omega
    have hp : (0 : Int) < ns.length := by omega
    have ha := Int.fmod_nonneg_of_pos at_ hp
    have hb2 := Int.fmod_lt_of_pos at_ hp
    have hi : at_.fmod ns.length < ((ns.map D.int).length : Int) := by simpa using hb2
    refine ⟨ns[(at_.fmod ns.length).toNat]'(by omega), ?_, hb _ (List.getElem_mem _)⟩
    unfold m__law_cell g__law_cell
    have e := atI_lt (ns.map D.int) ha hi
    rw [List.getElem_map] at e
    simp [bind_ok, bind_ex, bind_no, so_ok, so_ex, so_no, sSeq_ap, bS_nx, bS_rt, bS_ex, bS_bk, bS_ct, bS_no, sNil_ap, sBrk_ap, sCnt_ap, sRetN_ap, sRet_ap, sExpr_ap, kNx_ap, sSet_ap, asg_fz, asg_new, asg_at, setSl, sIf_ap, ifK_t, ifK_f, sRaise_ap, putK, sPut_ap, putAt, augK, tgK, sTg_ap, parK, sPar_ap, forK, sFor_ap, sWhile_ap, tryK, sTryM_ap, eVar_ap, eC_ap, e2b, e2_ap, e2a_ap, e1a, e1_ap, tb_ap, tbK_ap, trK, tr_ap, truth, bAnd_ap, bOr_ap, bNot_ap, andK_t, andK_f, orK_t, orK_f, notK_ap, bYes_ap, eAnd_ap, eOr_ap, eNot_ap, eandK_t, eandK_f, eorK_t, eorK_f, enotK_ap, eIf_ap, eifK_t, eifK_f, eCh_ap, ch1_ap, chA, chB_t, chB_f, chC, aNil_ap, aCons_ap, acK_ap, acM_some, acM_none, acL_ap, cbK, eCB_ap, tupK, lstK, eTup_ap, eLst_ap, mtK, eMt_ap, slC, eSl_ap, slA_ap, slB_ap, eo_none, eo_some, eoK_ap, eCall_ap, callM_ap, callR_fz, callR_new, callR_ex, nHere_ap, nhK_new, nhL_ap, ncL, ncK, nCons_ap, cnK, eCallN_ap, dropR, itK, eIt_ap, r1K, r2K, eR1_ap, eR2_ap, eLc_ap, hName_ap, hTup_ap, hNil_ap, hCons_ap, hcK_ap, peek, freeze, arg, peeks, peekA, dsOf, stAppend, stPop, stPopAt, stRev, okI, okB, okS, dAdd, dSub, dMulL, dDiv, dMod, dPow, dNeg, dLt, dLe, dGt, dGe, dIsN, dNotN, isNon, gLen, dLen, gInt, gAbs, gMin2, gMax2, gSum, gAll, gAny, gMin, gMax, gGcd, gList, gTuple, gStr, dIx, dSl, slots, atIx, backs, Dl.put, dTy, dEq_int, dEq_str, dNe_int, outT, back, kill, un1, nxtI_nx, nxtI_ct, nxrI_nx, nxrI_ct, nxrI_rt, lcB_t, lcB_f, lcT_ok, mDef_ap, mdR_nx, mdR_ex, mdR_rt, tyBool, tyInt, tyStr, tyTuple, tyList, List.getElem?_cons_zero, List.getElem?_cons_succ, List.getElem?_nil, List.set_cons_zero, List.set_cons_succ, List.set_nil, List.length_cons, List.length_nil, List.replicate_succ, List.replicate_zero, List.cons_append, List.nil_append, List.append_nil, ite_true, ite_false, if_true, if_false, Option.map_some, Option.map_none, reduceIte, List.nodup_nil, List.nodup_cons, List.not_mem_nil, not_false_eq_true, and_self, Option.bind_some, Option.getD_some, decide_true, decide_false, Bool.false_eq_true, Bool.true_eq_false, PySem.sizeLine_eq, h0, h1, h, e]
/-! ### names -/
def told : List PySem.Str := ["is", "not", "all", "any"]
theorem in_told (x : PySem.Str) (env : En) : dIn (.str x) (.lst [.str "is", .str "not", .str "all", .str "any"]) env = okB (decide (x ∈ told)) env := dIn_strsL x told env
theorem not_told {x : PySem.Str} {c : Nat} (h : x.cps.toList.getLast? = some c) (hc : c ∉ [115, 116, 108, 121]) : x ∉ told := by
  intro z
  have q : ∀ y ∈ told, ∃ c ∈ [115, 116, 108, 121], y.cps.toList.getLast? = some c := by decide +kernel
  obtain ⟨d, h1, h2⟩ := q x z
  rw [h] at h2
  cases h2
  exact hc h1
def sg : PySem.Str := "abdefghilnosty0 (_IA.1"
theorem sg_len : sg.length = 22 := by decide +kernel
theorem sg_at (i : Int) (h0 : 0 ≤ i) (h : i < 22) : ∃ c, atI sg.cps.toList i = some c := by
  have hl : sg.cps.toList.length = 22 := by decide +kernel
  exact ⟨_, atI_lt sg.cps.toList h0 (by rw [hl]; exact h)⟩
theorem line_of {n : Nat} (h : n ≤ 100) : n ≤ PySem.sizeLine := Nat.le_trans h (by rw [PySem.sizeLine_eq]; decide)
theorem strange_spec (code : Int) (word : PySem.Str) (hw : word ∈ told) : ∃ s : PySem.Str, s ∉ told ∧ s.length ≤ 50 ∧ m__law_strange [.fz (.int code), .fz (.str word)] = .rt (.fz (.str s)) [.fz (.int code), .fz (.str word)] := by
  have hwl : 0 < word.length ∧ word.length ≤ 3 := by
    have q : ∀ y ∈ told, 0 < y.length ∧ y.length ≤ 3 := by decide +kernel
    exact q word hw
  unfold m__law_strange g__law_strange
  have he0 : (PySem.Str.ofString "").length = 0 := by decide +kernel
  have hu1 : (PySem.Str.ofString "_").length = 1 := by decide +kernel
  have hway0 := Int.fmod_nonneg_of_pos code (show (0:Int) < 4 by decide)
  have hway1 := Int.fmod_lt_of_pos code (show (0:Int) < 4 by decide)
  have hb4 : bits 4 < 9000 := by decide
  have hb22 : bits 22 < 9000 := by decide
  generalize hsg : PySem.Str.ofString "abdefghilnosty0 (_IA.1" = sg'
  have hsg : sg' = sg := hsg.symm
  subst hsg
  generalize PySem.Str.ofString "" = em at *
  generalize hway : code.fmod 4 = way at *
  have hr4 : (rng 0 4).length = 4 := rfl
  simp [bind_ok, bind_ex, bind_no, so_ok, so_ex, so_no, sSeq_ap, bS_nx, bS_rt, bS_ex, bS_bk, bS_ct, bS_no, sNil_ap, sBrk_ap, sCnt_ap, sRetN_ap, sRet_ap, sExpr_ap, kNx_ap, sSet_ap, asg_fz, asg_new, asg_at, setSl, sIf_ap, ifK_t, ifK_f, sRaise_ap, putK, sPut_ap, putAt, augK, tgK, sTg_ap, parK, sPar_ap, forK, sFor_ap, sWhile_ap, tryK, sTryM_ap, eVar_ap, eC_ap, e2b, e2_ap, e2a_ap, e1a, e1_ap, tb_ap, tbK_ap, trK, tr_ap, truth, bAnd_ap, bOr_ap, bNot_ap, andK_t, andK_f, orK_t, orK_f, notK_ap, bYes_ap, eAnd_ap, eOr_ap, eNot_ap, eandK_t, eandK_f, eorK_t, eorK_f, enotK_ap, eIf_ap, eifK_t, eifK_f, eCh_ap, ch1_ap, chA, chB_t, chB_f, chC, aNil_ap, aCons_ap, acK_ap, acM_some, acM_none, acL_ap, cbK, eCB_ap, tupK, lstK, eTup_ap, eLst_ap, mtK, eMt_ap, slC, eSl_ap, slA_ap, slB_ap, eo_none, eo_some, eoK_ap, eCall_ap, callM_ap, callR_fz, callR_new, callR_ex, nHere_ap, nhK_new, nhL_ap, ncL, ncK, nCons_ap, cnK, eCallN_ap, dropR, itK, eIt_ap, r1K, r2K, eR1_ap, eR2_ap, eLc_ap, hName_ap, hTup_ap, hNil_ap, hCons_ap, hcK_ap, peek, freeze, arg, peeks, peekA, dsOf, stAppend, stPop, stPopAt, stRev, okI, okB, okS, dAdd, dSub, dMulL, dDiv, dMod, dPow, dNeg, dLt, dLe, dGt, dGe, dIsN, dNotN, isNon, gLen, dLen, gInt, gAbs, gMin2, gMax2, gSum, gAll, gAny, gMin, gMax, gGcd, gList, gTuple, gStr, dIx, dSl, slots, atIx, backs, Dl.put, dTy, dEq_int, dEq_str, dNe_int, outT, back, kill, un1, nxtI_nx, nxtI_ct, nxrI_nx, nxrI_ct, nxrI_rt, lcB_t, lcB_f, lcT_ok, mDef_ap, mdR_nx, mdR_ex, mdR_rt, tyBool, tyInt, tyStr, tyTuple, tyList, List.getElem?_cons_zero, List.getElem?_cons_succ, List.getElem?_nil, List.set_cons_zero, List.set_cons_succ, List.set_nil, List.length_cons, List.length_nil, List.replicate_succ, List.replicate_zero, List.cons_append, List.nil_append, List.append_nil, ite_true, ite_false, if_true, if_false, Option.map_some, Option.map_none, reduceIte, List.nodup_nil, List.nodup_cons, List.not_mem_nil, not_false_eq_true, and_self, Option.bind_some, Option.getD_some, decide_true, decide_false, Bool.false_eq_true, Bool.true_eq_false, PySem.sizeLine_eq, hb4, hway]
  generalize hf : forD _ _ _ _ _ = r
  obtain ⟨envN, rfl, c, drawn, rfl, hd⟩ := forD_at hf (fun i env => ∃ (c : Int) (drawn : PySem.Str), env = [.fz (.int c), .fz (.str word), .fz (.str sg), .fz (.str drawn), .fz (.int way), .un, .un, .un] ∧ drawn.length ≤ i)
    ⟨_, _, rfl, by omega⟩ (fun i d e hdi ⟨c, drawn, he, hl⟩ => by
      have hi : i < 4 := (List.getElem?_eq_some_iff.mp hdi).1
      subst he
      refine ⟨_, rfl, ?_⟩
      by_cases hc : 0 < c
      · have b0 := Int.fmod_nonneg_of_pos c (show (0:Int) < 22 by decide)
        have b1 := Int.fmod_lt_of_pos c (show (0:Int) < 22 by decide)
        obtain ⟨x, hx⟩ := sg_at _ b0 b1
        have hx0 : (⟨#[x]⟩ : PySem.Str).length = 1 := rfl
        have hx1 : drawn.length + 1 ≤ 16777216 := by omega
        simp [bind_ok, bind_ex, bind_no, so_ok, so_ex, so_no, sSeq_ap, bS_nx, bS_rt, bS_ex, bS_bk, bS_ct, bS_no, sNil_ap, sBrk_ap, sCnt_ap, sRetN_ap, sRet_ap, sExpr_ap, kNx_ap, sSet_ap, asg_fz, asg_new, asg_at, setSl, sIf_ap, ifK_t, ifK_f, sRaise_ap, putK, sPut_ap, putAt, augK, tgK, sTg_ap, parK, sPar_ap, forK, sFor_ap, sWhile_ap, tryK, sTryM_ap, eVar_ap, eC_ap, e2b, e2_ap, e2a_ap, e1a, e1_ap, tb_ap, tbK_ap, trK, tr_ap, truth, bAnd_ap, bOr_ap, bNot_ap, andK_t, andK_f, orK_t, orK_f, notK_ap, bYes_ap, eAnd_ap, eOr_ap, eNot_ap, eandK_t, eandK_f, eorK_t, eorK_f, enotK_ap, eIf_ap, eifK_t, eifK_f, eCh_ap, ch1_ap, chA, chB_t, chB_f, chC, aNil_ap, aCons_ap, acK_ap, acM_some, acM_none, acL_ap, cbK, eCB_ap, tupK, lstK, eTup_ap, eLst_ap, mtK, eMt_ap, slC, eSl_ap, slA_ap, slB_ap, eo_none, eo_some, eoK_ap, eCall_ap, callM_ap, callR_fz, callR_new, callR_ex, nHere_ap, nhK_new, nhL_ap, ncL, ncK, nCons_ap, cnK, eCallN_ap, dropR, itK, eIt_ap, r1K, r2K, eR1_ap, eR2_ap, eLc_ap, hName_ap, hTup_ap, hNil_ap, hCons_ap, hcK_ap, peek, freeze, arg, peeks, peekA, dsOf, stAppend, stPop, stPopAt, stRev, okI, okB, okS, dAdd, dSub, dMulL, dDiv, dMod, dPow, dNeg, dLt, dLe, dGt, dGe, dIsN, dNotN, isNon, gLen, dLen, gInt, gAbs, gMin2, gMax2, gSum, gAll, gAny, gMin, gMax, gGcd, gList, gTuple, gStr, dIx, dSl, slots, atIx, backs, Dl.put, dTy, dEq_int, dEq_str, dNe_int, outT, back, kill, un1, nxtI_nx, nxtI_ct, nxrI_nx, nxrI_ct, nxrI_rt, lcB_t, lcB_f, lcT_ok, mDef_ap, mdR_nx, mdR_ex, mdR_rt, tyBool, tyInt, tyStr, tyTuple, tyList, List.getElem?_cons_zero, List.getElem?_cons_succ, List.getElem?_nil, List.set_cons_zero, List.set_cons_succ, List.set_nil, List.length_cons, List.length_nil, List.replicate_succ, List.replicate_zero, List.cons_append, List.nil_append, List.append_nil, ite_true, ite_false, if_true, if_false, Option.map_some, Option.map_none, reduceIte, List.nodup_nil, List.nodup_cons, List.not_mem_nil, not_false_eq_true, and_self, Option.bind_some, Option.getD_some, decide_true, decide_false, Bool.false_eq_true, Bool.true_eq_false, PySem.sizeLine_eq, hc, sg_len, hx, hx0, hx1, hb22]
        exact ⟨_, _, ⟨rfl, rfl⟩, by rw [PySem.Str.length_append]; omega⟩
      · simp [bind_ok, bind_ex, bind_no, so_ok, so_ex, so_no, sSeq_ap, bS_nx, bS_rt, bS_ex, bS_bk, bS_ct, bS_no, sNil_ap, sBrk_ap, sCnt_ap, sRetN_ap, sRet_ap, sExpr_ap, kNx_ap, sSet_ap, asg_fz, asg_new, asg_at, setSl, sIf_ap, ifK_t, ifK_f, sRaise_ap, putK, sPut_ap, putAt, augK, tgK, sTg_ap, parK, sPar_ap, forK, sFor_ap, sWhile_ap, tryK, sTryM_ap, eVar_ap, eC_ap, e2b, e2_ap, e2a_ap, e1a, e1_ap, tb_ap, tbK_ap, trK, tr_ap, truth, bAnd_ap, bOr_ap, bNot_ap, andK_t, andK_f, orK_t, orK_f, notK_ap, bYes_ap, eAnd_ap, eOr_ap, eNot_ap, eandK_t, eandK_f, eorK_t, eorK_f, enotK_ap, eIf_ap, eifK_t, eifK_f, eCh_ap, ch1_ap, chA, chB_t, chB_f, chC, aNil_ap, aCons_ap, acK_ap, acM_some, acM_none, acL_ap, cbK, eCB_ap, tupK, lstK, eTup_ap, eLst_ap, mtK, eMt_ap, slC, eSl_ap, slA_ap, slB_ap, eo_none, eo_some, eoK_ap, eCall_ap, callM_ap, callR_fz, callR_new, callR_ex, nHere_ap, nhK_new, nhL_ap, ncL, ncK, nCons_ap, cnK, eCallN_ap, dropR, itK, eIt_ap, r1K, r2K, eR1_ap, eR2_ap, eLc_ap, hName_ap, hTup_ap, hNil_ap, hCons_ap, hcK_ap, peek, freeze, arg, peeks, peekA, dsOf, stAppend, stPop, stPopAt, stRev, okI, okB, okS, dAdd, dSub, dMulL, dDiv, dMod, dPow, dNeg, dLt, dLe, dGt, dGe, dIsN, dNotN, isNon, gLen, dLen, gInt, gAbs, gMin2, gMax2, gSum, gAll, gAny, gMin, gMax, gGcd, gList, gTuple, gStr, dIx, dSl, slots, atIx, backs, Dl.put, dTy, dEq_int, dEq_str, dNe_int, outT, back, kill, un1, nxtI_nx, nxtI_ct, nxrI_nx, nxrI_ct, nxrI_rt, lcB_t, lcB_f, lcT_ok, mDef_ap, mdR_nx, mdR_ex, mdR_rt, tyBool, tyInt, tyStr, tyTuple, tyList, List.getElem?_cons_zero, List.getElem?_cons_succ, List.getElem?_nil, List.set_cons_zero, List.set_cons_succ, List.set_nil, List.length_cons, List.length_nil, List.replicate_succ, List.replicate_zero, List.cons_append, List.nil_append, List.append_nil, ite_true, ite_false, if_true, if_false, Option.map_some, Option.map_none, reduceIte, List.nodup_nil, List.nodup_cons, List.not_mem_nil, not_false_eq_true, and_self, Option.bind_some, Option.getD_some, decide_true, decide_false, Bool.false_eq_true, Bool.true_eq_false, PySem.sizeLine_eq, hc]
        exact ⟨_, _, ⟨rfl, rfl⟩, by omega⟩)
  rw [hr4] at hd
  clear hf
  have hp : (0 : Int) < word.length := by omega
  have ha0 := Int.fmod_nonneg_of_pos (c + drawn.length) hp
  have ha1 := Int.fmod_lt_of_pos (c + drawn.length) hp
  have h1 : ¬ ((word.length : Int) = 0) := by omega
  have h1' : ¬ (word.length = 0) := by omega
  have h2 : word.length ≤ 16777216 := by omega
  have h3 : drawn.length ≤ 16777216 := by omega
  simp [bind_ok, bind_ex, bind_no, so_ok, so_ex, so_no, sSeq_ap, bS_nx, bS_rt, bS_ex, bS_bk, bS_ct, bS_no, sNil_ap, sBrk_ap, sCnt_ap, sRetN_ap, sRet_ap, sExpr_ap, kNx_ap, sSet_ap, asg_fz, asg_new, asg_at, setSl, sIf_ap, ifK_t, ifK_f, sRaise_ap, putK, sPut_ap, putAt, augK, tgK, sTg_ap, parK, sPar_ap, forK, sFor_ap, sWhile_ap, tryK, sTryM_ap, eVar_ap, eC_ap, e2b, e2_ap, e2a_ap, e1a, e1_ap, tb_ap, tbK_ap, trK, tr_ap, truth, bAnd_ap, bOr_ap, bNot_ap, andK_t, andK_f, orK_t, orK_f, notK_ap, bYes_ap, eAnd_ap, eOr_ap, eNot_ap, eandK_t, eandK_f, eorK_t, eorK_f, enotK_ap, eIf_ap, eifK_t, eifK_f, eCh_ap, ch1_ap, chA, chB_t, chB_f, chC, aNil_ap, aCons_ap, acK_ap, acM_some, acM_none, acL_ap, cbK, eCB_ap, tupK, lstK, eTup_ap, eLst_ap, mtK, eMt_ap, slC, eSl_ap, slA_ap, slB_ap, eo_none, eo_some, eoK_ap, eCall_ap, callM_ap, callR_fz, callR_new, callR_ex, nHere_ap, nhK_new, nhL_ap, ncL, ncK, nCons_ap, cnK, eCallN_ap, dropR, itK, eIt_ap, r1K, r2K, eR1_ap, eR2_ap, eLc_ap, hName_ap, hTup_ap, hNil_ap, hCons_ap, hcK_ap, peek, freeze, arg, peeks, peekA, dsOf, stAppend, stPop, stPopAt, stRev, okI, okB, okS, dAdd, dSub, dMulL, dDiv, dMod, dPow, dNeg, dLt, dLe, dGt, dGe, dIsN, dNotN, isNon, gLen, dLen, gInt, gAbs, gMin2, gMax2, gSum, gAll, gAny, gMin, gMax, gGcd, gList, gTuple, gStr, dIx, dSl, slots, atIx, backs, Dl.put, dTy, dEq_int, dEq_str, dNe_int, outT, back, kill, un1, nxtI_nx, nxtI_ct, nxrI_nx, nxrI_ct, nxrI_rt, lcB_t, lcB_f, lcT_ok, mDef_ap, mdR_nx, mdR_ex, mdR_rt, tyBool, tyInt, tyStr, tyTuple, tyList, List.getElem?_cons_zero, List.getElem?_cons_succ, List.getElem?_nil, List.set_cons_zero, List.set_cons_succ, List.set_nil, List.length_cons, List.length_nil, List.replicate_succ, List.replicate_zero, List.cons_append, List.nil_append, List.append_nil, ite_true, ite_false, if_true, if_false, Option.map_some, Option.map_none, reduceIte, List.nodup_nil, List.nodup_cons, List.not_mem_nil, not_false_eq_true, and_self, Option.bind_some, Option.getD_some, decide_true, decide_false, Bool.false_eq_true, Bool.true_eq_false, PySem.sizeLine_eq, h1, h1', h2, h3]
  generalize (c + (drawn.length : Int)).fmod word.length = at_ at *
  have l1 := len_cutS word none (some at_)
  have l2 := len_cutS word (some at_) none
  have l3 := len_cutS word (some (at_ + 1)) none
  have l4 := len_cutS drawn none (some 1)
  simp (disch := omega) [bind_ok, bind_ex, bind_no, so_ok, so_ex, so_no, sSeq_ap, bS_nx, bS_rt, bS_ex, bS_bk, bS_ct, bS_no, sNil_ap, sBrk_ap, sCnt_ap, sRetN_ap, sRet_ap, sExpr_ap, kNx_ap, sSet_ap, asg_fz, asg_new, asg_at, setSl, sIf_ap, ifK_t, ifK_f, sRaise_ap, putK, sPut_ap, putAt, augK, tgK, sTg_ap, parK, sPar_ap, forK, sFor_ap, sWhile_ap, tryK, sTryM_ap, eVar_ap, eC_ap, e2b, e2_ap, e2a_ap, e1a, e1_ap, tb_ap, tbK_ap, trK, tr_ap, truth, bAnd_ap, bOr_ap, bNot_ap, andK_t, andK_f, orK_t, orK_f, notK_ap, bYes_ap, eAnd_ap, eOr_ap, eNot_ap, eandK_t, eandK_f, eorK_t, eorK_f, enotK_ap, eIf_ap, eifK_t, eifK_f, eCh_ap, ch1_ap, chA, chB_t, chB_f, chC, aNil_ap, aCons_ap, acK_ap, acM_some, acM_none, acL_ap, cbK, eCB_ap, tupK, lstK, eTup_ap, eLst_ap, mtK, eMt_ap, slC, eSl_ap, slA_ap, slB_ap, eo_none, eo_some, eoK_ap, eCall_ap, callM_ap, callR_fz, callR_new, callR_ex, nHere_ap, nhK_new, nhL_ap, ncL, ncK, nCons_ap, cnK, eCallN_ap, dropR, itK, eIt_ap, r1K, r2K, eR1_ap, eR2_ap, eLc_ap, hName_ap, hTup_ap, hNil_ap, hCons_ap, hcK_ap, peek, freeze, arg, peeks, peekA, dsOf, stAppend, stPop, stPopAt, stRev, okI, okB, okS, dAdd, dSub, dMulL, dDiv, dMod, dPow, dNeg, dLt, dLe, dGt, dGe, dIsN, dNotN, isNon, gLen, dLen, gInt, gAbs, gMin2, gMax2, gSum, gAll, gAny, gMin, gMax, gGcd, gList, gTuple, gStr, dIx, dSl, slots, atIx, backs, Dl.put, dTy, dEq_int, dEq_str, dNe_int, outT, back, kill, un1, nxtI_nx, nxtI_ct, nxrI_nx, nxrI_ct, nxrI_rt, lcB_t, lcB_f, lcT_ok, mDef_ap, mdR_nx, mdR_ex, mdR_rt, tyBool, tyInt, tyStr, tyTuple, tyList, List.getElem?_cons_zero, List.getElem?_cons_succ, List.getElem?_nil, List.set_cons_zero, List.set_cons_succ, List.set_nil, List.length_cons, List.length_nil, List.replicate_succ, List.replicate_zero, List.cons_append, List.nil_append, List.append_nil, ite_true, ite_false, if_true, if_false, Option.map_some, Option.map_none, reduceIte, List.nodup_nil, List.nodup_cons, List.not_mem_nil, not_false_eq_true, and_self, Option.bind_some, Option.getD_some, decide_true, decide_false, Bool.false_eq_true, Bool.true_eq_false, PySem.sizeLine_eq, if_pos, PySem.Str.length_append]
  have fin : ∀ F : PySem.Str, F.length ≤ 12 → (F ∉ told → F ∉ told ∧ F.length ≤ 50) ∧ (F ++ drawn ++ ("_" : PySem.Str) ∉ told ∧ (F ++ drawn ++ ("_" : PySem.Str)).length ≤ 50) := fun F hF => by
    refine ⟨fun z => ⟨z, by omega⟩, not_told (c := 95) (app_last (by decide +kernel)) (by decide), ?_⟩
    rw [PySem.Str.length_append, PySem.Str.length_append]
    have : (("_" : PySem.Str)).length = 1 := hu1
    omega
  have key : ∀ F : PySem.Str, F.length ≤ 12 → ∀ G, (G = if F ∈ told then F ++ drawn ++ ("_" : PySem.Str) else F) → G ∉ told ∧ G.length ≤ 50 := fun F hF G e => by
    obtain ⟨a, b⟩ := fin F hF
    subst e
    by_cases hT : F ∈ told
    · rw [if_pos hT]; exact b
    · rw [if_neg hT]; exact a hT
  have hat : ∃ F : PySem.Str, F.length ≤ 12 ∧ atI [D.str drawn, D.str (word ++ drawn), D.str (cutS word none (some at_) ++ cutS drawn none (some 1) ++ cutS word (some (at_ + 1)) none), D.str (cutS word none (some at_) ++ drawn ++ cutS word (some at_) none)] way = some (D.str F) := by
    rcases (by omega : way = 0 ∨ way = 1 ∨ way = 2 ∨ way = 3) with z | z | z | z <;> rw [z]
    · exact ⟨_, by omega, rfl⟩
    · exact ⟨word ++ drawn, by rw [PySem.Str.length_append]; omega, rfl⟩
    · exact ⟨cutS word none (some at_) ++ cutS drawn none (some 1) ++ cutS word (some (at_ + 1)) none, by rw [PySem.Str.length_append, PySem.Str.length_append]; omega, rfl⟩
    · exact ⟨cutS word none (some at_) ++ drawn ++ cutS word (some at_) none, by rw [PySem.Str.length_append, PySem.Str.length_append]; omega, rfl⟩
  obtain ⟨F, hF, hat⟩ := hat
  by_cases hT : F ∈ told
  · refine ⟨F ++ drawn ++ ("_" : PySem.Str), (fin F hF).2.1, (fin F hF).2.2, ?_⟩
    simp (disch := omega) [bind_ok, bind_ex, bind_no, so_ok, so_ex, so_no, sSeq_ap, bS_nx, bS_rt, bS_ex, bS_bk, bS_ct, bS_no, sNil_ap, sBrk_ap, sCnt_ap, sRetN_ap, sRet_ap, sExpr_ap, kNx_ap, sSet_ap, asg_fz, asg_new, asg_at, setSl, sIf_ap, ifK_t, ifK_f, sRaise_ap, putK, sPut_ap, putAt, augK, tgK, sTg_ap, parK, sPar_ap, forK, sFor_ap, sWhile_ap, tryK, sTryM_ap, eVar_ap, eC_ap, e2b, e2_ap, e2a_ap, e1a, e1_ap, tb_ap, tbK_ap, trK, tr_ap, truth, bAnd_ap, bOr_ap, bNot_ap, andK_t, andK_f, orK_t, orK_f, notK_ap, bYes_ap, eAnd_ap, eOr_ap, eNot_ap, eandK_t, eandK_f, eorK_t, eorK_f, enotK_ap, eIf_ap, eifK_t, eifK_f, eCh_ap, ch1_ap, chA, chB_t, chB_f, chC, aNil_ap, aCons_ap, acK_ap, acM_some, acM_none, acL_ap, cbK, eCB_ap, tupK, lstK, eTup_ap, eLst_ap, mtK, eMt_ap, slC, eSl_ap, slA_ap, slB_ap, eo_none, eo_some, eoK_ap, eCall_ap, callM_ap, callR_fz, callR_new, callR_ex, nHere_ap, nhK_new, nhL_ap, ncL, ncK, nCons_ap, cnK, eCallN_ap, dropR, itK, eIt_ap, r1K, r2K, eR1_ap, eR2_ap, eLc_ap, hName_ap, hTup_ap, hNil_ap, hCons_ap, hcK_ap, peek, freeze, arg, peeks, peekA, dsOf, stAppend, stPop, stPopAt, stRev, okI, okB, okS, dAdd, dSub, dMulL, dDiv, dMod, dPow, dNeg, dLt, dLe, dGt, dGe, dIsN, dNotN, isNon, gLen, dLen, gInt, gAbs, gMin2, gMax2, gSum, gAll, gAny, gMin, gMax, gGcd, gList, gTuple, gStr, dIx, dSl, slots, atIx, backs, Dl.put, dTy, dEq_int, dEq_str, dNe_int, outT, back, kill, un1, nxtI_nx, nxtI_ct, nxrI_nx, nxrI_ct, nxrI_rt, lcB_t, lcB_f, lcT_ok, mDef_ap, mdR_nx, mdR_ex, mdR_rt, tyBool, tyInt, tyStr, tyTuple, tyList, List.getElem?_cons_zero, List.getElem?_cons_succ, List.getElem?_nil, List.set_cons_zero, List.set_cons_succ, List.set_nil, List.length_cons, List.length_nil, List.replicate_succ, List.replicate_zero, List.cons_append, List.nil_append, List.append_nil, ite_true, ite_false, if_true, if_false, Option.map_some, Option.map_none, reduceIte, List.nodup_nil, List.nodup_cons, List.not_mem_nil, not_false_eq_true, and_self, Option.bind_some, Option.getD_some, decide_true, decide_false, Bool.false_eq_true, Bool.true_eq_false, PySem.sizeLine_eq, hat, in_told, hT, if_pos, PySem.Str.length_append, hu1]
  · refine ⟨F, hT, by omega, ?_⟩
    simp (disch := omega) [bind_ok, bind_ex, bind_no, so_ok, so_ex, so_no, sSeq_ap, bS_nx, bS_rt, bS_ex, bS_bk, bS_ct, bS_no, sNil_ap, sBrk_ap, sCnt_ap, sRetN_ap, sRet_ap, sExpr_ap, kNx_ap, sSet_ap, asg_fz, asg_new, asg_at, setSl, sIf_ap, ifK_t, ifK_f, sRaise_ap, putK, sPut_ap, putAt, augK, tgK, sTg_ap, parK, sPar_ap, forK, sFor_ap, sWhile_ap, tryK, sTryM_ap, eVar_ap, eC_ap, e2b, e2_ap, e2a_ap, e1a, e1_ap, tb_ap, tbK_ap, trK, tr_ap, truth, bAnd_ap, bOr_ap, bNot_ap, andK_t, andK_f, orK_t, orK_f, notK_ap, bYes_ap, eAnd_ap, eOr_ap, eNot_ap, eandK_t, eandK_f, eorK_t, eorK_f, enotK_ap, eIf_ap, eifK_t, eifK_f, eCh_ap, ch1_ap, chA, chB_t, chB_f, chC, aNil_ap, aCons_ap, acK_ap, acM_some, acM_none, acL_ap, cbK, eCB_ap, tupK, lstK, eTup_ap, eLst_ap, mtK, eMt_ap, slC, eSl_ap, slA_ap, slB_ap, eo_none, eo_some, eoK_ap, eCall_ap, callM_ap, callR_fz, callR_new, callR_ex, nHere_ap, nhK_new, nhL_ap, ncL, ncK, nCons_ap, cnK, eCallN_ap, dropR, itK, eIt_ap, r1K, r2K, eR1_ap, eR2_ap, eLc_ap, hName_ap, hTup_ap, hNil_ap, hCons_ap, hcK_ap, peek, freeze, arg, peeks, peekA, dsOf, stAppend, stPop, stPopAt, stRev, okI, okB, okS, dAdd, dSub, dMulL, dDiv, dMod, dPow, dNeg, dLt, dLe, dGt, dGe, dIsN, dNotN, isNon, gLen, dLen, gInt, gAbs, gMin2, gMax2, gSum, gAll, gAny, gMin, gMax, gGcd, gList, gTuple, gStr, dIx, dSl, slots, atIx, backs, Dl.put, dTy, dEq_int, dEq_str, dNe_int, outT, back, kill, un1, nxtI_nx, nxtI_ct, nxrI_nx, nxrI_ct, nxrI_rt, lcB_t, lcB_f, lcT_ok, mDef_ap, mdR_nx, mdR_ex, mdR_rt, tyBool, tyInt, tyStr, tyTuple, tyList, List.getElem?_cons_zero, List.getElem?_cons_succ, List.getElem?_nil, List.set_cons_zero, List.set_cons_succ, List.set_nil, List.length_cons, List.length_nil, List.replicate_succ, List.replicate_zero, List.cons_append, List.nil_append, List.append_nil, ite_true, ite_false, if_true, if_false, Option.map_some, Option.map_none, reduceIte, List.nodup_nil, List.nodup_cons, List.not_mem_nil, not_false_eq_true, and_self, Option.bind_some, Option.getD_some, decide_true, decide_false, Bool.false_eq_true, Bool.true_eq_false, PySem.sizeLine_eq, hat, in_told, hT]
/-- the name of a part: kept, or none of the told ones -/
theorem name_keep (word : PySem.Str) (sp : Int) (h : sp < 0 ∨ sp.fmod 2 = 1) : m__law_name [.fz (.str word), .fz (.int sp)] = .rt (.fz (.str word)) [.fz (.str word), .fz (.int sp)] := by
  unfold m__law_name g__law_name
  rcases h with h | h
  · simp [bind_ok, bind_ex, bind_no, so_ok, so_ex, so_no, sSeq_ap, bS_nx, bS_rt, bS_ex, bS_bk, bS_ct, bS_no, sNil_ap, sBrk_ap, sCnt_ap, sRetN_ap, sRet_ap, sExpr_ap, kNx_ap, sSet_ap, asg_fz, asg_new, asg_at, setSl, sIf_ap, ifK_t, ifK_f, sRaise_ap, putK, sPut_ap, putAt, augK, tgK, sTg_ap, parK, sPar_ap, forK, sFor_ap, sWhile_ap, tryK, sTryM_ap, eVar_ap, eC_ap, e2b, e2_ap, e2a_ap, e1a, e1_ap, tb_ap, tbK_ap, trK, tr_ap, truth, bAnd_ap, bOr_ap, bNot_ap, andK_t, andK_f, orK_t, orK_f, notK_ap, bYes_ap, eAnd_ap, eOr_ap, eNot_ap, eandK_t, eandK_f, eorK_t, eorK_f, enotK_ap, eIf_ap, eifK_t, eifK_f, eCh_ap, ch1_ap, chA, chB_t, chB_f, chC, aNil_ap, aCons_ap, acK_ap, acM_some, acM_none, acL_ap, cbK, eCB_ap, tupK, lstK, eTup_ap, eLst_ap, mtK, eMt_ap, slC, eSl_ap, slA_ap, slB_ap, eo_none, eo_some, eoK_ap, eCall_ap, callM_ap, callR_fz, callR_new, callR_ex, nHere_ap, nhK_new, nhL_ap, ncL, ncK, nCons_ap, cnK, eCallN_ap, dropR, itK, eIt_ap, r1K, r2K, eR1_ap, eR2_ap, eLc_ap, hName_ap, hTup_ap, hNil_ap, hCons_ap, hcK_ap, peek, freeze, arg, peeks, peekA, dsOf, stAppend, stPop, stPopAt, stRev, okI, okB, okS, dAdd, dSub, dMulL, dDiv, dMod, dPow, dNeg, dLt, dLe, dGt, dGe, dIsN, dNotN, isNon, gLen, dLen, gInt, gAbs, gMin2, gMax2, gSum, gAll, gAny, gMin, gMax, gGcd, gList, gTuple, gStr, dIx, dSl, slots, atIx, backs, Dl.put, dTy, dEq_int, dEq_str, dNe_int, outT, back, kill, un1, nxtI_nx, nxtI_ct, nxrI_nx, nxrI_ct, nxrI_rt, lcB_t, lcB_f, lcT_ok, mDef_ap, mdR_nx, mdR_ex, mdR_rt, tyBool, tyInt, tyStr, tyTuple, tyList, List.getElem?_cons_zero, List.getElem?_cons_succ, List.getElem?_nil, List.set_cons_zero, List.set_cons_succ, List.set_nil, List.length_cons, List.length_nil, List.replicate_succ, List.replicate_zero, List.cons_append, List.nil_append, List.append_nil, ite_true, ite_false, if_true, if_false, Option.map_some, Option.map_none, reduceIte, List.nodup_nil, List.nodup_cons, List.not_mem_nil, not_false_eq_true, and_self, Option.bind_some, Option.getD_some, decide_true, decide_false, Bool.false_eq_true, Bool.true_eq_false, PySem.sizeLine_eq, h]
  · by_cases h0 : sp < 0
    · simp [bind_ok, bind_ex, bind_no, so_ok, so_ex, so_no, sSeq_ap, bS_nx, bS_rt, bS_ex, bS_bk, bS_ct, bS_no, sNil_ap, sBrk_ap, sCnt_ap, sRetN_ap, sRet_ap, sExpr_ap, kNx_ap, sSet_ap, asg_fz, asg_new, asg_at, setSl, sIf_ap, ifK_t, ifK_f, sRaise_ap, putK, sPut_ap, putAt, augK, tgK, sTg_ap, parK, sPar_ap, forK, sFor_ap, sWhile_ap, tryK, sTryM_ap, eVar_ap, eC_ap, e2b, e2_ap, e2a_ap, e1a, e1_ap, tb_ap, tbK_ap, trK, tr_ap, truth, bAnd_ap, bOr_ap, bNot_ap, andK_t, andK_f, orK_t, orK_f, notK_ap, bYes_ap, eAnd_ap, eOr_ap, eNot_ap, eandK_t, eandK_f, eorK_t, eorK_f, enotK_ap, eIf_ap, eifK_t, eifK_f, eCh_ap, ch1_ap, chA, chB_t, chB_f, chC, aNil_ap, aCons_ap, acK_ap, acM_some, acM_none, acL_ap, cbK, eCB_ap, tupK, lstK, eTup_ap, eLst_ap, mtK, eMt_ap, slC, eSl_ap, slA_ap, slB_ap, eo_none, eo_some, eoK_ap, eCall_ap, callM_ap, callR_fz, callR_new, callR_ex, nHere_ap, nhK_new, nhL_ap, ncL, ncK, nCons_ap, cnK, eCallN_ap, dropR, itK, eIt_ap, r1K, r2K, eR1_ap, eR2_ap, eLc_ap, hName_ap, hTup_ap, hNil_ap, hCons_ap, hcK_ap, peek, freeze, arg, peeks, peekA, dsOf, stAppend, stPop, stPopAt, stRev, okI, okB, okS, dAdd, dSub, dMulL, dDiv, dMod, dPow, dNeg, dLt, dLe, dGt, dGe, dIsN, dNotN, isNon, gLen, dLen, gInt, gAbs, gMin2, gMax2, gSum, gAll, gAny, gMin, gMax, gGcd, gList, gTuple, gStr, dIx, dSl, slots, atIx, backs, Dl.put, dTy, dEq_int, dEq_str, dNe_int, outT, back, kill, un1, nxtI_nx, nxtI_ct, nxrI_nx, nxrI_ct, nxrI_rt, lcB_t, lcB_f, lcT_ok, mDef_ap, mdR_nx, mdR_ex, mdR_rt, tyBool, tyInt, tyStr, tyTuple, tyList, List.getElem?_cons_zero, List.getElem?_cons_succ, List.getElem?_nil, List.set_cons_zero, List.set_cons_succ, List.set_nil, List.length_cons, List.length_nil, List.replicate_succ, List.replicate_zero, List.cons_append, List.nil_append, List.append_nil, ite_true, ite_false, if_true, if_false, Option.map_some, Option.map_none, reduceIte, List.nodup_nil, List.nodup_cons, List.not_mem_nil, not_false_eq_true, and_self, Option.bind_some, Option.getD_some, decide_true, decide_false, Bool.false_eq_true, Bool.true_eq_false, PySem.sizeLine_eq, h0]
    · simp [bind_ok, bind_ex, bind_no, so_ok, so_ex, so_no, sSeq_ap, bS_nx, bS_rt, bS_ex, bS_bk, bS_ct, bS_no, sNil_ap, sBrk_ap, sCnt_ap, sRetN_ap, sRet_ap, sExpr_ap, kNx_ap, sSet_ap, asg_fz, asg_new, asg_at, setSl, sIf_ap, ifK_t, ifK_f, sRaise_ap, putK, sPut_ap, putAt, augK, tgK, sTg_ap, parK, sPar_ap, forK, sFor_ap, sWhile_ap, tryK, sTryM_ap, eVar_ap, eC_ap, e2b, e2_ap, e2a_ap, e1a, e1_ap, tb_ap, tbK_ap, trK, tr_ap, truth, bAnd_ap, bOr_ap, bNot_ap, andK_t, andK_f, orK_t, orK_f, notK_ap, bYes_ap, eAnd_ap, eOr_ap, eNot_ap, eandK_t, eandK_f, eorK_t, eorK_f, enotK_ap, eIf_ap, eifK_t, eifK_f, eCh_ap, ch1_ap, chA, chB_t, chB_f, chC, aNil_ap, aCons_ap, acK_ap, acM_some, acM_none, acL_ap, cbK, eCB_ap, tupK, lstK, eTup_ap, eLst_ap, mtK, eMt_ap, slC, eSl_ap, slA_ap, slB_ap, eo_none, eo_some, eoK_ap, eCall_ap, callM_ap, callR_fz, callR_new, callR_ex, nHere_ap, nhK_new, nhL_ap, ncL, ncK, nCons_ap, cnK, eCallN_ap, dropR, itK, eIt_ap, r1K, r2K, eR1_ap, eR2_ap, eLc_ap, hName_ap, hTup_ap, hNil_ap, hCons_ap, hcK_ap, peek, freeze, arg, peeks, peekA, dsOf, stAppend, stPop, stPopAt, stRev, okI, okB, okS, dAdd, dSub, dMulL, dDiv, dMod, dPow, dNeg, dLt, dLe, dGt, dGe, dIsN, dNotN, isNon, gLen, dLen, gInt, gAbs, gMin2, gMax2, gSum, gAll, gAny, gMin, gMax, gGcd, gList, gTuple, gStr, dIx, dSl, slots, atIx, backs, Dl.put, dTy, dEq_int, dEq_str, dNe_int, outT, back, kill, un1, nxtI_nx, nxtI_ct, nxrI_nx, nxrI_ct, nxrI_rt, lcB_t, lcB_f, lcT_ok, mDef_ap, mdR_nx, mdR_ex, mdR_rt, tyBool, tyInt, tyStr, tyTuple, tyList, List.getElem?_cons_zero, List.getElem?_cons_succ, List.getElem?_nil, List.set_cons_zero, List.set_cons_succ, List.set_nil, List.length_cons, List.length_nil, List.replicate_succ, List.replicate_zero, List.cons_append, List.nil_append, List.append_nil, ite_true, ite_false, if_true, if_false, Option.map_some, Option.map_none, reduceIte, List.nodup_nil, List.nodup_cons, List.not_mem_nil, not_false_eq_true, and_self, Option.bind_some, Option.getD_some, decide_true, decide_false, Bool.false_eq_true, Bool.true_eq_false, PySem.sizeLine_eq, h, h0]
theorem name_bad (word : PySem.Str) (sp : Int) (hw : word ∈ told) (h0 : 0 ≤ sp) (h2 : sp.fmod 2 = 0) : ∃ s : PySem.Str, s ∉ told ∧ s.length ≤ 50 ∧ m__law_name [.fz (.str word), .fz (.int sp)] = .rt (.fz (.str s)) [.fz (.str word), .fz (.int sp)] := by
  have hwl : 0 < word.length ∧ word.length ≤ 3 := by
    have q : ∀ y ∈ told, 0 < y.length ∧ y.length ≤ 3 := by decide +kernel
    exact q word hw
  have n0 : ¬ sp < 0 := by omega
  have k0 := Int.fmod_nonneg_of_pos (sp.fdiv 2) (show (0:Int) < 12 by decide)
  have k1 := Int.fmod_lt_of_pos (sp.fdiv 2) (show (0:Int) < 12 by decide)
  have hb2 : bits 2 < 9000 := by decide
  have hb24 : bits 24 < 9000 := by decide
  unfold m__law_name g__law_name
  obtain ⟨s, s1, s2, s3⟩ := strange_spec (sp.fdiv 24) word hw
  generalize hk : (sp.fdiv 2).fmod 12 = kind at *
  by_cases h5 : 5 < kind
  · refine ⟨s, s1, s2, ?_⟩
    simp [bind_ok, bind_ex, bind_no, so_ok, so_ex, so_no, sSeq_ap, bS_nx, bS_rt, bS_ex, bS_bk, bS_ct, bS_no, sNil_ap, sBrk_ap, sCnt_ap, sRetN_ap, sRet_ap, sExpr_ap, kNx_ap, sSet_ap, asg_fz, asg_new, asg_at, setSl, sIf_ap, ifK_t, ifK_f, sRaise_ap, putK, sPut_ap, putAt, augK, tgK, sTg_ap, parK, sPar_ap, forK, sFor_ap, sWhile_ap, tryK, sTryM_ap, eVar_ap, eC_ap, e2b, e2_ap, e2a_ap, e1a, e1_ap, tb_ap, tbK_ap, trK, tr_ap, truth, bAnd_ap, bOr_ap, bNot_ap, andK_t, andK_f, orK_t, orK_f, notK_ap, bYes_ap, eAnd_ap, eOr_ap, eNot_ap, eandK_t, eandK_f, eorK_t, eorK_f, enotK_ap, eIf_ap, eifK_t, eifK_f, eCh_ap, ch1_ap, chA, chB_t, chB_f, chC, aNil_ap, aCons_ap, acK_ap, acM_some, acM_none, acL_ap, cbK, eCB_ap, tupK, lstK, eTup_ap, eLst_ap, mtK, eMt_ap, slC, eSl_ap, slA_ap, slB_ap, eo_none, eo_some, eoK_ap, eCall_ap, callM_ap, callR_fz, callR_new, callR_ex, nHere_ap, nhK_new, nhL_ap, ncL, ncK, nCons_ap, cnK, eCallN_ap, dropR, itK, eIt_ap, r1K, r2K, eR1_ap, eR2_ap, eLc_ap, hName_ap, hTup_ap, hNil_ap, hCons_ap, hcK_ap, peek, freeze, arg, peeks, peekA, dsOf, stAppend, stPop, stPopAt, stRev, okI, okB, okS, dAdd, dSub, dMulL, dDiv, dMod, dPow, dNeg, dLt, dLe, dGt, dGe, dIsN, dNotN, isNon, gLen, dLen, gInt, gAbs, gMin2, gMax2, gSum, gAll, gAny, gMin, gMax, gGcd, gList, gTuple, gStr, dIx, dSl, slots, atIx, backs, Dl.put, dTy, dEq_int, dEq_str, dNe_int, outT, back, kill, un1, nxtI_nx, nxtI_ct, nxrI_nx, nxrI_ct, nxrI_rt, lcB_t, lcB_f, lcT_ok, mDef_ap, mdR_nx, mdR_ex, mdR_rt, tyBool, tyInt, tyStr, tyTuple, tyList, List.getElem?_cons_zero, List.getElem?_cons_succ, List.getElem?_nil, List.set_cons_zero, List.set_cons_succ, List.set_nil, List.length_cons, List.length_nil, List.replicate_succ, List.replicate_zero, List.cons_append, List.nil_append, List.append_nil, ite_true, ite_false, if_true, if_false, Option.map_some, Option.map_none, reduceIte, List.nodup_nil, List.nodup_cons, List.not_mem_nil, not_false_eq_true, and_self, Option.bind_some, Option.getD_some, decide_true, decide_false, Bool.false_eq_true, Bool.true_eq_false, PySem.sizeLine_eq, n0, h2, hb2, hb24, hk, h5, s3]
  · have e0 : (PySem.Str.ofString "").length = 0 := by decide +kernel
    have e1 : (PySem.Str.ofString "s").length = 1 := by decide +kernel
    have e2' : (PySem.Str.ofString " ").length = 1 := by decide +kernel
    have l1 := len_cutS word none (some 1)
    have hat : ∃ F : PySem.Str, (F ∉ told ∧ F.length ≤ 50) ∧ atI [D.str "", D.str (word ++ "s"), D.str "Is", D.str "none", D.str (" " ++ word), D.str (cutS word none (some 1))] kind = some (D.str F) := by
      have q : ∀ w ∈ told, (w ++ ("s" : PySem.Str) ∉ told ∧ (w ++ ("s" : PySem.Str)).length ≤ 50) ∧ ((" " : PySem.Str) ++ w ∉ told ∧ ((" " : PySem.Str) ++ w).length ≤ 50) ∧ (cutS w none (some 1) ∉ told ∧ (cutS w none (some 1)).length ≤ 50) := by decide +kernel
      obtain ⟨q1, q2, q3⟩ := q word hw
      rcases (by omega : kind = 0 ∨ kind = 1 ∨ kind = 2 ∨ kind = 3 ∨ kind = 4 ∨ kind = 5) with z | z | z | z | z | z <;> rw [z]
      · exact ⟨"", by decide +kernel, rfl⟩
      · exact ⟨_, q1, rfl⟩
      · exact ⟨"Is", by decide +kernel, rfl⟩
      · exact ⟨"none", by decide +kernel, rfl⟩
      · exact ⟨_, q2, rfl⟩
      · exact ⟨_, q3, rfl⟩
    obtain ⟨F, hF, hat⟩ := hat
    refine ⟨F, hF.1, hF.2, ?_⟩
    simp (disch := omega) [bind_ok, bind_ex, bind_no, so_ok, so_ex, so_no, sSeq_ap, bS_nx, bS_rt, bS_ex, bS_bk, bS_ct, bS_no, sNil_ap, sBrk_ap, sCnt_ap, sRetN_ap, sRet_ap, sExpr_ap, kNx_ap, sSet_ap, asg_fz, asg_new, asg_at, setSl, sIf_ap, ifK_t, ifK_f, sRaise_ap, putK, sPut_ap, putAt, augK, tgK, sTg_ap, parK, sPar_ap, forK, sFor_ap, sWhile_ap, tryK, sTryM_ap, eVar_ap, eC_ap, e2b, e2_ap, e2a_ap, e1a, e1_ap, tb_ap, tbK_ap, trK, tr_ap, truth, bAnd_ap, bOr_ap, bNot_ap, andK_t, andK_f, orK_t, orK_f, notK_ap, bYes_ap, eAnd_ap, eOr_ap, eNot_ap, eandK_t, eandK_f, eorK_t, eorK_f, enotK_ap, eIf_ap, eifK_t, eifK_f, eCh_ap, ch1_ap, chA, chB_t, chB_f, chC, aNil_ap, aCons_ap, acK_ap, acM_some, acM_none, acL_ap, cbK, eCB_ap, tupK, lstK, eTup_ap, eLst_ap, mtK, eMt_ap, slC, eSl_ap, slA_ap, slB_ap, eo_none, eo_some, eoK_ap, eCall_ap, callM_ap, callR_fz, callR_new, callR_ex, nHere_ap, nhK_new, nhL_ap, ncL, ncK, nCons_ap, cnK, eCallN_ap, dropR, itK, eIt_ap, r1K, r2K, eR1_ap, eR2_ap, eLc_ap, hName_ap, hTup_ap, hNil_ap, hCons_ap, hcK_ap, peek, freeze, arg, peeks, peekA, dsOf, stAppend, stPop, stPopAt, stRev, okI, okB, okS, dAdd, dSub, dMulL, dDiv, dMod, dPow, dNeg, dLt, dLe, dGt, dGe, dIsN, dNotN, isNon, gLen, dLen, gInt, gAbs, gMin2, gMax2, gSum, gAll, gAny, gMin, gMax, gGcd, gList, gTuple, gStr, dIx, dSl, slots, atIx, backs, Dl.put, dTy, dEq_int, dEq_str, dNe_int, outT, back, kill, un1, nxtI_nx, nxtI_ct, nxrI_nx, nxrI_ct, nxrI_rt, lcB_t, lcB_f, lcT_ok, mDef_ap, mdR_nx, mdR_ex, mdR_rt, tyBool, tyInt, tyStr, tyTuple, tyList, List.getElem?_cons_zero, List.getElem?_cons_succ, List.getElem?_nil, List.set_cons_zero, List.set_cons_succ, List.set_nil, List.length_cons, List.length_nil, List.replicate_succ, List.replicate_zero, List.cons_append, List.nil_append, List.append_nil, ite_true, ite_false, if_true, if_false, Option.map_some, Option.map_none, reduceIte, List.nodup_nil, List.nodup_cons, List.not_mem_nil, not_false_eq_true, and_self, Option.bind_some, Option.getD_some, decide_true, decide_false, Bool.false_eq_true, Bool.true_eq_false, PySem.sizeLine_eq, n0, h2, hb2, hk, h5, if_pos, e1, e2', hat]
end K01
namespace K01
open Dl
open L2 (atI cutS)
/-! ### what is_word says -/
def IW (n : Int) (h : Nat) (w : D) (b : Bool) : Prop := ∀ f, h ≤ f → m_is_word f [.fz w, .fz (.int n)] = .rt (.fz (.bl b)) [.fz w, .fz (.int n)]
theorem IW.mono {n : Int} {h h' : Nat} {w : D} {b : Bool} (a : IW n h w b) (l : h ≤ h') : IW n h' w b := fun f hf => a f (Nat.le_trans l hf)
theorem in_aa (x : PySem.Str) (env : En) : dIn (.str x) (.tup [.str "all", .str "any"]) env = okB (decide (x ∈ [("all" : PySem.Str), "any"])) env := dIn_strsT x ["all", "any"] env
theorem ix0 (a b : D) : atI [a, b] 0 = some a := rfl
theorem ix1 (a b : D) : atI [a, b] 1 = some b := rfl
theorem ne1 : ("not" : PySem.Str) ≠ "is" := by decide +kernel
theorem ne2 : ("all" : PySem.Str) ≠ "is" := by decide +kernel
theorem ne3 : ("any" : PySem.Str) ≠ "is" := by decide +kernel
theorem ne4 : ("all" : PySem.Str) ≠ "not" := by decide +kernel
theorem ne5 : ("any" : PySem.Str) ≠ "not" := by decide +kernel
theorem iw_leaf (n o : Int) : IW n 1 (.tup [.str "is", .int o]) (decide (0 ≤ o ∧ o < n)) := fun f hf => by
  obtain ⟨k, rfl⟩ : ∃ k, f = k + 1 := ⟨f - 1, by omega⟩
  unfold m_is_word g_is_word
  by_cases h1 : 0 ≤ o
  · simp [bind_ok, bind_ex, bind_no, so_ok, so_ex, so_no, sSeq_ap, bS_nx, bS_rt, bS_ex, bS_bk, bS_ct, bS_no, sNil_ap, sBrk_ap, sCnt_ap, sRetN_ap, sRet_ap, sExpr_ap, kNx_ap, sSet_ap, asg_fz, asg_new, asg_at, setSl, sIf_ap, ifK_t, ifK_f, sRaise_ap, putK, sPut_ap, putAt, augK, tgK, sTg_ap, parK, sPar_ap, forK, sFor_ap, sWhile_ap, tryK, sTryM_ap, eVar_ap, eC_ap, e2b, e2_ap, e2a_ap, e1a, e1_ap, tb_ap, tbK_ap, trK, tr_ap, truth, bAnd_ap, bOr_ap, bNot_ap, andK_t, andK_f, orK_t, orK_f, notK_ap, bYes_ap, eAnd_ap, eOr_ap, eNot_ap, eandK_t, eandK_f, eorK_t, eorK_f, enotK_ap, eIf_ap, eifK_t, eifK_f, eCh_ap, ch1_ap, chA, chB_t, chB_f, chC, aNil_ap, aCons_ap, acK_ap, acM_some, acM_none, acL_ap, cbK, eCB_ap, tupK, lstK, eTup_ap, eLst_ap, mtK, eMt_ap, slC, eSl_ap, slA_ap, slB_ap, eo_none, eo_some, eoK_ap, eCall_ap, callM_ap, callR_fz, callR_new, callR_ex, nHere_ap, nhK_new, nhL_ap, ncL, ncK, nCons_ap, cnK, eCallN_ap, dropR, itK, eIt_ap, r1K, r2K, eR1_ap, eR2_ap, eLc_ap, hName_ap, hTup_ap, hNil_ap, hCons_ap, hcK_ap, peek, freeze, arg, peeks, peekA, dsOf, stAppend, stPop, stPopAt, stRev, okI, okB, okS, dAdd, dSub, dMulL, dDiv, dMod, dPow, dNeg, dLt, dLe, dGt, dGe, dIsN, dNotN, isNon, gLen, dLen, gInt, gAbs, gMin2, gMax2, gSum, gAll, gAny, gMin, gMax, gGcd, gList, gTuple, gStr, dIx, dSl, slots, atIx, backs, Dl.put, dTy, dEq_int, dEq_str, dNe_int, outT, back, kill, un1, nxtI_nx, nxtI_ct, nxrI_nx, nxrI_ct, nxrI_rt, lcB_t, lcB_f, lcT_ok, mDef_ap, mdR_nx, mdR_ex, mdR_rt, tyBool, tyInt, tyStr, tyTuple, tyList, List.getElem?_cons_zero, List.getElem?_cons_succ, List.getElem?_nil, List.set_cons_zero, List.set_cons_succ, List.set_nil, List.length_cons, List.length_nil, List.replicate_succ, List.replicate_zero, List.cons_append, List.nil_append, List.append_nil, ite_true, ite_false, if_true, if_false, Option.map_some, Option.map_none, reduceIte, List.nodup_nil, List.nodup_cons, List.not_mem_nil, not_false_eq_true, and_self, Option.bind_some, Option.getD_some, decide_true, decide_false, Bool.false_eq_true, Bool.true_eq_false, PySem.sizeLine_eq, ix0, ix1, h1]
  · simp [bind_ok, bind_ex, bind_no, so_ok, so_ex, so_no, sSeq_ap, bS_nx, bS_rt, bS_ex, bS_bk, bS_ct, bS_no, sNil_ap, sBrk_ap, sCnt_ap, sRetN_ap, sRet_ap, sExpr_ap, kNx_ap, sSet_ap, asg_fz, asg_new, asg_at, setSl, sIf_ap, ifK_t, ifK_f, sRaise_ap, putK, sPut_ap, putAt, augK, tgK, sTg_ap, parK, sPar_ap, forK, sFor_ap, sWhile_ap, tryK, sTryM_ap, eVar_ap, eC_ap, e2b, e2_ap, e2a_ap, e1a, e1_ap, tb_ap, tbK_ap, trK, tr_ap, truth, bAnd_ap, bOr_ap, bNot_ap, andK_t, andK_f, orK_t, orK_f, notK_ap, bYes_ap, eAnd_ap, eOr_ap, eNot_ap, eandK_t, eandK_f, eorK_t, eorK_f, enotK_ap, eIf_ap, eifK_t, eifK_f, eCh_ap, ch1_ap, chA, chB_t, chB_f, chC, aNil_ap, aCons_ap, acK_ap, acM_some, acM_none, acL_ap, cbK, eCB_ap, tupK, lstK, eTup_ap, eLst_ap, mtK, eMt_ap, slC, eSl_ap, slA_ap, slB_ap, eo_none, eo_some, eoK_ap, eCall_ap, callM_ap, callR_fz, callR_new, callR_ex, nHere_ap, nhK_new, nhL_ap, ncL, ncK, nCons_ap, cnK, eCallN_ap, dropR, itK, eIt_ap, r1K, r2K, eR1_ap, eR2_ap, eLc_ap, hName_ap, hTup_ap, hNil_ap, hCons_ap, hcK_ap, peek, freeze, arg, peeks, peekA, dsOf, stAppend, stPop, stPopAt, stRev, okI, okB, okS, dAdd, dSub, dMulL, dDiv, dMod, dPow, dNeg, dLt, dLe, dGt, dGe, dIsN, dNotN, isNon, gLen, dLen, gInt, gAbs, gMin2, gMax2, gSum, gAll, gAny, gMin, gMax, gGcd, gList, gTuple, gStr, dIx, dSl, slots, atIx, backs, Dl.put, dTy, dEq_int, dEq_str, dNe_int, outT, back, kill, un1, nxtI_nx, nxtI_ct, nxrI_nx, nxrI_ct, nxrI_rt, lcB_t, lcB_f, lcT_ok, mDef_ap, mdR_nx, mdR_ex, mdR_rt, tyBool, tyInt, tyStr, tyTuple, tyList, List.getElem?_cons_zero, List.getElem?_cons_succ, List.getElem?_nil, List.set_cons_zero, List.set_cons_succ, List.set_nil, List.length_cons, List.length_nil, List.replicate_succ, List.replicate_zero, List.cons_append, List.nil_append, List.append_nil, ite_true, ite_false, if_true, if_false, Option.map_some, Option.map_none, reduceIte, List.nodup_nil, List.nodup_cons, List.not_mem_nil, not_false_eq_true, and_self, Option.bind_some, Option.getD_some, decide_true, decide_false, Bool.false_eq_true, Bool.true_eq_false, PySem.sizeLine_eq, ix0, ix1, h1]
theorem iw_bad (n : Int) (s : PySem.Str) (x : D) (hs : s ∉ told) : IW n 1 (.tup [.str s, x]) false := fun f hf => by
  obtain ⟨k, rfl⟩ : ∃ k, f = k + 1 := ⟨f - 1, by omega⟩
  unfold told at hs
  simp only [List.mem_cons, not_or] at hs
  obtain ⟨h1, h2, h3, h4, _⟩ := hs
  unfold m_is_word g_is_word
  simp [bind_ok, bind_ex, bind_no, so_ok, so_ex, so_no, sSeq_ap, bS_nx, bS_rt, bS_ex, bS_bk, bS_ct, bS_no, sNil_ap, sBrk_ap, sCnt_ap, sRetN_ap, sRet_ap, sExpr_ap, kNx_ap, sSet_ap, asg_fz, asg_new, asg_at, setSl, sIf_ap, ifK_t, ifK_f, sRaise_ap, putK, sPut_ap, putAt, augK, tgK, sTg_ap, parK, sPar_ap, forK, sFor_ap, sWhile_ap, tryK, sTryM_ap, eVar_ap, eC_ap, e2b, e2_ap, e2a_ap, e1a, e1_ap, tb_ap, tbK_ap, trK, tr_ap, truth, bAnd_ap, bOr_ap, bNot_ap, andK_t, andK_f, orK_t, orK_f, notK_ap, bYes_ap, eAnd_ap, eOr_ap, eNot_ap, eandK_t, eandK_f, eorK_t, eorK_f, enotK_ap, eIf_ap, eifK_t, eifK_f, eCh_ap, ch1_ap, chA, chB_t, chB_f, chC, aNil_ap, aCons_ap, acK_ap, acM_some, acM_none, acL_ap, cbK, eCB_ap, tupK, lstK, eTup_ap, eLst_ap, mtK, eMt_ap, slC, eSl_ap, slA_ap, slB_ap, eo_none, eo_some, eoK_ap, eCall_ap, callM_ap, callR_fz, callR_new, callR_ex, nHere_ap, nhK_new, nhL_ap, ncL, ncK, nCons_ap, cnK, eCallN_ap, dropR, itK, eIt_ap, r1K, r2K, eR1_ap, eR2_ap, eLc_ap, hName_ap, hTup_ap, hNil_ap, hCons_ap, hcK_ap, peek, freeze, arg, peeks, peekA, dsOf, stAppend, stPop, stPopAt, stRev, okI, okB, okS, dAdd, dSub, dMulL, dDiv, dMod, dPow, dNeg, dLt, dLe, dGt, dGe, dIsN, dNotN, isNon, gLen, dLen, gInt, gAbs, gMin2, gMax2, gSum, gAll, gAny, gMin, gMax, gGcd, gList, gTuple, gStr, dIx, dSl, slots, atIx, backs, Dl.put, dTy, dEq_int, dEq_str, dNe_int, outT, back, kill, un1, nxtI_nx, nxtI_ct, nxrI_nx, nxrI_ct, nxrI_rt, lcB_t, lcB_f, lcT_ok, mDef_ap, mdR_nx, mdR_ex, mdR_rt, tyBool, tyInt, tyStr, tyTuple, tyList, List.getElem?_cons_zero, List.getElem?_cons_succ, List.getElem?_nil, List.set_cons_zero, List.set_cons_succ, List.set_nil, List.length_cons, List.length_nil, List.replicate_succ, List.replicate_zero, List.cons_append, List.nil_append, List.append_nil, ite_true, ite_false, if_true, if_false, Option.map_some, Option.map_none, reduceIte, List.nodup_nil, List.nodup_cons, List.not_mem_nil, not_false_eq_true, and_self, Option.bind_some, Option.getD_some, decide_true, decide_false, Bool.false_eq_true, Bool.true_eq_false, PySem.sizeLine_eq, ix0, ix1, h1, h2, in_aa, h3, h4]
theorem iw_not {n : Int} {h : Nat} {x : D} {b : Bool} (hx : IW n h x b) : IW n (h + 1) (.tup [.str "not", x]) b := fun f hf => by
  obtain ⟨k, rfl⟩ : ∃ k, f = k + 1 := ⟨f - 1, by omega⟩
  have hk := hx k (by omega)
  unfold m_is_word g_is_word
  simp [bind_ok, bind_ex, bind_no, so_ok, so_ex, so_no, sSeq_ap, bS_nx, bS_rt, bS_ex, bS_bk, bS_ct, bS_no, sNil_ap, sBrk_ap, sCnt_ap, sRetN_ap, sRet_ap, sExpr_ap, kNx_ap, sSet_ap, asg_fz, asg_new, asg_at, setSl, sIf_ap, ifK_t, ifK_f, sRaise_ap, putK, sPut_ap, putAt, augK, tgK, sTg_ap, parK, sPar_ap, forK, sFor_ap, sWhile_ap, tryK, sTryM_ap, eVar_ap, eC_ap, e2b, e2_ap, e2a_ap, e1a, e1_ap, tb_ap, tbK_ap, trK, tr_ap, truth, bAnd_ap, bOr_ap, bNot_ap, andK_t, andK_f, orK_t, orK_f, notK_ap, bYes_ap, eAnd_ap, eOr_ap, eNot_ap, eandK_t, eandK_f, eorK_t, eorK_f, enotK_ap, eIf_ap, eifK_t, eifK_f, eCh_ap, ch1_ap, chA, chB_t, chB_f, chC, aNil_ap, aCons_ap, acK_ap, acM_some, acM_none, acL_ap, cbK, eCB_ap, tupK, lstK, eTup_ap, eLst_ap, mtK, eMt_ap, slC, eSl_ap, slA_ap, slB_ap, eo_none, eo_some, eoK_ap, eCall_ap, callM_ap, callR_fz, callR_new, callR_ex, nHere_ap, nhK_new, nhL_ap, ncL, ncK, nCons_ap, cnK, eCallN_ap, dropR, itK, eIt_ap, r1K, r2K, eR1_ap, eR2_ap, eLc_ap, hName_ap, hTup_ap, hNil_ap, hCons_ap, hcK_ap, peek, freeze, arg, peeks, peekA, dsOf, stAppend, stPop, stPopAt, stRev, okI, okB, okS, dAdd, dSub, dMulL, dDiv, dMod, dPow, dNeg, dLt, dLe, dGt, dGe, dIsN, dNotN, isNon, gLen, dLen, gInt, gAbs, gMin2, gMax2, gSum, gAll, gAny, gMin, gMax, gGcd, gList, gTuple, gStr, dIx, dSl, slots, atIx, backs, Dl.put, dTy, dEq_int, dEq_str, dNe_int, outT, back, kill, un1, nxtI_nx, nxtI_ct, nxrI_nx, nxrI_ct, nxrI_rt, lcB_t, lcB_f, lcT_ok, mDef_ap, mdR_nx, mdR_ex, mdR_rt, tyBool, tyInt, tyStr, tyTuple, tyList, List.getElem?_cons_zero, List.getElem?_cons_succ, List.getElem?_nil, List.set_cons_zero, List.set_cons_succ, List.set_nil, List.length_cons, List.length_nil, List.replicate_succ, List.replicate_zero, List.cons_append, List.nil_append, List.append_nil, ite_true, ite_false, if_true, if_false, Option.map_some, Option.map_none, reduceIte, List.nodup_nil, List.nodup_cons, List.not_mem_nil, not_false_eq_true, and_self, Option.bind_some, Option.getD_some, decide_true, decide_false, Bool.false_eq_true, Bool.true_eq_false, PySem.sizeLine_eq, ix0, ix1, ne1, hk]
theorem iw_all {n : Int} {h : Nat} {s : PySem.Str} {ps : List D} {bs : List Bool} (hs : s = "all" ∨ s = "any") (hl : ps.length ≤ 1000) (hp : ∀ (i : Nat) p, ps[i]? = some p → ∃ b, bs[i]? = some b ∧ IW n h p b) (hbl : bs.length = ps.length) :
    IW n (h + 1) (.tup [.str s, .tup ps]) (bs.all id) := fun f hf => by
  obtain ⟨k, rfl⟩ : ∃ k, f = k + 1 := ⟨f - 1, by omega⟩
  have a1 : s ≠ "is" := by rcases hs with rfl | rfl; exact ne2; exact ne3
  have a2 : s ≠ "not" := by rcases hs with rfl | rfl; exact ne4; exact ne5
  have a3 : ∀ env, dIn (.str s) (.tup [.str "all", .str "any"]) env = okB true env := fun env => by
    rw [in_aa, decide_eq_true]
    rcases hs with rfl | rfl <;> simp
  unfold m_is_word g_is_word
  simp [bind_ok, bind_ex, bind_no, so_ok, so_ex, so_no, sSeq_ap, bS_nx, bS_rt, bS_ex, bS_bk, bS_ct, bS_no, sNil_ap, sBrk_ap, sCnt_ap, sRetN_ap, sRet_ap, sExpr_ap, kNx_ap, sSet_ap, asg_fz, asg_new, asg_at, setSl, sIf_ap, ifK_t, ifK_f, sRaise_ap, putK, sPut_ap, putAt, augK, tgK, sTg_ap, parK, sPar_ap, forK, sFor_ap, sWhile_ap, tryK, sTryM_ap, eVar_ap, eC_ap, e2b, e2_ap, e2a_ap, e1a, e1_ap, tb_ap, tbK_ap, trK, tr_ap, truth, bAnd_ap, bOr_ap, bNot_ap, andK_t, andK_f, orK_t, orK_f, notK_ap, bYes_ap, eAnd_ap, eOr_ap, eNot_ap, eandK_t, eandK_f, eorK_t, eorK_f, enotK_ap, eIf_ap, eifK_t, eifK_f, eCh_ap, ch1_ap, chA, chB_t, chB_f, chC, aNil_ap, aCons_ap, acK_ap, acM_some, acM_none, acL_ap, cbK, eCB_ap, tupK, lstK, eTup_ap, eLst_ap, mtK, eMt_ap, slC, eSl_ap, slA_ap, slB_ap, eo_none, eo_some, eoK_ap, eCall_ap, callM_ap, callR_fz, callR_new, callR_ex, nHere_ap, nhK_new, nhL_ap, ncL, ncK, nCons_ap, cnK, eCallN_ap, dropR, itK, eIt_ap, r1K, r2K, eR1_ap, eR2_ap, eLc_ap, hName_ap, hTup_ap, hNil_ap, hCons_ap, hcK_ap, peek, freeze, arg, peeks, peekA, dsOf, stAppend, stPop, stPopAt, stRev, okI, okB, okS, dAdd, dSub, dMulL, dDiv, dMod, dPow, dNeg, dLt, dLe, dGt, dGe, dIsN, dNotN, isNon, gLen, dLen, gInt, gAbs, gMin2, gMax2, gSum, gAll, gAny, gMin, gMax, gGcd, gList, gTuple, gStr, dIx, dSl, slots, atIx, backs, Dl.put, dTy, dEq_int, dEq_str, dNe_int, outT, back, kill, un1, nxtI_nx, nxtI_ct, nxrI_nx, nxrI_ct, nxrI_rt, lcB_t, lcB_f, lcT_ok, mDef_ap, mdR_nx, mdR_ex, mdR_rt, tyBool, tyInt, tyStr, tyTuple, tyList, List.getElem?_cons_zero, List.getElem?_cons_succ, List.getElem?_nil, List.set_cons_zero, List.set_cons_succ, List.set_nil, List.length_cons, List.length_nil, List.replicate_succ, List.replicate_zero, List.cons_append, List.nil_append, List.append_nil, ite_true, ite_false, if_true, if_false, Option.map_some, Option.map_none, reduceIte, List.nodup_nil, List.nodup_cons, List.not_mem_nil, not_false_eq_true, and_self, Option.bind_some, Option.getD_some, decide_true, decide_false, Bool.false_eq_true, Bool.true_eq_false, PySem.sizeLine_eq, ix0, ix1, a1, a2, a3]
  generalize hf : lcAll _ _ _ _ _ _ = r
  obtain ⟨ys, env2, rfl, rfl, rfl⟩ := lc_at hf (fun i acc e => acc = (bs.take i).map D.bl ∧ e = [.fz (.tup [.str s, .tup ps]), .fz (.int n), .un]) ⟨rfl, rfl⟩ (by rw [PySem.sizeLine_eq]; omega)
    (fun i acc e ⟨h1, _⟩ => by subst h1; rw [List.length_map, List.length_take]; omega) (fun i d acc e hd ⟨h1, h2⟩ => by
      subst h1 h2
      obtain ⟨b, hb, hw⟩ := hp i d hd
      refine ⟨_, rfl, ?_⟩
      have hk := hw k (by omega)
      simp [bind_ok, bind_ex, bind_no, so_ok, so_ex, so_no, sSeq_ap, bS_nx, bS_rt, bS_ex, bS_bk, bS_ct, bS_no, sNil_ap, sBrk_ap, sCnt_ap, sRetN_ap, sRet_ap, sExpr_ap, kNx_ap, sSet_ap, asg_fz, asg_new, asg_at, setSl, sIf_ap, ifK_t, ifK_f, sRaise_ap, putK, sPut_ap, putAt, augK, tgK, sTg_ap, parK, sPar_ap, forK, sFor_ap, sWhile_ap, tryK, sTryM_ap, eVar_ap, eC_ap, e2b, e2_ap, e2a_ap, e1a, e1_ap, tb_ap, tbK_ap, trK, tr_ap, truth, bAnd_ap, bOr_ap, bNot_ap, andK_t, andK_f, orK_t, orK_f, notK_ap, bYes_ap, eAnd_ap, eOr_ap, eNot_ap, eandK_t, eandK_f, eorK_t, eorK_f, enotK_ap, eIf_ap, eifK_t, eifK_f, eCh_ap, ch1_ap, chA, chB_t, chB_f, chC, aNil_ap, aCons_ap, acK_ap, acM_some, acM_none, acL_ap, cbK, eCB_ap, tupK, lstK, eTup_ap, eLst_ap, mtK, eMt_ap, slC, eSl_ap, slA_ap, slB_ap, eo_none, eo_some, eoK_ap, eCall_ap, callM_ap, callR_fz, callR_new, callR_ex, nHere_ap, nhK_new, nhL_ap, ncL, ncK, nCons_ap, cnK, eCallN_ap, dropR, itK, eIt_ap, r1K, r2K, eR1_ap, eR2_ap, eLc_ap, hName_ap, hTup_ap, hNil_ap, hCons_ap, hcK_ap, peek, freeze, arg, peeks, peekA, dsOf, stAppend, stPop, stPopAt, stRev, okI, okB, okS, dAdd, dSub, dMulL, dDiv, dMod, dPow, dNeg, dLt, dLe, dGt, dGe, dIsN, dNotN, isNon, gLen, dLen, gInt, gAbs, gMin2, gMax2, gSum, gAll, gAny, gMin, gMax, gGcd, gList, gTuple, gStr, dIx, dSl, slots, atIx, backs, Dl.put, dTy, dEq_int, dEq_str, dNe_int, outT, back, kill, un1, nxtI_nx, nxtI_ct, nxrI_nx, nxrI_ct, nxrI_rt, lcB_t, lcB_f, lcT_ok, mDef_ap, mdR_nx, mdR_ex, mdR_rt, tyBool, tyInt, tyStr, tyTuple, tyList, List.getElem?_cons_zero, List.getElem?_cons_succ, List.getElem?_nil, List.set_cons_zero, List.set_cons_succ, List.set_nil, List.length_cons, List.length_nil, List.replicate_succ, List.replicate_zero, List.cons_append, List.nil_append, List.append_nil, ite_true, ite_false, if_true, if_false, Option.map_some, Option.map_none, reduceIte, List.nodup_nil, List.nodup_cons, List.not_mem_nil, not_false_eq_true, and_self, Option.bind_some, Option.getD_some, decide_true, decide_false, Bool.false_eq_true, Bool.true_eq_false, PySem.sizeLine_eq, hk]
      refine ⟨?_, rfl⟩
      simp [List.take_add_one, hb])
  rw [← hbl, List.take_length]
  have hbls : blsOf (bs.map D.bl) = some bs := by
    clear hp hbl hf
    induction bs with
    | nil => rfl
    | cons b r ih => show (blsOf (r.map D.bl)).map (b :: ·) = _; rw [ih]; rfl
  simp [bind_ok, bind_ex, bind_no, so_ok, so_ex, so_no, sSeq_ap, bS_nx, bS_rt, bS_ex, bS_bk, bS_ct, bS_no, sNil_ap, sBrk_ap, sCnt_ap, sRetN_ap, sRet_ap, sExpr_ap, kNx_ap, sSet_ap, asg_fz, asg_new, asg_at, setSl, sIf_ap, ifK_t, ifK_f, sRaise_ap, putK, sPut_ap, putAt, augK, tgK, sTg_ap, parK, sPar_ap, forK, sFor_ap, sWhile_ap, tryK, sTryM_ap, eVar_ap, eC_ap, e2b, e2_ap, e2a_ap, e1a, e1_ap, tb_ap, tbK_ap, trK, tr_ap, truth, bAnd_ap, bOr_ap, bNot_ap, andK_t, andK_f, orK_t, orK_f, notK_ap, bYes_ap, eAnd_ap, eOr_ap, eNot_ap, eandK_t, eandK_f, eorK_t, eorK_f, enotK_ap, eIf_ap, eifK_t, eifK_f, eCh_ap, ch1_ap, chA, chB_t, chB_f, chC, aNil_ap, aCons_ap, acK_ap, acM_some, acM_none, acL_ap, cbK, eCB_ap, tupK, lstK, eTup_ap, eLst_ap, mtK, eMt_ap, slC, eSl_ap, slA_ap, slB_ap, eo_none, eo_some, eoK_ap, eCall_ap, callM_ap, callR_fz, callR_new, callR_ex, nHere_ap, nhK_new, nhL_ap, ncL, ncK, nCons_ap, cnK, eCallN_ap, dropR, itK, eIt_ap, r1K, r2K, eR1_ap, eR2_ap, eLc_ap, hName_ap, hTup_ap, hNil_ap, hCons_ap, hcK_ap, peek, freeze, arg, peeks, peekA, dsOf, stAppend, stPop, stPopAt, stRev, okI, okB, okS, dAdd, dSub, dMulL, dDiv, dMod, dPow, dNeg, dLt, dLe, dGt, dGe, dIsN, dNotN, isNon, gLen, dLen, gInt, gAbs, gMin2, gMax2, gSum, gAll, gAny, gMin, gMax, gGcd, gList, gTuple, gStr, dIx, dSl, slots, atIx, backs, Dl.put, dTy, dEq_int, dEq_str, dNe_int, outT, back, kill, un1, nxtI_nx, nxtI_ct, nxrI_nx, nxrI_ct, nxrI_rt, lcB_t, lcB_f, lcT_ok, mDef_ap, mdR_nx, mdR_ex, mdR_rt, tyBool, tyInt, tyStr, tyTuple, tyList, List.getElem?_cons_zero, List.getElem?_cons_succ, List.getElem?_nil, List.set_cons_zero, List.set_cons_succ, List.set_nil, List.length_cons, List.length_nil, List.replicate_succ, List.replicate_zero, List.cons_append, List.nil_append, List.append_nil, ite_true, ite_false, if_true, if_false, Option.map_some, Option.map_none, reduceIte, List.nodup_nil, List.nodup_cons, List.not_mem_nil, not_false_eq_true, and_self, Option.bind_some, Option.getD_some, decide_true, decide_false, Bool.false_eq_true, Bool.true_eq_false, PySem.sizeLine_eq, hbls, rests, rest1]
/-! ### a leaf -/
theorem bits_neg (x : Int) : bits (-x) = bits x := by unfold bits; rw [Int.natAbs_neg]
theorem bits_self (x : Int) : bits x ≤ x.natAbs := Nat.log2_le_self _
theorem leaf_spec (ns : List Int) (hb : ∀ n ∈ ns, bits n ≤ 1048576) (vs : List Int) (n : Int) (hn : 0 < n) (sp : Int) : ∃ (w : D) (vs' : List Int),
    m__law_leaf [.fz (.scr (ns.map D.int)), .ow true (.lst (vs.map D.int)), .fz (.int n), .fz (.int sp)] = .rt (.fz w) [.fz (.scr (ns.map D.int)), .ow true (.lst (vs'.map D.int)), .fz (.int n), .fz (.int sp)] ∧
    (sp < 0 → IW n 1 w true) ∧ (0 ≤ sp → IW n 1 w false) := by
  obtain ⟨t1, v1, q1, a1, b1⟩ := take_spec vs n hn
  obtain ⟨t2, v2, q2, a2, b2⟩ := take_spec v1 3 (by omega)
  obtain ⟨t3, v3, q3, a3, b3⟩ := take_spec v2 63 (by omega)
  obtain ⟨c, q4, hc⟩ := cell_spec ns t3 hb
  have hmul : bits t2 + bits (if c < 0 then -c else c) ≤ 100000000 := by
    have := bits_self t2
    have e : bits (if c < 0 then -c else c) = bits c := by split; exact bits_neg c; rfl
    rw [e]; omega
  have far0 : 0 ≤ t2 * (if c < 0 then -c else c) := Int.mul_nonneg a2 (by split <;> omega)
  generalize hfar : t2 * (if c < 0 then -c else c) = far at *
  have hb2 : bits 2 < 9000 := by decide
  unfold m__law_leaf g__law_leaf
  by_cases h0 : 0 ≤ sp
  · have h0' : ¬ sp < 0 := by omega
    by_cases h1 : sp.fmod 2 = 1
    · have k0 := Int.fmod_nonneg_of_pos (sp.fdiv 2) (show (0:Int) < 4 by decide)
      have k1 := Int.fmod_lt_of_pos (sp.fdiv 2) (show (0:Int) < 4 by decide)
      generalize hk : (sp.fdiv 2).fmod 4 = kind at *
      have hat : ∃ o : Int, ¬ (0 ≤ o ∧ o < n) ∧ atI [D.int n, D.int (-1), D.int (n + far), D.int (-1 - far)] kind = some (D.int o) := by
        rcases (by omega : kind = 0 ∨ kind = 1 ∨ kind = 2 ∨ kind = 3) with z | z | z | z <;> rw [z]
        · exact ⟨n, by omega, rfl⟩
        · exact ⟨-1, by omega, rfl⟩
        · exact ⟨n + far, by omega, rfl⟩
        · exact ⟨-1 - far, by omega, rfl⟩
      obtain ⟨o, ho, hat⟩ := hat
      refine ⟨.tup [.str "is", .int o], v3, ?_, fun z => by omega, fun _ => ?_⟩
      · have nk := name_keep "is" sp (.inr h1)
        simp [bind_ok, bind_ex, bind_no, so_ok, so_ex, so_no, sSeq_ap, bS_nx, bS_rt, bS_ex, bS_bk, bS_ct, bS_no, sNil_ap, sBrk_ap, sCnt_ap, sRetN_ap, sRet_ap, sExpr_ap, kNx_ap, sSet_ap, asg_fz, asg_new, asg_at, setSl, sIf_ap, ifK_t, ifK_f, sRaise_ap, putK, sPut_ap, putAt, augK, tgK, sTg_ap, parK, sPar_ap, forK, sFor_ap, sWhile_ap, tryK, sTryM_ap, eVar_ap, eC_ap, e2b, e2_ap, e2a_ap, e1a, e1_ap, tb_ap, tbK_ap, trK, tr_ap, truth, bAnd_ap, bOr_ap, bNot_ap, andK_t, andK_f, orK_t, orK_f, notK_ap, bYes_ap, eAnd_ap, eOr_ap, eNot_ap, eandK_t, eandK_f, eorK_t, eorK_f, enotK_ap, eIf_ap, eifK_t, eifK_f, eCh_ap, ch1_ap, chA, chB_t, chB_f, chC, aNil_ap, aCons_ap, acK_ap, acM_some, acM_none, acL_ap, cbK, eCB_ap, tupK, lstK, eTup_ap, eLst_ap, mtK, eMt_ap, slC, eSl_ap, slA_ap, slB_ap, eo_none, eo_some, eoK_ap, eCall_ap, callM_ap, callR_fz, callR_new, callR_ex, nHere_ap, nhK_new, nhL_ap, ncL, ncK, nCons_ap, cnK, eCallN_ap, dropR, itK, eIt_ap, r1K, r2K, eR1_ap, eR2_ap, eLc_ap, hName_ap, hTup_ap, hNil_ap, hCons_ap, hcK_ap, peek, freeze, arg, peeks, peekA, dsOf, stAppend, stPop, stPopAt, stRev, okI, okB, okS, dAdd, dSub, dMulL, dDiv, dMod, dPow, dNeg, dLt, dLe, dGt, dGe, dIsN, dNotN, isNon, gLen, dLen, gInt, gAbs, gMin2, gMax2, gSum, gAll, gAny, gMin, gMax, gGcd, gList, gTuple, gStr, dIx, dSl, slots, atIx, backs, Dl.put, dTy, dEq_int, dEq_str, dNe_int, outT, back, kill, un1, nxtI_nx, nxtI_ct, nxrI_nx, nxrI_ct, nxrI_rt, lcB_t, lcB_f, lcT_ok, mDef_ap, mdR_nx, mdR_ex, mdR_rt, tyBool, tyInt, tyStr, tyTuple, tyList, List.getElem?_cons_zero, List.getElem?_cons_succ, List.getElem?_nil, List.set_cons_zero, List.set_cons_succ, List.set_nil, List.length_cons, List.length_nil, List.replicate_succ, List.replicate_zero, List.cons_append, List.nil_append, List.append_nil, ite_true, ite_false, if_true, if_false, Option.map_some, Option.map_none, reduceIte, List.nodup_nil, List.nodup_cons, List.not_mem_nil, not_false_eq_true, and_self, Option.bind_some, Option.getD_some, decide_true, decide_false, Bool.false_eq_true, Bool.true_eq_false, PySem.sizeLine_eq, q1, q2, q3, q4, hmul, hfar, h0, h1, hb2, hk, hat, nk]
      · have := iw_leaf n o
        rwa [decide_eq_false ho] at this
    · have h2 : sp.fmod 2 = 0 := by
        have := Int.fmod_nonneg_of_pos sp (show (0:Int) < 2 by decide)
        have := Int.fmod_lt_of_pos sp (show (0:Int) < 2 by decide)
        omega
      obtain ⟨s, s1, s2, s3⟩ := name_bad "is" sp (by unfold told; simp) h0 h2
      refine ⟨.tup [.str s, .int t1], v3, ?_, fun z => by omega, fun _ => iw_bad n s _ s1⟩
      simp [bind_ok, bind_ex, bind_no, so_ok, so_ex, so_no, sSeq_ap, bS_nx, bS_rt, bS_ex, bS_bk, bS_ct, bS_no, sNil_ap, sBrk_ap, sCnt_ap, sRetN_ap, sRet_ap, sExpr_ap, kNx_ap, sSet_ap, asg_fz, asg_new, asg_at, setSl, sIf_ap, ifK_t, ifK_f, sRaise_ap, putK, sPut_ap, putAt, augK, tgK, sTg_ap, parK, sPar_ap, forK, sFor_ap, sWhile_ap, tryK, sTryM_ap, eVar_ap, eC_ap, e2b, e2_ap, e2a_ap, e1a, e1_ap, tb_ap, tbK_ap, trK, tr_ap, truth, bAnd_ap, bOr_ap, bNot_ap, andK_t, andK_f, orK_t, orK_f, notK_ap, bYes_ap, eAnd_ap, eOr_ap, eNot_ap, eandK_t, eandK_f, eorK_t, eorK_f, enotK_ap, eIf_ap, eifK_t, eifK_f, eCh_ap, ch1_ap, chA, chB_t, chB_f, chC, aNil_ap, aCons_ap, acK_ap, acM_some, acM_none, acL_ap, cbK, eCB_ap, tupK, lstK, eTup_ap, eLst_ap, mtK, eMt_ap, slC, eSl_ap, slA_ap, slB_ap, eo_none, eo_some, eoK_ap, eCall_ap, callM_ap, callR_fz, callR_new, callR_ex, nHere_ap, nhK_new, nhL_ap, ncL, ncK, nCons_ap, cnK, eCallN_ap, dropR, itK, eIt_ap, r1K, r2K, eR1_ap, eR2_ap, eLc_ap, hName_ap, hTup_ap, hNil_ap, hCons_ap, hcK_ap, peek, freeze, arg, peeks, peekA, dsOf, stAppend, stPop, stPopAt, stRev, okI, okB, okS, dAdd, dSub, dMulL, dDiv, dMod, dPow, dNeg, dLt, dLe, dGt, dGe, dIsN, dNotN, isNon, gLen, dLen, gInt, gAbs, gMin2, gMax2, gSum, gAll, gAny, gMin, gMax, gGcd, gList, gTuple, gStr, dIx, dSl, slots, atIx, backs, Dl.put, dTy, dEq_int, dEq_str, dNe_int, outT, back, kill, un1, nxtI_nx, nxtI_ct, nxrI_nx, nxrI_ct, nxrI_rt, lcB_t, lcB_f, lcT_ok, mDef_ap, mdR_nx, mdR_ex, mdR_rt, tyBool, tyInt, tyStr, tyTuple, tyList, List.getElem?_cons_zero, List.getElem?_cons_succ, List.getElem?_nil, List.set_cons_zero, List.set_cons_succ, List.set_nil, List.length_cons, List.length_nil, List.replicate_succ, List.replicate_zero, List.cons_append, List.nil_append, List.append_nil, ite_true, ite_false, if_true, if_false, Option.map_some, Option.map_none, reduceIte, List.nodup_nil, List.nodup_cons, List.not_mem_nil, not_false_eq_true, and_self, Option.bind_some, Option.getD_some, decide_true, decide_false, Bool.false_eq_true, Bool.true_eq_false, PySem.sizeLine_eq, q1, q2, q3, q4, hmul, hfar, h0, h1, s3]
  · refine ⟨.tup [.str "is", .int t1], v3, ?_, fun _ => ?_, fun z => by omega⟩
    · have nk := name_keep "is" sp (.inl (by omega))
      simp [bind_ok, bind_ex, bind_no, so_ok, so_ex, so_no, sSeq_ap, bS_nx, bS_rt, bS_ex, bS_bk, bS_ct, bS_no, sNil_ap, sBrk_ap, sCnt_ap, sRetN_ap, sRet_ap, sExpr_ap, kNx_ap, sSet_ap, asg_fz, asg_new, asg_at, setSl, sIf_ap, ifK_t, ifK_f, sRaise_ap, putK, sPut_ap, putAt, augK, tgK, sTg_ap, parK, sPar_ap, forK, sFor_ap, sWhile_ap, tryK, sTryM_ap, eVar_ap, eC_ap, e2b, e2_ap, e2a_ap, e1a, e1_ap, tb_ap, tbK_ap, trK, tr_ap, truth, bAnd_ap, bOr_ap, bNot_ap, andK_t, andK_f, orK_t, orK_f, notK_ap, bYes_ap, eAnd_ap, eOr_ap, eNot_ap, eandK_t, eandK_f, eorK_t, eorK_f, enotK_ap, eIf_ap, eifK_t, eifK_f, eCh_ap, ch1_ap, chA, chB_t, chB_f, chC, aNil_ap, aCons_ap, acK_ap, acM_some, acM_none, acL_ap, cbK, eCB_ap, tupK, lstK, eTup_ap, eLst_ap, mtK, eMt_ap, slC, eSl_ap, slA_ap, slB_ap, eo_none, eo_some, eoK_ap, eCall_ap, callM_ap, callR_fz, callR_new, callR_ex, nHere_ap, nhK_new, nhL_ap, ncL, ncK, nCons_ap, cnK, eCallN_ap, dropR, itK, eIt_ap, r1K, r2K, eR1_ap, eR2_ap, eLc_ap, hName_ap, hTup_ap, hNil_ap, hCons_ap, hcK_ap, peek, freeze, arg, peeks, peekA, dsOf, stAppend, stPop, stPopAt, stRev, okI, okB, okS, dAdd, dSub, dMulL, dDiv, dMod, dPow, dNeg, dLt, dLe, dGt, dGe, dIsN, dNotN, isNon, gLen, dLen, gInt, gAbs, gMin2, gMax2, gSum, gAll, gAny, gMin, gMax, gGcd, gList, gTuple, gStr, dIx, dSl, slots, atIx, backs, Dl.put, dTy, dEq_int, dEq_str, dNe_int, outT, back, kill, un1, nxtI_nx, nxtI_ct, nxrI_nx, nxrI_ct, nxrI_rt, lcB_t, lcB_f, lcT_ok, mDef_ap, mdR_nx, mdR_ex, mdR_rt, tyBool, tyInt, tyStr, tyTuple, tyList, List.getElem?_cons_zero, List.getElem?_cons_succ, List.getElem?_nil, List.set_cons_zero, List.set_cons_succ, List.set_nil, List.length_cons, List.length_nil, List.replicate_succ, List.replicate_zero, List.cons_append, List.nil_append, List.append_nil, ite_true, ite_false, if_true, if_false, Option.map_some, Option.map_none, reduceIte, List.nodup_nil, List.nodup_cons, List.not_mem_nil, not_false_eq_true, and_self, Option.bind_some, Option.getD_some, decide_true, decide_false, Bool.false_eq_true, Bool.true_eq_false, PySem.sizeLine_eq, q1, q2, q3, q4, hmul, hfar, h0, nk]
    · have := iw_leaf n t1
      rwa [decide_eq_true ⟨a1, b1⟩] at this
end K01
namespace K01
open Dl
open L2 (atI cutS)
abbrev TE := D × Int × Bool
def pr (e : TE) : D := .tup [e.1, .int e.2.1]
/-- one of the stack's entries -/
def Ent (n : Int) (e : TE) : Prop := 1 ≤ e.2.1 ∧ e.2.1 ≤ 9 ∧ IW n e.2.1.toNat e.1 e.2.2
theorem maxI_bd {lo hi : Int} : ∀ (r : List Int) (m : Int), lo ≤ m → m ≤ hi → (∀ y ∈ r, y ≤ hi) → lo ≤ maxI m r ∧ maxI m r ≤ hi := fun r m h1 h2 h3 => by
  have a := (maxI_ge r m).1
  have b := maxI_mem r m
  refine ⟨by omega, ?_⟩
  rcases List.mem_cons.mp b with b | b
  · rw [b]; exact h2
  · exact h3 _ b
/-- the stack's state -/
structure Stk (n : Int) (pl : List Int) (i : Nat) (st : List TE) : Prop where
  ent : ∀ e ∈ st, Ent n e
  len : st.length ≤ i
  pos : 0 < i → 0 < st.length
  good : pl = [] → ∀ e ∈ st, e.2.2 = true
  bad : (∃ p ∈ pl, p < i ∧ 0 ≤ p) → ∃ e ∈ st, e.2.2 = false
theorem comp_ix (j : Int) (f : TE → D) (hj : ∀ e : TE, atI [e.1, D.int e.2.1] j = some (f e)) (pt : List TE) (hl : pt.length ≤ 1000) (env : En) (hc : calmAt 16 env) :
    lcAll (hName 16) bYes (e2 (eVar 16) (eC (.int j)) dIx) [16] (pt.map pr) env = .ok (.new (.lst (pt.map f))) env := by
  have hi : 16 < env.length := by rcases hc with h | ⟨d, h⟩ <;> exact (List.getElem?_eq_some_iff.mp h).1
  have hF : ∀ e : TE, ∃ g : D → D, g (pr e) = f e := fun e => ⟨fun _ => f e, rfl⟩
  have hmap : (pt.map pr).map (fun d => match d with | .tup xs => (match atI xs j with | some y => y | none => d) | _ => d) = pt.map f := by
    rw [List.map_map]
    apply List.map_congr_left
    intro e _
    have he := hj e
    simp [pr, he]
  rw [lc_pure (fun d => match d with | .tup xs => (match atI xs j with | some y => y | none => d) | _ => d) hc (by rw [List.length_map, PySem.sizeLine_eq]; omega) (fun d hd => by
    obtain ⟨e, _, rfl⟩ := List.mem_map.mp hd
    have he := hj e
    simp [bind_ok, bind_ex, bind_no, so_ok, so_ex, so_no, sSeq_ap, bS_nx, bS_rt, bS_ex, bS_bk, bS_ct, bS_no, sNil_ap, sBrk_ap, sCnt_ap, sRetN_ap, sRet_ap, sExpr_ap, kNx_ap, sSet_ap, asg_fz, asg_new, asg_at, setSl, sIf_ap, ifK_t, ifK_f, sRaise_ap, putK, sPut_ap, putAt, augK, tgK, sTg_ap, parK, sPar_ap, forK, sFor_ap, sWhile_ap, tryK, sTryM_ap, eVar_ap, eC_ap, e2b, e2_ap, e2a_ap, e1a, e1_ap, tb_ap, tbK_ap, trK, tr_ap, truth, bAnd_ap, bOr_ap, bNot_ap, andK_t, andK_f, orK_t, orK_f, notK_ap, bYes_ap, eAnd_ap, eOr_ap, eNot_ap, eandK_t, eandK_f, eorK_t, eorK_f, enotK_ap, eIf_ap, eifK_t, eifK_f, eCh_ap, ch1_ap, chA, chB_t, chB_f, chC, aNil_ap, aCons_ap, acK_ap, acM_some, acM_none, acL_ap, cbK, eCB_ap, tupK, lstK, eTup_ap, eLst_ap, mtK, eMt_ap, slC, eSl_ap, slA_ap, slB_ap, eo_none, eo_some, eoK_ap, eCall_ap, callM_ap, callR_fz, callR_new, callR_ex, nHere_ap, nhK_new, nhL_ap, ncL, ncK, nCons_ap, cnK, eCallN_ap, dropR, itK, eIt_ap, r1K, r2K, eR1_ap, eR2_ap, eLc_ap, hName_ap, hTup_ap, hNil_ap, hCons_ap, hcK_ap, peek, freeze, arg, peeks, peekA, dsOf, stAppend, stPop, stPopAt, stRev, okI, okB, okS, dAdd, dSub, dMulL, dDiv, dMod, dPow, dNeg, dLt, dLe, dGt, dGe, dIsN, dNotN, isNon, gLen, dLen, gInt, gAbs, gMin2, gMax2, gSum, gAll, gAny, gMin, gMax, gGcd, gList, gTuple, gStr, dIx, dSl, slots, atIx, backs, Dl.put, dTy, dEq_int, dEq_str, dNe_int, outT, back, kill, un1, nxtI_nx, nxtI_ct, nxrI_nx, nxrI_ct, nxrI_rt, lcB_t, lcB_f, lcT_ok, mDef_ap, mdR_nx, mdR_ex, mdR_rt, tyBool, tyInt, tyStr, tyTuple, tyList, List.getElem?_cons_zero, List.getElem?_cons_succ, List.getElem?_nil, List.set_cons_zero, List.set_cons_succ, List.set_nil, List.length_cons, List.length_nil, List.replicate_succ, List.replicate_zero, List.cons_append, List.nil_append, List.append_nil, ite_true, ite_false, if_true, if_false, Option.map_some, Option.map_none, reduceIte, List.nodup_nil, List.nodup_cons, List.not_mem_nil, not_false_eq_true, and_self, Option.bind_some, Option.getD_some, decide_true, decide_false, Bool.false_eq_true, Bool.true_eq_false, PySem.sizeLine_eq, List.getElem?_set_self hi, pr, he]), hmap]
theorem stk_push {n : Int} {pl : List Int} {i : Nat} {st : List TE} {e : TE} (j : Nat) (h : Stk n pl i st) (he : Ent n e) (hg : pl = [] → e.2.2 = true) (hb : (i : Int) ∈ pl → e.2.2 = false) (hp : (∃ x ∈ st.drop j, x.2.2 = false) → e.2.2 = false) :
    Stk n pl (i + 1) (st.take j ++ [e]) := by
  refine ⟨fun x hx => ?_, ?_, fun _ => by simp, fun hpl x hx => ?_, fun ⟨p, p1, p2, p3⟩ => ?_⟩
  · rcases List.mem_append.mp hx with z | z
    · exact h.ent x (List.mem_of_mem_take z)
    · rcases List.mem_singleton.mp z with rfl; exact he
  · rw [List.length_append, List.length_take]; have := h.len; simp; omega
  · rcases List.mem_append.mp hx with z | z
    · exact h.good hpl x (List.mem_of_mem_take z)
    · rcases List.mem_singleton.mp z with rfl; exact hg hpl
  · by_cases hi : (i : Int) ∈ pl
    · exact ⟨e, by simp, hb hi⟩
    · have : p ≠ i := fun z => hi (by rw [← z]; exact p1)
      obtain ⟨x, x1, x2⟩ := h.bad ⟨p, p1, by omega, p3⟩
      rw [← List.take_append_drop j st] at x1
      rcases List.mem_append.mp x1 with z | z
      · exact ⟨x, List.mem_append_left _ z, x2⟩
      · exact ⟨e, by simp, hp ⟨x, z, x2⟩⟩
theorem maxI_le {hi : Int} (r : List Int) (h0 : 0 ≤ hi) (h : ∀ y ∈ r, y ≤ hi) : 0 ≤ maxI 0 r := (maxI_ge r 0).1
theorem name_any (K H : Int) (hK : 4 ≤ K) (hK2 : K < 8) : ∃ w : PySem.Str, w ∈ told ∧ (K = 4 → w = "not") ∧ (K ≠ 4 → w = "all" ∨ w = "any") ∧ atI [D.str "not", D.str "any", D.str "all", D.str "any"] (K - 4) = some (D.str w) := by
  rcases (by omega : K = 4 ∨ K = 5 ∨ K = 6 ∨ K = 7) with z | z | z | z <;> subst z
  · exact ⟨"not", by unfold told; simp, fun _ => rfl, fun z => by omega, rfl⟩
  · exact ⟨"any", by unfold told; simp, fun z => by omega, fun _ => .inr rfl, rfl⟩
  · exact ⟨"all", by unfold told; simp, fun z => by omega, fun _ => .inl rfl, rfl⟩
  · exact ⟨"any", by unfold told; simp, fun z => by omega, fun _ => .inr rfl, rfl⟩
theorem tree_spec (ns : List Int) (hb : ∀ n ∈ ns, bits n ≤ 1048576) (vs : List Int) (n : Int) (hn : 0 < n) (steps : Int) (h0 : 0 < steps) (h1 : steps ≤ 900) (tall : Bool) (pl : List Int) (sp : Int) (hsp : pl ≠ [] → 0 ≤ sp) (hsb : sp < 1000000000000) (hsb2 : -1 ≤ sp) (hpl : ∀ p ∈ pl, 0 ≤ p ∧ p < steps) :
    ∃ (w : D) (vs' : List Int), m__law_tree [.fz (.scr (ns.map D.int)), .ow true (.lst (vs.map D.int)), .fz (.int n), .fz (.int steps), .fz (.bl tall), .fz (.lst (pl.map D.int)), .fz (.int sp)] =
      .rt (.fz w) [.fz (.scr (ns.map D.int)), .ow true (.lst (vs'.map D.int)), .fz (.int n), .fz (.int steps), .fz (.bl tall), .fz (.lst (pl.map D.int)), .fz (.int sp)] ∧ IW n 11 w pl.isEmpty := by
  unfold m__law_tree g__law_tree
  have hr : steps < 2 ^ 62 ∧ -(2 ^ 62) ≤ steps := by omega
  simp (disch := omega) [bind_ok, bind_ex, bind_no, so_ok, so_ex, so_no, sSeq_ap, bS_nx, bS_rt, bS_ex, bS_bk, bS_ct, bS_no, sNil_ap, sBrk_ap, sCnt_ap, sRetN_ap, sRet_ap, sExpr_ap, kNx_ap, sSet_ap, asg_fz, asg_new, asg_at, setSl, sIf_ap, ifK_t, ifK_f, sRaise_ap, putK, sPut_ap, putAt, augK, tgK, sTg_ap, parK, sPar_ap, forK, sFor_ap, sWhile_ap, tryK, sTryM_ap, eVar_ap, eC_ap, e2b, e2_ap, e2a_ap, e1a, e1_ap, tb_ap, tbK_ap, trK, tr_ap, truth, bAnd_ap, bOr_ap, bNot_ap, andK_t, andK_f, orK_t, orK_f, notK_ap, bYes_ap, eAnd_ap, eOr_ap, eNot_ap, eandK_t, eandK_f, eorK_t, eorK_f, enotK_ap, eIf_ap, eifK_t, eifK_f, eCh_ap, ch1_ap, chA, chB_t, chB_f, chC, aNil_ap, aCons_ap, acK_ap, acM_some, acM_none, acL_ap, cbK, eCB_ap, tupK, lstK, eTup_ap, eLst_ap, mtK, eMt_ap, slC, eSl_ap, slA_ap, slB_ap, eo_none, eo_some, eoK_ap, eCall_ap, callM_ap, callR_fz, callR_new, callR_ex, nHere_ap, nhK_new, nhL_ap, ncL, ncK, nCons_ap, cnK, eCallN_ap, dropR, itK, eIt_ap, r1K, r2K, eR1_ap, eR2_ap, eLc_ap, hName_ap, hTup_ap, hNil_ap, hCons_ap, hcK_ap, peek, freeze, arg, peeks, peekA, dsOf, stAppend, stPop, stPopAt, stRev, okI, okB, okS, dAdd, dSub, dMulL, dDiv, dMod, dPow, dNeg, dLt, dLe, dGt, dGe, dIsN, dNotN, isNon, gLen, dLen, gInt, gAbs, gMin2, gMax2, gSum, gAll, gAny, gMin, gMax, gGcd, gList, gTuple, gStr, dIx, dSl, slots, atIx, backs, Dl.put, dTy, dEq_int, dEq_str, dNe_int, outT, back, kill, un1, nxtI_nx, nxtI_ct, nxrI_nx, nxrI_ct, nxrI_rt, lcB_t, lcB_f, lcT_ok, mDef_ap, mdR_nx, mdR_ex, mdR_rt, tyBool, tyInt, tyStr, tyTuple, tyList, List.getElem?_cons_zero, List.getElem?_cons_succ, List.getElem?_nil, List.set_cons_zero, List.set_cons_succ, List.set_nil, List.length_cons, List.length_nil, List.replicate_succ, List.replicate_zero, List.cons_append, List.nil_append, List.append_nil, ite_true, ite_false, if_true, if_false, Option.map_some, Option.map_none, reduceIte, List.nodup_nil, List.nodup_cons, List.not_mem_nil, not_false_eq_true, and_self, Option.bind_some, Option.getD_some, decide_true, decide_false, Bool.false_eq_true, Bool.true_eq_false, PySem.sizeLine_eq, if_pos]
  generalize hf : forD _ _ _ _ _ = r
  obtain ⟨I, hI⟩ : ∃ I : Nat → En → Prop, I = fun i env => ∃ (v : List Int) (st : List TE), env = [.fz (.scr (ns.map D.int)), .ow true (.lst (v.map D.int)), .fz (.int n), .fz (.int steps), .fz (.bl tall), .fz (.lst (pl.map D.int)), .fz (.int sp), .ow false (.lst (st.map pr)), .un, .un, .un, .un, .un, .un, .un, .un, .un] ∧ Stk n pl i st := ⟨_, rfl⟩
  have hf' := forD_at hf I (by rw [hI]; exact ⟨vs, [], rfl, ⟨fun _ z => (by cases z), Nat.le_refl _, fun z => by omega, fun _ _ z => (by cases z), fun ⟨p, _, z1, z2⟩ => by omega⟩⟩) (fun i d e hdi he => by
      rw [hI] at he
      obtain ⟨v, st, he, hS⟩ := he
      obtain ⟨rfl, hi⟩ := rng_get hdi
      have hi' : (i : Int) < steps := by omega
      have hlen := hS.len
      subst he
      refine ⟨_, rfl, ?_⟩
      simp only [Int.zero_add]
      generalize hT : sSeq (sSet 12 _) _ = TL
      have tail : ∀ (K M H : Int) (v' : List Int), 0 ≤ K → K < 8 → 0 ≤ M → M ≤ st.length → (K = 4 → M ≤ 1) → ((i : Int) ∉ pl → H = -1) → ((i : Int) ∈ pl → H = sp) →
          nxtI (TL [.fz (.scr (ns.map D.int)), .ow true (.lst (v'.map D.int)), .fz (.int n), .fz (.int steps), .fz (.bl tall), .fz (.lst (pl.map D.int)), .fz (.int sp), .ow false (.lst (st.map pr)), .fz (.int i), .fz (.int H), .fz (.int K), .fz (.int M), .un, .un, .un, .un, .un])
            I (i + 1) [9, 10, 11, 12, 13, 14, 15, 8] := by
        intro K M H v' k0 k1 m0 m1 km hH1 hH2
        rw [← hT]
        obtain ⟨lf, v2, ql, lgood, lbad⟩ := leaf_spec ns hb v' n hn H
        have hcut : (0 : Int) ≤ (st.length : Int) - M := by omega
        simp [bind_ok, bind_ex, bind_no, so_ok, so_ex, so_no, sSeq_ap, bS_nx, bS_rt, bS_ex, bS_bk, bS_ct, bS_no, sNil_ap, sBrk_ap, sCnt_ap, sRetN_ap, sRet_ap, sExpr_ap, kNx_ap, sSet_ap, asg_fz, asg_new, asg_at, setSl, sIf_ap, ifK_t, ifK_f, sRaise_ap, putK, sPut_ap, putAt, augK, tgK, sTg_ap, parK, sPar_ap, forK, sFor_ap, sWhile_ap, tryK, sTryM_ap, eVar_ap, eC_ap, e2b, e2_ap, e2a_ap, e1a, e1_ap, tb_ap, tbK_ap, trK, tr_ap, truth, bAnd_ap, bOr_ap, bNot_ap, andK_t, andK_f, orK_t, orK_f, notK_ap, bYes_ap, eAnd_ap, eOr_ap, eNot_ap, eandK_t, eandK_f, eorK_t, eorK_f, enotK_ap, eIf_ap, eifK_t, eifK_f, eCh_ap, ch1_ap, chA, chB_t, chB_f, chC, aNil_ap, aCons_ap, acK_ap, acM_some, acM_none, acL_ap, cbK, eCB_ap, tupK, lstK, eTup_ap, eLst_ap, mtK, eMt_ap, slC, eSl_ap, slA_ap, slB_ap, eo_none, eo_some, eoK_ap, eCall_ap, callM_ap, callR_fz, callR_new, callR_ex, nHere_ap, nhK_new, nhL_ap, ncL, ncK, nCons_ap, cnK, eCallN_ap, dropR, itK, eIt_ap, r1K, r2K, eR1_ap, eR2_ap, eLc_ap, hName_ap, hTup_ap, hNil_ap, hCons_ap, hcK_ap, peek, freeze, arg, peeks, peekA, dsOf, stAppend, stPop, stPopAt, stRev, okI, okB, okS, dAdd, dSub, dMulL, dDiv, dMod, dPow, dNeg, dLt, dLe, dGt, dGe, dIsN, dNotN, isNon, gLen, dLen, gInt, gAbs, gMin2, gMax2, gSum, gAll, gAny, gMin, gMax, gGcd, gList, gTuple, gStr, dIx, dSl, slots, atIx, backs, Dl.put, dTy, dEq_int, dEq_str, dNe_int, outT, back, kill, un1, nxtI_nx, nxtI_ct, nxrI_nx, nxrI_ct, nxrI_rt, lcB_t, lcB_f, lcT_ok, mDef_ap, mdR_nx, mdR_ex, mdR_rt, tyBool, tyInt, tyStr, tyTuple, tyList, List.getElem?_cons_zero, List.getElem?_cons_succ, List.getElem?_nil, List.set_cons_zero, List.set_cons_succ, List.set_nil, List.length_cons, List.length_nil, List.replicate_succ, List.replicate_zero, List.cons_append, List.nil_append, List.append_nil, ite_true, ite_false, if_true, if_false, Option.map_some, Option.map_none, reduceIte, List.nodup_nil, List.nodup_cons, List.not_mem_nil, not_false_eq_true, and_self, Option.bind_some, Option.getD_some, decide_true, decide_false, Bool.false_eq_true, Bool.true_eq_false, PySem.sizeLine_eq, ql, cut_fromI _ hcut]
        have hPT : List.drop ((st.length : Int) - M).toNat (List.map pr st) = (st.drop ((st.length : Int) - M).toNat).map pr := by rw [List.map_drop]
        rw [hPT]
        generalize hpt : st.drop ((st.length : Int) - M).toNat = pt
        have hptl : pt.length = M.toNat := by rw [← hpt, List.length_drop]; omega
        have hptm : ∀ e ∈ pt, e ∈ st := fun e he => by rw [← hpt] at he; exact List.mem_of_mem_drop he
        rw [comp_ix 1 (fun e => .int e.2.1) (fun e => rfl) pt (by omega) _ (.inl rfl)]
        have hmx : intsD (D.int 0 :: pt.map fun e => D.int e.2.1) = some (0 :: pt.map fun e => e.2.1) := by
          have e : (pt.map fun e => D.int e.2.1) = (pt.map fun e => e.2.1).map D.int := by rw [List.map_map]; rfl
          rw [e]
          exact intsD_map (0 :: pt.map fun e => e.2.1)
        have hml : 1 + pt.length ≤ 16777216 := by omega
        clear hf hT hPT
        have hge := maxI_ge (pt.map fun e => e.2.1) 0
        have hptE : ∀ e ∈ pt, Ent n e := fun e he => hS.ent e (hptm e he)
        have hme : ∀ e ∈ pt, e.2.1 ≤ maxI 0 (pt.map fun e => e.2.1) := fun e he => hge.2 _ (List.mem_map_of_mem he)
        have hmx0 := hge.1
        generalize hmxv : maxI 0 (pt.map fun e => e.2.1) = mx at *
        simp (disch := omega) [bind_ok, bind_ex, bind_no, so_ok, so_ex, so_no, sSeq_ap, bS_nx, bS_rt, bS_ex, bS_bk, bS_ct, bS_no, sNil_ap, sBrk_ap, sCnt_ap, sRetN_ap, sRet_ap, sExpr_ap, kNx_ap, sSet_ap, asg_fz, asg_new, asg_at, setSl, sIf_ap, ifK_t, ifK_f, sRaise_ap, putK, sPut_ap, putAt, augK, tgK, sTg_ap, parK, sPar_ap, forK, sFor_ap, sWhile_ap, tryK, sTryM_ap, eVar_ap, eC_ap, e2b, e2_ap, e2a_ap, e1a, e1_ap, tb_ap, tbK_ap, trK, tr_ap, truth, bAnd_ap, bOr_ap, bNot_ap, andK_t, andK_f, orK_t, orK_f, notK_ap, bYes_ap, eAnd_ap, eOr_ap, eNot_ap, eandK_t, eandK_f, eorK_t, eorK_f, enotK_ap, eIf_ap, eifK_t, eifK_f, eCh_ap, ch1_ap, chA, chB_t, chB_f, chC, aNil_ap, aCons_ap, acK_ap, acM_some, acM_none, acL_ap, cbK, eCB_ap, tupK, lstK, eTup_ap, eLst_ap, mtK, eMt_ap, slC, eSl_ap, slA_ap, slB_ap, eo_none, eo_some, eoK_ap, eCall_ap, callM_ap, callR_fz, callR_new, callR_ex, nHere_ap, nhK_new, nhL_ap, ncL, ncK, nCons_ap, cnK, eCallN_ap, dropR, itK, eIt_ap, r1K, r2K, eR1_ap, eR2_ap, eLc_ap, hName_ap, hTup_ap, hNil_ap, hCons_ap, hcK_ap, peek, freeze, arg, peeks, peekA, dsOf, stAppend, stPop, stPopAt, stRev, okI, okB, okS, dAdd, dSub, dMulL, dDiv, dMod, dPow, dNeg, dLt, dLe, dGt, dGe, dIsN, dNotN, isNon, gLen, dLen, gInt, gAbs, gMin2, gMax2, gSum, gAll, gAny, gMin, gMax, gGcd, gList, gTuple, gStr, dIx, dSl, slots, atIx, backs, Dl.put, dTy, dEq_int, dEq_str, dNe_int, outT, back, kill, un1, nxtI_nx, nxtI_ct, nxrI_nx, nxrI_ct, nxrI_rt, lcB_t, lcB_f, lcT_ok, mDef_ap, mdR_nx, mdR_ex, mdR_rt, tyBool, tyInt, tyStr, tyTuple, tyList, List.getElem?_cons_zero, List.getElem?_cons_succ, List.getElem?_nil, List.set_cons_zero, List.set_cons_succ, List.set_nil, List.length_cons, List.length_nil, List.replicate_succ, List.replicate_zero, List.cons_append, List.nil_append, List.append_nil, ite_true, ite_false, if_true, if_false, Option.map_some, Option.map_none, reduceIte, List.nodup_nil, List.nodup_cons, List.not_mem_nil, not_false_eq_true, and_self, Option.bind_some, Option.getD_some, decide_true, decide_false, Bool.false_eq_true, Bool.true_eq_false, PySem.sizeLine_eq, hml, if_pos, hmx, hmxv]
        have hHb : H = -1 ∨ H = sp := by
          by_cases hi : (i : Int) ∈ pl
          · exact .inr (hH2 hi)
          · exact .inl (hH1 hi)
        have hHi : (i : Int) ∈ pl → 0 ≤ H := fun hi => by rw [hH2 hi]; exact hsp (fun z => by rw [z] at hi; cases hi)
        have hHg : pl = [] → H < 0 := fun z => by rw [hH1 (by rw [z]; simp)]; omega
        by_cases c4 : K < 4 ∨ 9 < 1 + mx ∨ (K = 4 ∧ M = 0)
        · -- a leaf is put on
          have hl1 : st.length < 16777216 := by omega
          have fin : I (i + 1) [.fz (.scr (ns.map D.int)), .ow true (.lst (v2.map D.int)), .fz (.int n), .fz (.int steps), .fz (.bl tall), .fz (.lst (pl.map D.int)), .fz (.int sp), .ow false (.lst (st.map pr ++ [.tup [lf, .int 1]])), .un, .un, .un, .un, .un, .un, .un, .un, .un] := by
            rw [hI]
            refine ⟨v2, st ++ [(lf, 1, decide (H < 0))], by simp [pr], ?_⟩
            have := stk_push (e := (lf, 1, decide (H < 0))) st.length hS ⟨Int.le_refl _, (show (1 : Int) ≤ 9 by decide), ?_⟩ (fun z => by simpa using hHg z) (fun z => by simpa using hHi z) (fun ⟨x, z, _⟩ => by rw [List.drop_length] at z; cases z)
            · rwa [List.take_length] at this
            · by_cases hH : H < 0
              · rw [decide_eq_true hH]; exact lgood hH
              · rw [decide_eq_false hH]; exact lbad (by omega)
          rcases c4 with c | c | ⟨c, d⟩
          · simp (disch := omega) [bind_ok, bind_ex, bind_no, so_ok, so_ex, so_no, sSeq_ap, bS_nx, bS_rt, bS_ex, bS_bk, bS_ct, bS_no, sNil_ap, sBrk_ap, sCnt_ap, sRetN_ap, sRet_ap, sExpr_ap, kNx_ap, sSet_ap, asg_fz, asg_new, asg_at, setSl, sIf_ap, ifK_t, ifK_f, sRaise_ap, putK, sPut_ap, putAt, augK, tgK, sTg_ap, parK, sPar_ap, forK, sFor_ap, sWhile_ap, tryK, sTryM_ap, eVar_ap, eC_ap, e2b, e2_ap, e2a_ap, e1a, e1_ap, tb_ap, tbK_ap, trK, tr_ap, truth, bAnd_ap, bOr_ap, bNot_ap, andK_t, andK_f, orK_t, orK_f, notK_ap, bYes_ap, eAnd_ap, eOr_ap, eNot_ap, eandK_t, eandK_f, eorK_t, eorK_f, enotK_ap, eIf_ap, eifK_t, eifK_f, eCh_ap, ch1_ap, chA, chB_t, chB_f, chC, aNil_ap, aCons_ap, acK_ap, acM_some, acM_none, acL_ap, cbK, eCB_ap, tupK, lstK, eTup_ap, eLst_ap, mtK, eMt_ap, slC, eSl_ap, slA_ap, slB_ap, eo_none, eo_some, eoK_ap, eCall_ap, callM_ap, callR_fz, callR_new, callR_ex, nHere_ap, nhK_new, nhL_ap, ncL, ncK, nCons_ap, cnK, eCallN_ap, dropR, itK, eIt_ap, r1K, r2K, eR1_ap, eR2_ap, eLc_ap, hName_ap, hTup_ap, hNil_ap, hCons_ap, hcK_ap, peek, freeze, arg, peeks, peekA, dsOf, stAppend, stPop, stPopAt, stRev, okI, okB, okS, dAdd, dSub, dMulL, dDiv, dMod, dPow, dNeg, dLt, dLe, dGt, dGe, dIsN, dNotN, isNon, gLen, dLen, gInt, gAbs, gMin2, gMax2, gSum, gAll, gAny, gMin, gMax, gGcd, gList, gTuple, gStr, dIx, dSl, slots, atIx, backs, Dl.put, dTy, dEq_int, dEq_str, dNe_int, outT, back, kill, un1, nxtI_nx, nxtI_ct, nxrI_nx, nxrI_ct, nxrI_rt, lcB_t, lcB_f, lcT_ok, mDef_ap, mdR_nx, mdR_ex, mdR_rt, tyBool, tyInt, tyStr, tyTuple, tyList, List.getElem?_cons_zero, List.getElem?_cons_succ, List.getElem?_nil, List.set_cons_zero, List.set_cons_succ, List.set_nil, List.length_cons, List.length_nil, List.replicate_succ, List.replicate_zero, List.cons_append, List.nil_append, List.append_nil, ite_true, ite_false, if_true, if_false, Option.map_some, Option.map_none, reduceIte, List.nodup_nil, List.nodup_cons, List.not_mem_nil, not_false_eq_true, and_self, Option.bind_some, Option.getD_some, decide_true, decide_false, Bool.false_eq_true, Bool.true_eq_false, PySem.sizeLine_eq, c, hl1, if_pos, fin]
          · by_cases c' : K < 4
            · simp (disch := omega) [bind_ok, bind_ex, bind_no, so_ok, so_ex, so_no, sSeq_ap, bS_nx, bS_rt, bS_ex, bS_bk, bS_ct, bS_no, sNil_ap, sBrk_ap, sCnt_ap, sRetN_ap, sRet_ap, sExpr_ap, kNx_ap, sSet_ap, asg_fz, asg_new, asg_at, setSl, sIf_ap, ifK_t, ifK_f, sRaise_ap, putK, sPut_ap, putAt, augK, tgK, sTg_ap, parK, sPar_ap, forK, sFor_ap, sWhile_ap, tryK, sTryM_ap, eVar_ap, eC_ap, e2b, e2_ap, e2a_ap, e1a, e1_ap, tb_ap, tbK_ap, trK, tr_ap, truth, bAnd_ap, bOr_ap, bNot_ap, andK_t, andK_f, orK_t, orK_f, notK_ap, bYes_ap, eAnd_ap, eOr_ap, eNot_ap, eandK_t, eandK_f, eorK_t, eorK_f, enotK_ap, eIf_ap, eifK_t, eifK_f, eCh_ap, ch1_ap, chA, chB_t, chB_f, chC, aNil_ap, aCons_ap, acK_ap, acM_some, acM_none, acL_ap, cbK, eCB_ap, tupK, lstK, eTup_ap, eLst_ap, mtK, eMt_ap, slC, eSl_ap, slA_ap, slB_ap, eo_none, eo_some, eoK_ap, eCall_ap, callM_ap, callR_fz, callR_new, callR_ex, nHere_ap, nhK_new, nhL_ap, ncL, ncK, nCons_ap, cnK, eCallN_ap, dropR, itK, eIt_ap, r1K, r2K, eR1_ap, eR2_ap, eLc_ap, hName_ap, hTup_ap, hNil_ap, hCons_ap, hcK_ap, peek, freeze, arg, peeks, peekA, dsOf, stAppend, stPop, stPopAt, stRev, okI, okB, okS, dAdd, dSub, dMulL, dDiv, dMod, dPow, dNeg, dLt, dLe, dGt, dGe, dIsN, dNotN, isNon, gLen, dLen, gInt, gAbs, gMin2, gMax2, gSum, gAll, gAny, gMin, gMax, gGcd, gList, gTuple, gStr, dIx, dSl, slots, atIx, backs, Dl.put, dTy, dEq_int, dEq_str, dNe_int, outT, back, kill, un1, nxtI_nx, nxtI_ct, nxrI_nx, nxrI_ct, nxrI_rt, lcB_t, lcB_f, lcT_ok, mDef_ap, mdR_nx, mdR_ex, mdR_rt, tyBool, tyInt, tyStr, tyTuple, tyList, List.getElem?_cons_zero, List.getElem?_cons_succ, List.getElem?_nil, List.set_cons_zero, List.set_cons_succ, List.set_nil, List.length_cons, List.length_nil, List.replicate_succ, List.replicate_zero, List.cons_append, List.nil_append, List.append_nil, ite_true, ite_false, if_true, if_false, Option.map_some, Option.map_none, reduceIte, List.nodup_nil, List.nodup_cons, List.not_mem_nil, not_false_eq_true, and_self, Option.bind_some, Option.getD_some, decide_true, decide_false, Bool.false_eq_true, Bool.true_eq_false, PySem.sizeLine_eq, c', hl1, if_pos, fin]
            · simp (disch := omega) [bind_ok, bind_ex, bind_no, so_ok, so_ex, so_no, sSeq_ap, bS_nx, bS_rt, bS_ex, bS_bk, bS_ct, bS_no, sNil_ap, sBrk_ap, sCnt_ap, sRetN_ap, sRet_ap, sExpr_ap, kNx_ap, sSet_ap, asg_fz, asg_new, asg_at, setSl, sIf_ap, ifK_t, ifK_f, sRaise_ap, putK, sPut_ap, putAt, augK, tgK, sTg_ap, parK, sPar_ap, forK, sFor_ap, sWhile_ap, tryK, sTryM_ap, eVar_ap, eC_ap, e2b, e2_ap, e2a_ap, e1a, e1_ap, tb_ap, tbK_ap, trK, tr_ap, truth, bAnd_ap, bOr_ap, bNot_ap, andK_t, andK_f, orK_t, orK_f, notK_ap, bYes_ap, eAnd_ap, eOr_ap, eNot_ap, eandK_t, eandK_f, eorK_t, eorK_f, enotK_ap, eIf_ap, eifK_t, eifK_f, eCh_ap, ch1_ap, chA, chB_t, chB_f, chC, aNil_ap, aCons_ap, acK_ap, acM_some, acM_none, acL_ap, cbK, eCB_ap, tupK, lstK, eTup_ap, eLst_ap, mtK, eMt_ap, slC, eSl_ap, slA_ap, slB_ap, eo_none, eo_some, eoK_ap, eCall_ap, callM_ap, callR_fz, callR_new, callR_ex, nHere_ap, nhK_new, nhL_ap, ncL, ncK, nCons_ap, cnK, eCallN_ap, dropR, itK, eIt_ap, r1K, r2K, eR1_ap, eR2_ap, eLc_ap, hName_ap, hTup_ap, hNil_ap, hCons_ap, hcK_ap, peek, freeze, arg, peeks, peekA, dsOf, stAppend, stPop, stPopAt, stRev, okI, okB, okS, dAdd, dSub, dMulL, dDiv, dMod, dPow, dNeg, dLt, dLe, dGt, dGe, dIsN, dNotN, isNon, gLen, dLen, gInt, gAbs, gMin2, gMax2, gSum, gAll, gAny, gMin, gMax, gGcd, gList, gTuple, gStr, dIx, dSl, slots, atIx, backs, Dl.put, dTy, dEq_int, dEq_str, dNe_int, outT, back, kill, un1, nxtI_nx, nxtI_ct, nxrI_nx, nxrI_ct, nxrI_rt, lcB_t, lcB_f, lcT_ok, mDef_ap, mdR_nx, mdR_ex, mdR_rt, tyBool, tyInt, tyStr, tyTuple, tyList, List.getElem?_cons_zero, List.getElem?_cons_succ, List.getElem?_nil, List.set_cons_zero, List.set_cons_succ, List.set_nil, List.length_cons, List.length_nil, List.replicate_succ, List.replicate_zero, List.cons_append, List.nil_append, List.append_nil, ite_true, ite_false, if_true, if_false, Option.map_some, Option.map_none, reduceIte, List.nodup_nil, List.nodup_cons, List.not_mem_nil, not_false_eq_true, and_self, Option.bind_some, Option.getD_some, decide_true, decide_false, Bool.false_eq_true, Bool.true_eq_false, PySem.sizeLine_eq, c', c, hl1, if_pos, fin]
          · subst c d
            by_cases c' : 9 < 1 + mx
            · simp (disch := omega) [bind_ok, bind_ex, bind_no, so_ok, so_ex, so_no, sSeq_ap, bS_nx, bS_rt, bS_ex, bS_bk, bS_ct, bS_no, sNil_ap, sBrk_ap, sCnt_ap, sRetN_ap, sRet_ap, sExpr_ap, kNx_ap, sSet_ap, asg_fz, asg_new, asg_at, setSl, sIf_ap, ifK_t, ifK_f, sRaise_ap, putK, sPut_ap, putAt, augK, tgK, sTg_ap, parK, sPar_ap, forK, sFor_ap, sWhile_ap, tryK, sTryM_ap, eVar_ap, eC_ap, e2b, e2_ap, e2a_ap, e1a, e1_ap, tb_ap, tbK_ap, trK, tr_ap, truth, bAnd_ap, bOr_ap, bNot_ap, andK_t, andK_f, orK_t, orK_f, notK_ap, bYes_ap, eAnd_ap, eOr_ap, eNot_ap, eandK_t, eandK_f, eorK_t, eorK_f, enotK_ap, eIf_ap, eifK_t, eifK_f, eCh_ap, ch1_ap, chA, chB_t, chB_f, chC, aNil_ap, aCons_ap, acK_ap, acM_some, acM_none, acL_ap, cbK, eCB_ap, tupK, lstK, eTup_ap, eLst_ap, mtK, eMt_ap, slC, eSl_ap, slA_ap, slB_ap, eo_none, eo_some, eoK_ap, eCall_ap, callM_ap, callR_fz, callR_new, callR_ex, nHere_ap, nhK_new, nhL_ap, ncL, ncK, nCons_ap, cnK, eCallN_ap, dropR, itK, eIt_ap, r1K, r2K, eR1_ap, eR2_ap, eLc_ap, hName_ap, hTup_ap, hNil_ap, hCons_ap, hcK_ap, peek, freeze, arg, peeks, peekA, dsOf, stAppend, stPop, stPopAt, stRev, okI, okB, okS, dAdd, dSub, dMulL, dDiv, dMod, dPow, dNeg, dLt, dLe, dGt, dGe, dIsN, dNotN, isNon, gLen, dLen, gInt, gAbs, gMin2, gMax2, gSum, gAll, gAny, gMin, gMax, gGcd, gList, gTuple, gStr, dIx, dSl, slots, atIx, backs, Dl.put, dTy, dEq_int, dEq_str, dNe_int, outT, back, kill, un1, nxtI_nx, nxtI_ct, nxrI_nx, nxrI_ct, nxrI_rt, lcB_t, lcB_f, lcT_ok, mDef_ap, mdR_nx, mdR_ex, mdR_rt, tyBool, tyInt, tyStr, tyTuple, tyList, List.getElem?_cons_zero, List.getElem?_cons_succ, List.getElem?_nil, List.set_cons_zero, List.set_cons_succ, List.set_nil, List.length_cons, List.length_nil, List.replicate_succ, List.replicate_zero, List.cons_append, List.nil_append, List.append_nil, ite_true, ite_false, if_true, if_false, Option.map_some, Option.map_none, reduceIte, List.nodup_nil, List.nodup_cons, List.not_mem_nil, not_false_eq_true, and_self, Option.bind_some, Option.getD_some, decide_true, decide_false, Bool.false_eq_true, Bool.true_eq_false, PySem.sizeLine_eq, c', hl1, if_pos, fin]
            · simp (disch := omega) [bind_ok, bind_ex, bind_no, so_ok, so_ex, so_no, sSeq_ap, bS_nx, bS_rt, bS_ex, bS_bk, bS_ct, bS_no, sNil_ap, sBrk_ap, sCnt_ap, sRetN_ap, sRet_ap, sExpr_ap, kNx_ap, sSet_ap, asg_fz, asg_new, asg_at, setSl, sIf_ap, ifK_t, ifK_f, sRaise_ap, putK, sPut_ap, putAt, augK, tgK, sTg_ap, parK, sPar_ap, forK, sFor_ap, sWhile_ap, tryK, sTryM_ap, eVar_ap, eC_ap, e2b, e2_ap, e2a_ap, e1a, e1_ap, tb_ap, tbK_ap, trK, tr_ap, truth, bAnd_ap, bOr_ap, bNot_ap, andK_t, andK_f, orK_t, orK_f, notK_ap, bYes_ap, eAnd_ap, eOr_ap, eNot_ap, eandK_t, eandK_f, eorK_t, eorK_f, enotK_ap, eIf_ap, eifK_t, eifK_f, eCh_ap, ch1_ap, chA, chB_t, chB_f, chC, aNil_ap, aCons_ap, acK_ap, acM_some, acM_none, acL_ap, cbK, eCB_ap, tupK, lstK, eTup_ap, eLst_ap, mtK, eMt_ap, slC, eSl_ap, slA_ap, slB_ap, eo_none, eo_some, eoK_ap, eCall_ap, callM_ap, callR_fz, callR_new, callR_ex, nHere_ap, nhK_new, nhL_ap, ncL, ncK, nCons_ap, cnK, eCallN_ap, dropR, itK, eIt_ap, r1K, r2K, eR1_ap, eR2_ap, eLc_ap, hName_ap, hTup_ap, hNil_ap, hCons_ap, hcK_ap, peek, freeze, arg, peeks, peekA, dsOf, stAppend, stPop, stPopAt, stRev, okI, okB, okS, dAdd, dSub, dMulL, dDiv, dMod, dPow, dNeg, dLt, dLe, dGt, dGe, dIsN, dNotN, isNon, gLen, dLen, gInt, gAbs, gMin2, gMax2, gSum, gAll, gAny, gMin, gMax, gGcd, gList, gTuple, gStr, dIx, dSl, slots, atIx, backs, Dl.put, dTy, dEq_int, dEq_str, dNe_int, outT, back, kill, un1, nxtI_nx, nxtI_ct, nxrI_nx, nxrI_ct, nxrI_rt, lcB_t, lcB_f, lcT_ok, mDef_ap, mdR_nx, mdR_ex, mdR_rt, tyBool, tyInt, tyStr, tyTuple, tyList, List.getElem?_cons_zero, List.getElem?_cons_succ, List.getElem?_nil, List.set_cons_zero, List.set_cons_succ, List.set_nil, List.length_cons, List.length_nil, List.replicate_succ, List.replicate_zero, List.cons_append, List.nil_append, List.append_nil, ite_true, ite_false, if_true, if_false, Option.map_some, Option.map_none, reduceIte, List.nodup_nil, List.nodup_cons, List.not_mem_nil, not_false_eq_true, and_self, Option.bind_some, Option.getD_some, decide_true, decide_false, Bool.false_eq_true, Bool.true_eq_false, PySem.sizeLine_eq, c', hl1, if_pos, fin]
        · -- a part is made
          have n1 : ¬ K < 4 := fun z => c4 (.inl z)
          have n2 : ¬ 9 < 1 + mx := fun z => c4 (.inr (.inl z))
          obtain ⟨wn, wt, wk4, wk, hat⟩ := name_any K H (by omega) k1
          have htl : List.take ((st.length : Int) - M).toNat (List.map pr st) = (st.take ((st.length : Int) - M).toNat).map pr := by rw [List.map_take]
          have fin : ∀ (W : D) (b : Bool), Ent n (W, 1 + mx, b) → (pl = [] → b = true) → ((i : Int) ∈ pl → b = false) → ((∃ x ∈ pt, x.2.2 = false) → b = false) →
              I (i + 1) [.fz (.scr (ns.map D.int)), .ow true (.lst (v2.map D.int)), .fz (.int n), .fz (.int steps), .fz (.bl tall), .fz (.lst (pl.map D.int)), .fz (.int sp), .ow false (.lst (List.take ((st.length : Int) - M).toNat (List.map pr st) ++ [.tup [W, .int (1 + mx)]])), .un, .un, .un, .un, .un, .un, .un, .un, .un] := fun W b x1 x2 x3 x4 => by
            rw [hI]
            refine ⟨v2, st.take ((st.length : Int) - M).toNat ++ [(W, 1 + mx, b)], by rw [htl]; simp [pr], ?_⟩
            exact stk_push (e := (W, 1 + mx, b)) _ hS x1 x2 x3 (by rw [hpt]; exact x4)
          have hln : (List.take ((st.length : Int) - M).toNat (List.map pr st)).length + 1 ≤ 16777216 := by rw [List.length_take, List.length_map]; omega
          have hlm : min ((st.length : Int) - M).toNat st.length + 1 ≤ 16777216 := by omega
          have hH2f : 0 ≤ H → (2 * H).fmod 2 = 0 := fun _ => by rw [Int.mul_comm]; exact Int.mul_fmod_left H 2
          have hHbits : bits 2 + bits H ≤ 100000000 := by
            have z1 : bits 2 = 1 := by decide
            have z2 : bits H < 64 := by
              unfold bits
              by_cases z : H.natAbs = 0
              · rw [z]; decide
              · rw [Nat.log2_lt z]
                have : H.natAbs < 1000000000001 := by omega
                exact Nat.lt_trans this (by decide)
            omega
          have hmxI : mx.toNat + 1 = (1 + mx).toNat := by omega
          have d1 : 1 ≤ 1 + mx := by omega
          have d9 : 1 + mx ≤ 9 := by omega
          by_cases k4 : K = 4
          · have hM : M = 1 := by
              have := km k4
              have : ¬ M = 0 := fun z => c4 (.inr (.inr ⟨k4, z⟩))
              omega
            have hMn : ¬ M = 0 := by omega
            obtain ⟨e0, he0⟩ : ∃ e0, pt = [e0] := by
              rw [hM] at hptl
              match pt, hptl with
              | [e0], _ => exact ⟨e0, rfl⟩
            have E0 := hptE e0 (by rw [he0]; simp)
            have m0' := hme e0 (by rw [he0]; simp)
            have hiw := iw_not (E0.2.2.mono (show e0.2.1.toNat ≤ mx.toNat by omega))
            rw [hmxI] at hiw
            simp (disch := omega) [bind_ok, bind_ex, bind_no, so_ok, so_ex, so_no, sSeq_ap, bS_nx, bS_rt, bS_ex, bS_bk, bS_ct, bS_no, sNil_ap, sBrk_ap, sCnt_ap, sRetN_ap, sRet_ap, sExpr_ap, kNx_ap, sSet_ap, asg_fz, asg_new, asg_at, setSl, sIf_ap, ifK_t, ifK_f, sRaise_ap, putK, sPut_ap, putAt, augK, tgK, sTg_ap, parK, sPar_ap, forK, sFor_ap, sWhile_ap, tryK, sTryM_ap, eVar_ap, eC_ap, e2b, e2_ap, e2a_ap, e1a, e1_ap, tb_ap, tbK_ap, trK, tr_ap, truth, bAnd_ap, bOr_ap, bNot_ap, andK_t, andK_f, orK_t, orK_f, notK_ap, bYes_ap, eAnd_ap, eOr_ap, eNot_ap, eandK_t, eandK_f, eorK_t, eorK_f, enotK_ap, eIf_ap, eifK_t, eifK_f, eCh_ap, ch1_ap, chA, chB_t, chB_f, chC, aNil_ap, aCons_ap, acK_ap, acM_some, acM_none, acL_ap, cbK, eCB_ap, tupK, lstK, eTup_ap, eLst_ap, mtK, eMt_ap, slC, eSl_ap, slA_ap, slB_ap, eo_none, eo_some, eoK_ap, eCall_ap, callM_ap, callR_fz, callR_new, callR_ex, nHere_ap, nhK_new, nhL_ap, ncL, ncK, nCons_ap, cnK, eCallN_ap, dropR, itK, eIt_ap, r1K, r2K, eR1_ap, eR2_ap, eLc_ap, hName_ap, hTup_ap, hNil_ap, hCons_ap, hcK_ap, peek, freeze, arg, peeks, peekA, dsOf, stAppend, stPop, stPopAt, stRev, okI, okB, okS, dAdd, dSub, dMulL, dDiv, dMod, dPow, dNeg, dLt, dLe, dGt, dGe, dIsN, dNotN, isNon, gLen, dLen, gInt, gAbs, gMin2, gMax2, gSum, gAll, gAny, gMin, gMax, gGcd, gList, gTuple, gStr, dIx, dSl, slots, atIx, backs, Dl.put, dTy, dEq_int, dEq_str, dNe_int, outT, back, kill, un1, nxtI_nx, nxtI_ct, nxrI_nx, nxrI_ct, nxrI_rt, lcB_t, lcB_f, lcT_ok, mDef_ap, mdR_nx, mdR_ex, mdR_rt, tyBool, tyInt, tyStr, tyTuple, tyList, List.getElem?_cons_zero, List.getElem?_cons_succ, List.getElem?_nil, List.set_cons_zero, List.set_cons_succ, List.set_nil, List.length_cons, List.length_nil, List.replicate_succ, List.replicate_zero, List.cons_append, List.nil_append, List.append_nil, ite_true, ite_false, if_true, if_false, Option.map_some, Option.map_none, reduceIte, List.nodup_nil, List.nodup_cons, List.not_mem_nil, not_false_eq_true, and_self, Option.bind_some, Option.getD_some, decide_true, decide_false, Bool.false_eq_true, Bool.true_eq_false, PySem.sizeLine_eq, n1, n2, hMn, k4, if_pos]
            rw [comp_ix 0 (fun e => e.1) (fun e => rfl) pt (by omega) _ (.inl rfl)]
            have hat0 : atI (pt.map fun e => e.1) 0 = some e0.1 := by rw [he0]; rfl
            rw [k4, show (4 : Int) - 4 = 0 by decide] at hat
            have hw := wk4 k4
            by_cases hH : 0 ≤ H
            · obtain ⟨s, s1, s2, s3⟩ := name_bad wn (2 * H) wt (by omega) (hH2f hH)
              have f := fin (.tup [.str s, e0.1]) false ⟨d1, d9, (iw_bad n s _ s1).mono (by show 1 ≤ (1 + mx).toNat; omega)⟩ (fun z => by have := hHg z; omega) (fun _ => rfl) (fun _ => rfl)
              simp (disch := omega) [bind_ok, bind_ex, bind_no, so_ok, so_ex, so_no, sSeq_ap, bS_nx, bS_rt, bS_ex, bS_bk, bS_ct, bS_no, sNil_ap, sBrk_ap, sCnt_ap, sRetN_ap, sRet_ap, sExpr_ap, kNx_ap, sSet_ap, asg_fz, asg_new, asg_at, setSl, sIf_ap, ifK_t, ifK_f, sRaise_ap, putK, sPut_ap, putAt, augK, tgK, sTg_ap, parK, sPar_ap, forK, sFor_ap, sWhile_ap, tryK, sTryM_ap, eVar_ap, eC_ap, e2b, e2_ap, e2a_ap, e1a, e1_ap, tb_ap, tbK_ap, trK, tr_ap, truth, bAnd_ap, bOr_ap, bNot_ap, andK_t, andK_f, orK_t, orK_f, notK_ap, bYes_ap, eAnd_ap, eOr_ap, eNot_ap, eandK_t, eandK_f, eorK_t, eorK_f, enotK_ap, eIf_ap, eifK_t, eifK_f, eCh_ap, ch1_ap, chA, chB_t, chB_f, chC, aNil_ap, aCons_ap, acK_ap, acM_some, acM_none, acL_ap, cbK, eCB_ap, tupK, lstK, eTup_ap, eLst_ap, mtK, eMt_ap, slC, eSl_ap, slA_ap, slB_ap, eo_none, eo_some, eoK_ap, eCall_ap, callM_ap, callR_fz, callR_new, callR_ex, nHere_ap, nhK_new, nhL_ap, ncL, ncK, nCons_ap, cnK, eCallN_ap, dropR, itK, eIt_ap, r1K, r2K, eR1_ap, eR2_ap, eLc_ap, hName_ap, hTup_ap, hNil_ap, hCons_ap, hcK_ap, peek, freeze, arg, peeks, peekA, dsOf, stAppend, stPop, stPopAt, stRev, okI, okB, okS, dAdd, dSub, dMulL, dDiv, dMod, dPow, dNeg, dLt, dLe, dGt, dGe, dIsN, dNotN, isNon, gLen, dLen, gInt, gAbs, gMin2, gMax2, gSum, gAll, gAny, gMin, gMax, gGcd, gList, gTuple, gStr, dIx, dSl, slots, atIx, backs, Dl.put, dTy, dEq_int, dEq_str, dNe_int, outT, back, kill, un1, nxtI_nx, nxtI_ct, nxrI_nx, nxrI_ct, nxrI_rt, lcB_t, lcB_f, lcT_ok, mDef_ap, mdR_nx, mdR_ex, mdR_rt, tyBool, tyInt, tyStr, tyTuple, tyList, List.getElem?_cons_zero, List.getElem?_cons_succ, List.getElem?_nil, List.set_cons_zero, List.set_cons_succ, List.set_nil, List.length_cons, List.length_nil, List.replicate_succ, List.replicate_zero, List.cons_append, List.nil_append, List.append_nil, ite_true, ite_false, if_true, if_false, Option.map_some, Option.map_none, reduceIte, List.nodup_nil, List.nodup_cons, List.not_mem_nil, not_false_eq_true, and_self, Option.bind_some, Option.getD_some, decide_true, decide_false, Bool.false_eq_true, Bool.true_eq_false, PySem.sizeLine_eq, n1, n2, hMn, k4, if_pos, hat0, hH, hHbits, hat, s3, cut_toI _ hcut, hln, hlm, f]
            · have f := fin (.tup [.str wn, e0.1]) e0.2.2 ⟨d1, d9, by rw [hw]; exact hiw⟩ (fun z => hS.good z e0 (hptm e0 (by rw [he0]; simp))) (fun z => by have := hHi z; omega) (fun ⟨x, x1, x2⟩ => by rw [he0] at x1; rcases List.mem_singleton.mp x1 with rfl; exact x2)
              have nk := name_keep wn H (.inl (by omega))
              simp (disch := omega) [bind_ok, bind_ex, bind_no, so_ok, so_ex, so_no, sSeq_ap, bS_nx, bS_rt, bS_ex, bS_bk, bS_ct, bS_no, sNil_ap, sBrk_ap, sCnt_ap, sRetN_ap, sRet_ap, sExpr_ap, kNx_ap, sSet_ap, asg_fz, asg_new, asg_at, setSl, sIf_ap, ifK_t, ifK_f, sRaise_ap, putK, sPut_ap, putAt, augK, tgK, sTg_ap, parK, sPar_ap, forK, sFor_ap, sWhile_ap, tryK, sTryM_ap, eVar_ap, eC_ap, e2b, e2_ap, e2a_ap, e1a, e1_ap, tb_ap, tbK_ap, trK, tr_ap, truth, bAnd_ap, bOr_ap, bNot_ap, andK_t, andK_f, orK_t, orK_f, notK_ap, bYes_ap, eAnd_ap, eOr_ap, eNot_ap, eandK_t, eandK_f, eorK_t, eorK_f, enotK_ap, eIf_ap, eifK_t, eifK_f, eCh_ap, ch1_ap, chA, chB_t, chB_f, chC, aNil_ap, aCons_ap, acK_ap, acM_some, acM_none, acL_ap, cbK, eCB_ap, tupK, lstK, eTup_ap, eLst_ap, mtK, eMt_ap, slC, eSl_ap, slA_ap, slB_ap, eo_none, eo_some, eoK_ap, eCall_ap, callM_ap, callR_fz, callR_new, callR_ex, nHere_ap, nhK_new, nhL_ap, ncL, ncK, nCons_ap, cnK, eCallN_ap, dropR, itK, eIt_ap, r1K, r2K, eR1_ap, eR2_ap, eLc_ap, hName_ap, hTup_ap, hNil_ap, hCons_ap, hcK_ap, peek, freeze, arg, peeks, peekA, dsOf, stAppend, stPop, stPopAt, stRev, okI, okB, okS, dAdd, dSub, dMulL, dDiv, dMod, dPow, dNeg, dLt, dLe, dGt, dGe, dIsN, dNotN, isNon, gLen, dLen, gInt, gAbs, gMin2, gMax2, gSum, gAll, gAny, gMin, gMax, gGcd, gList, gTuple, gStr, dIx, dSl, slots, atIx, backs, Dl.put, dTy, dEq_int, dEq_str, dNe_int, outT, back, kill, un1, nxtI_nx, nxtI_ct, nxrI_nx, nxrI_ct, nxrI_rt, lcB_t, lcB_f, lcT_ok, mDef_ap, mdR_nx, mdR_ex, mdR_rt, tyBool, tyInt, tyStr, tyTuple, tyList, List.getElem?_cons_zero, List.getElem?_cons_succ, List.getElem?_nil, List.set_cons_zero, List.set_cons_succ, List.set_nil, List.length_cons, List.length_nil, List.replicate_succ, List.replicate_zero, List.cons_append, List.nil_append, List.append_nil, ite_true, ite_false, if_true, if_false, Option.map_some, Option.map_none, reduceIte, List.nodup_nil, List.nodup_cons, List.not_mem_nil, not_false_eq_true, and_self, Option.bind_some, Option.getD_some, decide_true, decide_false, Bool.false_eq_true, Bool.true_eq_false, PySem.sizeLine_eq, n1, n2, hMn, k4, if_pos, hat0, hH, hHbits, hat, nk, cut_toI _ hcut, hln, hlm, f]
          · simp (disch := omega) [bind_ok, bind_ex, bind_no, so_ok, so_ex, so_no, sSeq_ap, bS_nx, bS_rt, bS_ex, bS_bk, bS_ct, bS_no, sNil_ap, sBrk_ap, sCnt_ap, sRetN_ap, sRet_ap, sExpr_ap, kNx_ap, sSet_ap, asg_fz, asg_new, asg_at, setSl, sIf_ap, ifK_t, ifK_f, sRaise_ap, putK, sPut_ap, putAt, augK, tgK, sTg_ap, parK, sPar_ap, forK, sFor_ap, sWhile_ap, tryK, sTryM_ap, eVar_ap, eC_ap, e2b, e2_ap, e2a_ap, e1a, e1_ap, tb_ap, tbK_ap, trK, tr_ap, truth, bAnd_ap, bOr_ap, bNot_ap, andK_t, andK_f, orK_t, orK_f, notK_ap, bYes_ap, eAnd_ap, eOr_ap, eNot_ap, eandK_t, eandK_f, eorK_t, eorK_f, enotK_ap, eIf_ap, eifK_t, eifK_f, eCh_ap, ch1_ap, chA, chB_t, chB_f, chC, aNil_ap, aCons_ap, acK_ap, acM_some, acM_none, acL_ap, cbK, eCB_ap, tupK, lstK, eTup_ap, eLst_ap, mtK, eMt_ap, slC, eSl_ap, slA_ap, slB_ap, eo_none, eo_some, eoK_ap, eCall_ap, callM_ap, callR_fz, callR_new, callR_ex, nHere_ap, nhK_new, nhL_ap, ncL, ncK, nCons_ap, cnK, eCallN_ap, dropR, itK, eIt_ap, r1K, r2K, eR1_ap, eR2_ap, eLc_ap, hName_ap, hTup_ap, hNil_ap, hCons_ap, hcK_ap, peek, freeze, arg, peeks, peekA, dsOf, stAppend, stPop, stPopAt, stRev, okI, okB, okS, dAdd, dSub, dMulL, dDiv, dMod, dPow, dNeg, dLt, dLe, dGt, dGe, dIsN, dNotN, isNon, gLen, dLen, gInt, gAbs, gMin2, gMax2, gSum, gAll, gAny, gMin, gMax, gGcd, gList, gTuple, gStr, dIx, dSl, slots, atIx, backs, Dl.put, dTy, dEq_int, dEq_str, dNe_int, outT, back, kill, un1, nxtI_nx, nxtI_ct, nxrI_nx, nxrI_ct, nxrI_rt, lcB_t, lcB_f, lcT_ok, mDef_ap, mdR_nx, mdR_ex, mdR_rt, tyBool, tyInt, tyStr, tyTuple, tyList, List.getElem?_cons_zero, List.getElem?_cons_succ, List.getElem?_nil, List.set_cons_zero, List.set_cons_succ, List.set_nil, List.length_cons, List.length_nil, List.replicate_succ, List.replicate_zero, List.cons_append, List.nil_append, List.append_nil, ite_true, ite_false, if_true, if_false, Option.map_some, Option.map_none, reduceIte, List.nodup_nil, List.nodup_cons, List.not_mem_nil, not_false_eq_true, and_self, Option.bind_some, Option.getD_some, decide_true, decide_false, Bool.false_eq_true, Bool.true_eq_false, PySem.sizeLine_eq, n1, n2, k4, if_pos]
            rw [comp_ix 0 (fun e => e.1) (fun e => rfl) pt (by omega) _ (.inl rfl)]
            by_cases hH : 0 ≤ H
            · obtain ⟨s, s1, s2, s3⟩ := name_bad wn (2 * H) wt (by omega) (hH2f hH)
              have f := fin (.tup [.str s, .tup (pt.map fun e => e.1)]) false ⟨d1, d9, (iw_bad n s _ s1).mono (by show 1 ≤ (1 + mx).toNat; omega)⟩ (fun z => by have := hHg z; omega) (fun _ => rfl) (fun _ => rfl)
              simp (disch := omega) [bind_ok, bind_ex, bind_no, so_ok, so_ex, so_no, sSeq_ap, bS_nx, bS_rt, bS_ex, bS_bk, bS_ct, bS_no, sNil_ap, sBrk_ap, sCnt_ap, sRetN_ap, sRet_ap, sExpr_ap, kNx_ap, sSet_ap, asg_fz, asg_new, asg_at, setSl, sIf_ap, ifK_t, ifK_f, sRaise_ap, putK, sPut_ap, putAt, augK, tgK, sTg_ap, parK, sPar_ap, forK, sFor_ap, sWhile_ap, tryK, sTryM_ap, eVar_ap, eC_ap, e2b, e2_ap, e2a_ap, e1a, e1_ap, tb_ap, tbK_ap, trK, tr_ap, truth, bAnd_ap, bOr_ap, bNot_ap, andK_t, andK_f, orK_t, orK_f, notK_ap, bYes_ap, eAnd_ap, eOr_ap, eNot_ap, eandK_t, eandK_f, eorK_t, eorK_f, enotK_ap, eIf_ap, eifK_t, eifK_f, eCh_ap, ch1_ap, chA, chB_t, chB_f, chC, aNil_ap, aCons_ap, acK_ap, acM_some, acM_none, acL_ap, cbK, eCB_ap, tupK, lstK, eTup_ap, eLst_ap, mtK, eMt_ap, slC, eSl_ap, slA_ap, slB_ap, eo_none, eo_some, eoK_ap, eCall_ap, callM_ap, callR_fz, callR_new, callR_ex, nHere_ap, nhK_new, nhL_ap, ncL, ncK, nCons_ap, cnK, eCallN_ap, dropR, itK, eIt_ap, r1K, r2K, eR1_ap, eR2_ap, eLc_ap, hName_ap, hTup_ap, hNil_ap, hCons_ap, hcK_ap, peek, freeze, arg, peeks, peekA, dsOf, stAppend, stPop, stPopAt, stRev, okI, okB, okS, dAdd, dSub, dMulL, dDiv, dMod, dPow, dNeg, dLt, dLe, dGt, dGe, dIsN, dNotN, isNon, gLen, dLen, gInt, gAbs, gMin2, gMax2, gSum, gAll, gAny, gMin, gMax, gGcd, gList, gTuple, gStr, dIx, dSl, slots, atIx, backs, Dl.put, dTy, dEq_int, dEq_str, dNe_int, outT, back, kill, un1, nxtI_nx, nxtI_ct, nxrI_nx, nxrI_ct, nxrI_rt, lcB_t, lcB_f, lcT_ok, mDef_ap, mdR_nx, mdR_ex, mdR_rt, tyBool, tyInt, tyStr, tyTuple, tyList, List.getElem?_cons_zero, List.getElem?_cons_succ, List.getElem?_nil, List.set_cons_zero, List.set_cons_succ, List.set_nil, List.length_cons, List.length_nil, List.replicate_succ, List.replicate_zero, List.cons_append, List.nil_append, List.append_nil, ite_true, ite_false, if_true, if_false, Option.map_some, Option.map_none, reduceIte, List.nodup_nil, List.nodup_cons, List.not_mem_nil, not_false_eq_true, and_self, Option.bind_some, Option.getD_some, decide_true, decide_false, Bool.false_eq_true, Bool.true_eq_false, PySem.sizeLine_eq, n1, n2, k4, if_pos, hH, hHbits, hat, s3, cut_toI _ hcut, hln, hlm, f]
            · have hiw := iw_all (n := n) (h := mx.toNat) (ps := pt.map fun e => e.1) (bs := pt.map fun e => e.2.2) (wk k4) (by rw [List.length_map]; omega) (fun j p hp => by
                rw [List.getElem?_map] at hp
                obtain ⟨e, he, rfl⟩ := Option.map_eq_some_iff.mp hp
                have hm := List.mem_of_getElem? he
                have q1 := hptE e hm
                have q2 := hme e hm
                exact ⟨e.2.2, by rw [List.getElem?_map, he]; rfl, q1.2.2.mono (by omega)⟩) (by simp)
              rw [hmxI] at hiw
              have f := fin (.tup [.str wn, .tup (pt.map fun e => e.1)]) ((pt.map fun e => e.2.2).all id) ⟨d1, d9, hiw⟩ (fun z => by
                rw [List.all_eq_true]
                intro b hb
                obtain ⟨e, he, rfl⟩ := List.mem_map.mp hb
                exact hS.good z e (hptm e he)) (fun z => by have := hHi z; omega) (fun ⟨x, x1, x2⟩ => by
                rw [List.all_eq_false]
                exact ⟨x.2.2, List.mem_map_of_mem x1, by rw [x2]; simp⟩)
              have nk := name_keep wn H (.inl (by omega))
              simp (disch := omega) [bind_ok, bind_ex, bind_no, so_ok, so_ex, so_no, sSeq_ap, bS_nx, bS_rt, bS_ex, bS_bk, bS_ct, bS_no, sNil_ap, sBrk_ap, sCnt_ap, sRetN_ap, sRet_ap, sExpr_ap, kNx_ap, sSet_ap, asg_fz, asg_new, asg_at, setSl, sIf_ap, ifK_t, ifK_f, sRaise_ap, putK, sPut_ap, putAt, augK, tgK, sTg_ap, parK, sPar_ap, forK, sFor_ap, sWhile_ap, tryK, sTryM_ap, eVar_ap, eC_ap, e2b, e2_ap, e2a_ap, e1a, e1_ap, tb_ap, tbK_ap, trK, tr_ap, truth, bAnd_ap, bOr_ap, bNot_ap, andK_t, andK_f, orK_t, orK_f, notK_ap, bYes_ap, eAnd_ap, eOr_ap, eNot_ap, eandK_t, eandK_f, eorK_t, eorK_f, enotK_ap, eIf_ap, eifK_t, eifK_f, eCh_ap, ch1_ap, chA, chB_t, chB_f, chC, aNil_ap, aCons_ap, acK_ap, acM_some, acM_none, acL_ap, cbK, eCB_ap, tupK, lstK, eTup_ap, eLst_ap, mtK, eMt_ap, slC, eSl_ap, slA_ap, slB_ap, eo_none, eo_some, eoK_ap, eCall_ap, callM_ap, callR_fz, callR_new, callR_ex, nHere_ap, nhK_new, nhL_ap, ncL, ncK, nCons_ap, cnK, eCallN_ap, dropR, itK, eIt_ap, r1K, r2K, eR1_ap, eR2_ap, eLc_ap, hName_ap, hTup_ap, hNil_ap, hCons_ap, hcK_ap, peek, freeze, arg, peeks, peekA, dsOf, stAppend, stPop, stPopAt, stRev, okI, okB, okS, dAdd, dSub, dMulL, dDiv, dMod, dPow, dNeg, dLt, dLe, dGt, dGe, dIsN, dNotN, isNon, gLen, dLen, gInt, gAbs, gMin2, gMax2, gSum, gAll, gAny, gMin, gMax, gGcd, gList, gTuple, gStr, dIx, dSl, slots, atIx, backs, Dl.put, dTy, dEq_int, dEq_str, dNe_int, outT, back, kill, un1, nxtI_nx, nxtI_ct, nxrI_nx, nxrI_ct, nxrI_rt, lcB_t, lcB_f, lcT_ok, mDef_ap, mdR_nx, mdR_ex, mdR_rt, tyBool, tyInt, tyStr, tyTuple, tyList, List.getElem?_cons_zero, List.getElem?_cons_succ, List.getElem?_nil, List.set_cons_zero, List.set_cons_succ, List.set_nil, List.length_cons, List.length_nil, List.replicate_succ, List.replicate_zero, List.cons_append, List.nil_append, List.append_nil, ite_true, ite_false, if_true, if_false, Option.map_some, Option.map_none, reduceIte, List.nodup_nil, List.nodup_cons, List.not_mem_nil, not_false_eq_true, and_self, Option.bind_some, Option.getD_some, decide_true, decide_false, Bool.false_eq_true, Bool.true_eq_false, PySem.sizeLine_eq, n1, n2, k4, if_pos, hH, hHbits, hat, nk, cut_toI _ hcut, hln, hlm, f]
      obtain ⟨t1, v1, q1, a1, b1⟩ := take_spec v 8 (by omega)
      obtain ⟨t2, v2, q2, a2, b2⟩ := take_spec v1 4 (by omega)
      have f0 := Int.fmod_nonneg_of_pos t1 (show (0:Int) < 4 by decide)
      have f1 := Int.fmod_lt_of_pos t1 (show (0:Int) < 4 by decide)
      have done : ∀ (K M H : Int) (v' : List Int), 0 ≤ K ∧ K < 8 → 0 ≤ M ∧ M ≤ st.length → (K = 4 → M ≤ 1) → ((i : Int) ∉ pl → H = -1) → ((i : Int) ∈ pl → H = sp) → _ := fun K M H v' x1 x2 x3 x4 x5 => tail K M H v' x1.1 x1.2 x2.1 x2.2 x3 x4 x5
      by_cases c1 : (i : Int) ∈ pl
      · cases tall with
        | false =>
          by_cases c3 : t1 = 4
          · simp (disch := omega) [bind_ok, bind_ex, bind_no, so_ok, so_ex, so_no, sSeq_ap, bS_nx, bS_rt, bS_ex, bS_bk, bS_ct, bS_no, sNil_ap, sBrk_ap, sCnt_ap, sRetN_ap, sRet_ap, sExpr_ap, kNx_ap, sSet_ap, asg_fz, asg_new, asg_at, setSl, sIf_ap, ifK_t, ifK_f, sRaise_ap, putK, sPut_ap, putAt, augK, tgK, sTg_ap, parK, sPar_ap, forK, sFor_ap, sWhile_ap, tryK, sTryM_ap, eVar_ap, eC_ap, e2b, e2_ap, e2a_ap, e1a, e1_ap, tb_ap, tbK_ap, trK, tr_ap, truth, bAnd_ap, bOr_ap, bNot_ap, andK_t, andK_f, orK_t, orK_f, notK_ap, bYes_ap, eAnd_ap, eOr_ap, eNot_ap, eandK_t, eandK_f, eorK_t, eorK_f, enotK_ap, eIf_ap, eifK_t, eifK_f, eCh_ap, ch1_ap, chA, chB_t, chB_f, chC, aNil_ap, aCons_ap, acK_ap, acM_some, acM_none, acL_ap, cbK, eCB_ap, tupK, lstK, eTup_ap, eLst_ap, mtK, eMt_ap, slC, eSl_ap, slA_ap, slB_ap, eo_none, eo_some, eoK_ap, eCall_ap, callM_ap, callR_fz, callR_new, callR_ex, nHere_ap, nhK_new, nhL_ap, ncL, ncK, nCons_ap, cnK, eCallN_ap, dropR, itK, eIt_ap, r1K, r2K, eR1_ap, eR2_ap, eLc_ap, hName_ap, hTup_ap, hNil_ap, hCons_ap, hcK_ap, peek, freeze, arg, peeks, peekA, dsOf, stAppend, stPop, stPopAt, stRev, okI, okB, okS, dAdd, dSub, dMulL, dDiv, dMod, dPow, dNeg, dLt, dLe, dGt, dGe, dIsN, dNotN, isNon, gLen, dLen, gInt, gAbs, gMin2, gMax2, gSum, gAll, gAny, gMin, gMax, gGcd, gList, gTuple, gStr, dIx, dSl, slots, atIx, backs, Dl.put, dTy, dEq_int, dEq_str, dNe_int, outT, back, kill, un1, nxtI_nx, nxtI_ct, nxrI_nx, nxrI_ct, nxrI_rt, lcB_t, lcB_f, lcT_ok, mDef_ap, mdR_nx, mdR_ex, mdR_rt, tyBool, tyInt, tyStr, tyTuple, tyList, List.getElem?_cons_zero, List.getElem?_cons_succ, List.getElem?_nil, List.set_cons_zero, List.set_cons_succ, List.set_nil, List.length_cons, List.length_nil, List.replicate_succ, List.replicate_zero, List.cons_append, List.nil_append, List.append_nil, ite_true, ite_false, if_true, if_false, Option.map_some, Option.map_none, reduceIte, List.nodup_nil, List.nodup_cons, List.not_mem_nil, not_false_eq_true, and_self, Option.bind_some, Option.getD_some, decide_true, decide_false, Bool.false_eq_true, Bool.true_eq_false, PySem.sizeLine_eq, dIn_intsL, c1, q1, q2, c3]
            exact done _ _ _ _ (by omega) (by split <;> omega) (by split <;> omega) (fun z => absurd c1 z) (fun _ => rfl)
          · simp (disch := omega) [bind_ok, bind_ex, bind_no, so_ok, so_ex, so_no, sSeq_ap, bS_nx, bS_rt, bS_ex, bS_bk, bS_ct, bS_no, sNil_ap, sBrk_ap, sCnt_ap, sRetN_ap, sRet_ap, sExpr_ap, kNx_ap, sSet_ap, asg_fz, asg_new, asg_at, setSl, sIf_ap, ifK_t, ifK_f, sRaise_ap, putK, sPut_ap, putAt, augK, tgK, sTg_ap, parK, sPar_ap, forK, sFor_ap, sWhile_ap, tryK, sTryM_ap, eVar_ap, eC_ap, e2b, e2_ap, e2a_ap, e1a, e1_ap, tb_ap, tbK_ap, trK, tr_ap, truth, bAnd_ap, bOr_ap, bNot_ap, andK_t, andK_f, orK_t, orK_f, notK_ap, bYes_ap, eAnd_ap, eOr_ap, eNot_ap, eandK_t, eandK_f, eorK_t, eorK_f, enotK_ap, eIf_ap, eifK_t, eifK_f, eCh_ap, ch1_ap, chA, chB_t, chB_f, chC, aNil_ap, aCons_ap, acK_ap, acM_some, acM_none, acL_ap, cbK, eCB_ap, tupK, lstK, eTup_ap, eLst_ap, mtK, eMt_ap, slC, eSl_ap, slA_ap, slB_ap, eo_none, eo_some, eoK_ap, eCall_ap, callM_ap, callR_fz, callR_new, callR_ex, nHere_ap, nhK_new, nhL_ap, ncL, ncK, nCons_ap, cnK, eCallN_ap, dropR, itK, eIt_ap, r1K, r2K, eR1_ap, eR2_ap, eLc_ap, hName_ap, hTup_ap, hNil_ap, hCons_ap, hcK_ap, peek, freeze, arg, peeks, peekA, dsOf, stAppend, stPop, stPopAt, stRev, okI, okB, okS, dAdd, dSub, dMulL, dDiv, dMod, dPow, dNeg, dLt, dLe, dGt, dGe, dIsN, dNotN, isNon, gLen, dLen, gInt, gAbs, gMin2, gMax2, gSum, gAll, gAny, gMin, gMax, gGcd, gList, gTuple, gStr, dIx, dSl, slots, atIx, backs, Dl.put, dTy, dEq_int, dEq_str, dNe_int, outT, back, kill, un1, nxtI_nx, nxtI_ct, nxrI_nx, nxrI_ct, nxrI_rt, lcB_t, lcB_f, lcT_ok, mDef_ap, mdR_nx, mdR_ex, mdR_rt, tyBool, tyInt, tyStr, tyTuple, tyList, List.getElem?_cons_zero, List.getElem?_cons_succ, List.getElem?_nil, List.set_cons_zero, List.set_cons_succ, List.set_nil, List.length_cons, List.length_nil, List.replicate_succ, List.replicate_zero, List.cons_append, List.nil_append, List.append_nil, ite_true, ite_false, if_true, if_false, Option.map_some, Option.map_none, reduceIte, List.nodup_nil, List.nodup_cons, List.not_mem_nil, not_false_eq_true, and_self, Option.bind_some, Option.getD_some, decide_true, decide_false, Bool.false_eq_true, Bool.true_eq_false, PySem.sizeLine_eq, dIn_intsL, c1, q1, q2, c3]
            exact done _ _ _ _ (by omega) (by split <;> omega) (by omega) (fun z => absurd c1 z) (fun _ => rfl)
        | true =>
          by_cases c2 : 0 < i
          · simp (disch := omega) [bind_ok, bind_ex, bind_no, so_ok, so_ex, so_no, sSeq_ap, bS_nx, bS_rt, bS_ex, bS_bk, bS_ct, bS_no, sNil_ap, sBrk_ap, sCnt_ap, sRetN_ap, sRet_ap, sExpr_ap, kNx_ap, sSet_ap, asg_fz, asg_new, asg_at, setSl, sIf_ap, ifK_t, ifK_f, sRaise_ap, putK, sPut_ap, putAt, augK, tgK, sTg_ap, parK, sPar_ap, forK, sFor_ap, sWhile_ap, tryK, sTryM_ap, eVar_ap, eC_ap, e2b, e2_ap, e2a_ap, e1a, e1_ap, tb_ap, tbK_ap, trK, tr_ap, truth, bAnd_ap, bOr_ap, bNot_ap, andK_t, andK_f, orK_t, orK_f, notK_ap, bYes_ap, eAnd_ap, eOr_ap, eNot_ap, eandK_t, eandK_f, eorK_t, eorK_f, enotK_ap, eIf_ap, eifK_t, eifK_f, eCh_ap, ch1_ap, chA, chB_t, chB_f, chC, aNil_ap, aCons_ap, acK_ap, acM_some, acM_none, acL_ap, cbK, eCB_ap, tupK, lstK, eTup_ap, eLst_ap, mtK, eMt_ap, slC, eSl_ap, slA_ap, slB_ap, eo_none, eo_some, eoK_ap, eCall_ap, callM_ap, callR_fz, callR_new, callR_ex, nHere_ap, nhK_new, nhL_ap, ncL, ncK, nCons_ap, cnK, eCallN_ap, dropR, itK, eIt_ap, r1K, r2K, eR1_ap, eR2_ap, eLc_ap, hName_ap, hTup_ap, hNil_ap, hCons_ap, hcK_ap, peek, freeze, arg, peeks, peekA, dsOf, stAppend, stPop, stPopAt, stRev, okI, okB, okS, dAdd, dSub, dMulL, dDiv, dMod, dPow, dNeg, dLt, dLe, dGt, dGe, dIsN, dNotN, isNon, gLen, dLen, gInt, gAbs, gMin2, gMax2, gSum, gAll, gAny, gMin, gMax, gGcd, gList, gTuple, gStr, dIx, dSl, slots, atIx, backs, Dl.put, dTy, dEq_int, dEq_str, dNe_int, outT, back, kill, un1, nxtI_nx, nxtI_ct, nxrI_nx, nxrI_ct, nxrI_rt, lcB_t, lcB_f, lcT_ok, mDef_ap, mdR_nx, mdR_ex, mdR_rt, tyBool, tyInt, tyStr, tyTuple, tyList, List.getElem?_cons_zero, List.getElem?_cons_succ, List.getElem?_nil, List.set_cons_zero, List.set_cons_succ, List.set_nil, List.length_cons, List.length_nil, List.replicate_succ, List.replicate_zero, List.cons_append, List.nil_append, List.append_nil, ite_true, ite_false, if_true, if_false, Option.map_some, Option.map_none, reduceIte, List.nodup_nil, List.nodup_cons, List.not_mem_nil, not_false_eq_true, and_self, Option.bind_some, Option.getD_some, decide_true, decide_false, Bool.false_eq_true, Bool.true_eq_false, PySem.sizeLine_eq, dIn_intsL, c1, q1, q2, c2]
            by_cases c3 : 4 + t1.fmod 4 = 4
            · simp (disch := omega) [bind_ok, bind_ex, bind_no, so_ok, so_ex, so_no, sSeq_ap, bS_nx, bS_rt, bS_ex, bS_bk, bS_ct, bS_no, sNil_ap, sBrk_ap, sCnt_ap, sRetN_ap, sRet_ap, sExpr_ap, kNx_ap, sSet_ap, asg_fz, asg_new, asg_at, setSl, sIf_ap, ifK_t, ifK_f, sRaise_ap, putK, sPut_ap, putAt, augK, tgK, sTg_ap, parK, sPar_ap, forK, sFor_ap, sWhile_ap, tryK, sTryM_ap, eVar_ap, eC_ap, e2b, e2_ap, e2a_ap, e1a, e1_ap, tb_ap, tbK_ap, trK, tr_ap, truth, bAnd_ap, bOr_ap, bNot_ap, andK_t, andK_f, orK_t, orK_f, notK_ap, bYes_ap, eAnd_ap, eOr_ap, eNot_ap, eandK_t, eandK_f, eorK_t, eorK_f, enotK_ap, eIf_ap, eifK_t, eifK_f, eCh_ap, ch1_ap, chA, chB_t, chB_f, chC, aNil_ap, aCons_ap, acK_ap, acM_some, acM_none, acL_ap, cbK, eCB_ap, tupK, lstK, eTup_ap, eLst_ap, mtK, eMt_ap, slC, eSl_ap, slA_ap, slB_ap, eo_none, eo_some, eoK_ap, eCall_ap, callM_ap, callR_fz, callR_new, callR_ex, nHere_ap, nhK_new, nhL_ap, ncL, ncK, nCons_ap, cnK, eCallN_ap, dropR, itK, eIt_ap, r1K, r2K, eR1_ap, eR2_ap, eLc_ap, hName_ap, hTup_ap, hNil_ap, hCons_ap, hcK_ap, peek, freeze, arg, peeks, peekA, dsOf, stAppend, stPop, stPopAt, stRev, okI, okB, okS, dAdd, dSub, dMulL, dDiv, dMod, dPow, dNeg, dLt, dLe, dGt, dGe, dIsN, dNotN, isNon, gLen, dLen, gInt, gAbs, gMin2, gMax2, gSum, gAll, gAny, gMin, gMax, gGcd, gList, gTuple, gStr, dIx, dSl, slots, atIx, backs, Dl.put, dTy, dEq_int, dEq_str, dNe_int, outT, back, kill, un1, nxtI_nx, nxtI_ct, nxrI_nx, nxrI_ct, nxrI_rt, lcB_t, lcB_f, lcT_ok, mDef_ap, mdR_nx, mdR_ex, mdR_rt, tyBool, tyInt, tyStr, tyTuple, tyList, List.getElem?_cons_zero, List.getElem?_cons_succ, List.getElem?_nil, List.set_cons_zero, List.set_cons_succ, List.set_nil, List.length_cons, List.length_nil, List.replicate_succ, List.replicate_zero, List.cons_append, List.nil_append, List.append_nil, ite_true, ite_false, if_true, if_false, Option.map_some, Option.map_none, reduceIte, List.nodup_nil, List.nodup_cons, List.not_mem_nil, not_false_eq_true, and_self, Option.bind_some, Option.getD_some, decide_true, decide_false, Bool.false_eq_true, Bool.true_eq_false, PySem.sizeLine_eq, c3]
              exact done _ _ _ _ (by omega) (by split <;> omega) (by split <;> omega) (fun z => absurd c1 z) (fun _ => rfl)
            · simp (disch := omega) [bind_ok, bind_ex, bind_no, so_ok, so_ex, so_no, sSeq_ap, bS_nx, bS_rt, bS_ex, bS_bk, bS_ct, bS_no, sNil_ap, sBrk_ap, sCnt_ap, sRetN_ap, sRet_ap, sExpr_ap, kNx_ap, sSet_ap, asg_fz, asg_new, asg_at, setSl, sIf_ap, ifK_t, ifK_f, sRaise_ap, putK, sPut_ap, putAt, augK, tgK, sTg_ap, parK, sPar_ap, forK, sFor_ap, sWhile_ap, tryK, sTryM_ap, eVar_ap, eC_ap, e2b, e2_ap, e2a_ap, e1a, e1_ap, tb_ap, tbK_ap, trK, tr_ap, truth, bAnd_ap, bOr_ap, bNot_ap, andK_t, andK_f, orK_t, orK_f, notK_ap, bYes_ap, eAnd_ap, eOr_ap, eNot_ap, eandK_t, eandK_f, eorK_t, eorK_f, enotK_ap, eIf_ap, eifK_t, eifK_f, eCh_ap, ch1_ap, chA, chB_t, chB_f, chC, aNil_ap, aCons_ap, acK_ap, acM_some, acM_none, acL_ap, cbK, eCB_ap, tupK, lstK, eTup_ap, eLst_ap, mtK, eMt_ap, slC, eSl_ap, slA_ap, slB_ap, eo_none, eo_some, eoK_ap, eCall_ap, callM_ap, callR_fz, callR_new, callR_ex, nHere_ap, nhK_new, nhL_ap, ncL, ncK, nCons_ap, cnK, eCallN_ap, dropR, itK, eIt_ap, r1K, r2K, eR1_ap, eR2_ap, eLc_ap, hName_ap, hTup_ap, hNil_ap, hCons_ap, hcK_ap, peek, freeze, arg, peeks, peekA, dsOf, stAppend, stPop, stPopAt, stRev, okI, okB, okS, dAdd, dSub, dMulL, dDiv, dMod, dPow, dNeg, dLt, dLe, dGt, dGe, dIsN, dNotN, isNon, gLen, dLen, gInt, gAbs, gMin2, gMax2, gSum, gAll, gAny, gMin, gMax, gGcd, gList, gTuple, gStr, dIx, dSl, slots, atIx, backs, Dl.put, dTy, dEq_int, dEq_str, dNe_int, outT, back, kill, un1, nxtI_nx, nxtI_ct, nxrI_nx, nxrI_ct, nxrI_rt, lcB_t, lcB_f, lcT_ok, mDef_ap, mdR_nx, mdR_ex, mdR_rt, tyBool, tyInt, tyStr, tyTuple, tyList, List.getElem?_cons_zero, List.getElem?_cons_succ, List.getElem?_nil, List.set_cons_zero, List.set_cons_succ, List.set_nil, List.length_cons, List.length_nil, List.replicate_succ, List.replicate_zero, List.cons_append, List.nil_append, List.append_nil, ite_true, ite_false, if_true, if_false, Option.map_some, Option.map_none, reduceIte, List.nodup_nil, List.nodup_cons, List.not_mem_nil, not_false_eq_true, and_self, Option.bind_some, Option.getD_some, decide_true, decide_false, Bool.false_eq_true, Bool.true_eq_false, PySem.sizeLine_eq, c3]
              exact done _ _ _ _ (by omega) (by split <;> omega) (by split <;> omega) (fun z => absurd c1 z) (fun _ => rfl)
          · simp (disch := omega) [bind_ok, bind_ex, bind_no, so_ok, so_ex, so_no, sSeq_ap, bS_nx, bS_rt, bS_ex, bS_bk, bS_ct, bS_no, sNil_ap, sBrk_ap, sCnt_ap, sRetN_ap, sRet_ap, sExpr_ap, kNx_ap, sSet_ap, asg_fz, asg_new, asg_at, setSl, sIf_ap, ifK_t, ifK_f, sRaise_ap, putK, sPut_ap, putAt, augK, tgK, sTg_ap, parK, sPar_ap, forK, sFor_ap, sWhile_ap, tryK, sTryM_ap, eVar_ap, eC_ap, e2b, e2_ap, e2a_ap, e1a, e1_ap, tb_ap, tbK_ap, trK, tr_ap, truth, bAnd_ap, bOr_ap, bNot_ap, andK_t, andK_f, orK_t, orK_f, notK_ap, bYes_ap, eAnd_ap, eOr_ap, eNot_ap, eandK_t, eandK_f, eorK_t, eorK_f, enotK_ap, eIf_ap, eifK_t, eifK_f, eCh_ap, ch1_ap, chA, chB_t, chB_f, chC, aNil_ap, aCons_ap, acK_ap, acM_some, acM_none, acL_ap, cbK, eCB_ap, tupK, lstK, eTup_ap, eLst_ap, mtK, eMt_ap, slC, eSl_ap, slA_ap, slB_ap, eo_none, eo_some, eoK_ap, eCall_ap, callM_ap, callR_fz, callR_new, callR_ex, nHere_ap, nhK_new, nhL_ap, ncL, ncK, nCons_ap, cnK, eCallN_ap, dropR, itK, eIt_ap, r1K, r2K, eR1_ap, eR2_ap, eLc_ap, hName_ap, hTup_ap, hNil_ap, hCons_ap, hcK_ap, peek, freeze, arg, peeks, peekA, dsOf, stAppend, stPop, stPopAt, stRev, okI, okB, okS, dAdd, dSub, dMulL, dDiv, dMod, dPow, dNeg, dLt, dLe, dGt, dGe, dIsN, dNotN, isNon, gLen, dLen, gInt, gAbs, gMin2, gMax2, gSum, gAll, gAny, gMin, gMax, gGcd, gList, gTuple, gStr, dIx, dSl, slots, atIx, backs, Dl.put, dTy, dEq_int, dEq_str, dNe_int, outT, back, kill, un1, nxtI_nx, nxtI_ct, nxrI_nx, nxrI_ct, nxrI_rt, lcB_t, lcB_f, lcT_ok, mDef_ap, mdR_nx, mdR_ex, mdR_rt, tyBool, tyInt, tyStr, tyTuple, tyList, List.getElem?_cons_zero, List.getElem?_cons_succ, List.getElem?_nil, List.set_cons_zero, List.set_cons_succ, List.set_nil, List.length_cons, List.length_nil, List.replicate_succ, List.replicate_zero, List.cons_append, List.nil_append, List.append_nil, ite_true, ite_false, if_true, if_false, Option.map_some, Option.map_none, reduceIte, List.nodup_nil, List.nodup_cons, List.not_mem_nil, not_false_eq_true, and_self, Option.bind_some, Option.getD_some, decide_true, decide_false, Bool.false_eq_true, Bool.true_eq_false, PySem.sizeLine_eq, dIn_intsL, c1, q1, q2, c2]
            by_cases c3 : t1 = 4
            · simp (disch := omega) [bind_ok, bind_ex, bind_no, so_ok, so_ex, so_no, sSeq_ap, bS_nx, bS_rt, bS_ex, bS_bk, bS_ct, bS_no, sNil_ap, sBrk_ap, sCnt_ap, sRetN_ap, sRet_ap, sExpr_ap, kNx_ap, sSet_ap, asg_fz, asg_new, asg_at, setSl, sIf_ap, ifK_t, ifK_f, sRaise_ap, putK, sPut_ap, putAt, augK, tgK, sTg_ap, parK, sPar_ap, forK, sFor_ap, sWhile_ap, tryK, sTryM_ap, eVar_ap, eC_ap, e2b, e2_ap, e2a_ap, e1a, e1_ap, tb_ap, tbK_ap, trK, tr_ap, truth, bAnd_ap, bOr_ap, bNot_ap, andK_t, andK_f, orK_t, orK_f, notK_ap, bYes_ap, eAnd_ap, eOr_ap, eNot_ap, eandK_t, eandK_f, eorK_t, eorK_f, enotK_ap, eIf_ap, eifK_t, eifK_f, eCh_ap, ch1_ap, chA, chB_t, chB_f, chC, aNil_ap, aCons_ap, acK_ap, acM_some, acM_none, acL_ap, cbK, eCB_ap, tupK, lstK, eTup_ap, eLst_ap, mtK, eMt_ap, slC, eSl_ap, slA_ap, slB_ap, eo_none, eo_some, eoK_ap, eCall_ap, callM_ap, callR_fz, callR_new, callR_ex, nHere_ap, nhK_new, nhL_ap, ncL, ncK, nCons_ap, cnK, eCallN_ap, dropR, itK, eIt_ap, r1K, r2K, eR1_ap, eR2_ap, eLc_ap, hName_ap, hTup_ap, hNil_ap, hCons_ap, hcK_ap, peek, freeze, arg, peeks, peekA, dsOf, stAppend, stPop, stPopAt, stRev, okI, okB, okS, dAdd, dSub, dMulL, dDiv, dMod, dPow, dNeg, dLt, dLe, dGt, dGe, dIsN, dNotN, isNon, gLen, dLen, gInt, gAbs, gMin2, gMax2, gSum, gAll, gAny, gMin, gMax, gGcd, gList, gTuple, gStr, dIx, dSl, slots, atIx, backs, Dl.put, dTy, dEq_int, dEq_str, dNe_int, outT, back, kill, un1, nxtI_nx, nxtI_ct, nxrI_nx, nxrI_ct, nxrI_rt, lcB_t, lcB_f, lcT_ok, mDef_ap, mdR_nx, mdR_ex, mdR_rt, tyBool, tyInt, tyStr, tyTuple, tyList, List.getElem?_cons_zero, List.getElem?_cons_succ, List.getElem?_nil, List.set_cons_zero, List.set_cons_succ, List.set_nil, List.length_cons, List.length_nil, List.replicate_succ, List.replicate_zero, List.cons_append, List.nil_append, List.append_nil, ite_true, ite_false, if_true, if_false, Option.map_some, Option.map_none, reduceIte, List.nodup_nil, List.nodup_cons, List.not_mem_nil, not_false_eq_true, and_self, Option.bind_some, Option.getD_some, decide_true, decide_false, Bool.false_eq_true, Bool.true_eq_false, PySem.sizeLine_eq, c3]
              exact done _ _ _ _ (by omega) (by split <;> omega) (by split <;> omega) (fun z => absurd c1 z) (fun _ => rfl)
            · simp (disch := omega) [bind_ok, bind_ex, bind_no, so_ok, so_ex, so_no, sSeq_ap, bS_nx, bS_rt, bS_ex, bS_bk, bS_ct, bS_no, sNil_ap, sBrk_ap, sCnt_ap, sRetN_ap, sRet_ap, sExpr_ap, kNx_ap, sSet_ap, asg_fz, asg_new, asg_at, setSl, sIf_ap, ifK_t, ifK_f, sRaise_ap, putK, sPut_ap, putAt, augK, tgK, sTg_ap, parK, sPar_ap, forK, sFor_ap, sWhile_ap, tryK, sTryM_ap, eVar_ap, eC_ap, e2b, e2_ap, e2a_ap, e1a, e1_ap, tb_ap, tbK_ap, trK, tr_ap, truth, bAnd_ap, bOr_ap, bNot_ap, andK_t, andK_f, orK_t, orK_f, notK_ap, bYes_ap, eAnd_ap, eOr_ap, eNot_ap, eandK_t, eandK_f, eorK_t, eorK_f, enotK_ap, eIf_ap, eifK_t, eifK_f, eCh_ap, ch1_ap, chA, chB_t, chB_f, chC, aNil_ap, aCons_ap, acK_ap, acM_some, acM_none, acL_ap, cbK, eCB_ap, tupK, lstK, eTup_ap, eLst_ap, mtK, eMt_ap, slC, eSl_ap, slA_ap, slB_ap, eo_none, eo_some, eoK_ap, eCall_ap, callM_ap, callR_fz, callR_new, callR_ex, nHere_ap, nhK_new, nhL_ap, ncL, ncK, nCons_ap, cnK, eCallN_ap, dropR, itK, eIt_ap, r1K, r2K, eR1_ap, eR2_ap, eLc_ap, hName_ap, hTup_ap, hNil_ap, hCons_ap, hcK_ap, peek, freeze, arg, peeks, peekA, dsOf, stAppend, stPop, stPopAt, stRev, okI, okB, okS, dAdd, dSub, dMulL, dDiv, dMod, dPow, dNeg, dLt, dLe, dGt, dGe, dIsN, dNotN, isNon, gLen, dLen, gInt, gAbs, gMin2, gMax2, gSum, gAll, gAny, gMin, gMax, gGcd, gList, gTuple, gStr, dIx, dSl, slots, atIx, backs, Dl.put, dTy, dEq_int, dEq_str, dNe_int, outT, back, kill, un1, nxtI_nx, nxtI_ct, nxrI_nx, nxrI_ct, nxrI_rt, lcB_t, lcB_f, lcT_ok, mDef_ap, mdR_nx, mdR_ex, mdR_rt, tyBool, tyInt, tyStr, tyTuple, tyList, List.getElem?_cons_zero, List.getElem?_cons_succ, List.getElem?_nil, List.set_cons_zero, List.set_cons_succ, List.set_nil, List.length_cons, List.length_nil, List.replicate_succ, List.replicate_zero, List.cons_append, List.nil_append, List.append_nil, ite_true, ite_false, if_true, if_false, Option.map_some, Option.map_none, reduceIte, List.nodup_nil, List.nodup_cons, List.not_mem_nil, not_false_eq_true, and_self, Option.bind_some, Option.getD_some, decide_true, decide_false, Bool.false_eq_true, Bool.true_eq_false, PySem.sizeLine_eq, c3]
              exact done _ _ _ _ (by omega) (by split <;> omega) (by split <;> omega) (fun z => absurd c1 z) (fun _ => rfl)
      · cases tall with
        | false =>
          by_cases c3 : t1 = 4
          · simp (disch := omega) [bind_ok, bind_ex, bind_no, so_ok, so_ex, so_no, sSeq_ap, bS_nx, bS_rt, bS_ex, bS_bk, bS_ct, bS_no, sNil_ap, sBrk_ap, sCnt_ap, sRetN_ap, sRet_ap, sExpr_ap, kNx_ap, sSet_ap, asg_fz, asg_new, asg_at, setSl, sIf_ap, ifK_t, ifK_f, sRaise_ap, putK, sPut_ap, putAt, augK, tgK, sTg_ap, parK, sPar_ap, forK, sFor_ap, sWhile_ap, tryK, sTryM_ap, eVar_ap, eC_ap, e2b, e2_ap, e2a_ap, e1a, e1_ap, tb_ap, tbK_ap, trK, tr_ap, truth, bAnd_ap, bOr_ap, bNot_ap, andK_t, andK_f, orK_t, orK_f, notK_ap, bYes_ap, eAnd_ap, eOr_ap, eNot_ap, eandK_t, eandK_f, eorK_t, eorK_f, enotK_ap, eIf_ap, eifK_t, eifK_f, eCh_ap, ch1_ap, chA, chB_t, chB_f, chC, aNil_ap, aCons_ap, acK_ap, acM_some, acM_none, acL_ap, cbK, eCB_ap, tupK, lstK, eTup_ap, eLst_ap, mtK, eMt_ap, slC, eSl_ap, slA_ap, slB_ap, eo_none, eo_some, eoK_ap, eCall_ap, callM_ap, callR_fz, callR_new, callR_ex, nHere_ap, nhK_new, nhL_ap, ncL, ncK, nCons_ap, cnK, eCallN_ap, dropR, itK, eIt_ap, r1K, r2K, eR1_ap, eR2_ap, eLc_ap, hName_ap, hTup_ap, hNil_ap, hCons_ap, hcK_ap, peek, freeze, arg, peeks, peekA, dsOf, stAppend, stPop, stPopAt, stRev, okI, okB, okS, dAdd, dSub, dMulL, dDiv, dMod, dPow, dNeg, dLt, dLe, dGt, dGe, dIsN, dNotN, isNon, gLen, dLen, gInt, gAbs, gMin2, gMax2, gSum, gAll, gAny, gMin, gMax, gGcd, gList, gTuple, gStr, dIx, dSl, slots, atIx, backs, Dl.put, dTy, dEq_int, dEq_str, dNe_int, outT, back, kill, un1, nxtI_nx, nxtI_ct, nxrI_nx, nxrI_ct, nxrI_rt, lcB_t, lcB_f, lcT_ok, mDef_ap, mdR_nx, mdR_ex, mdR_rt, tyBool, tyInt, tyStr, tyTuple, tyList, List.getElem?_cons_zero, List.getElem?_cons_succ, List.getElem?_nil, List.set_cons_zero, List.set_cons_succ, List.set_nil, List.length_cons, List.length_nil, List.replicate_succ, List.replicate_zero, List.cons_append, List.nil_append, List.append_nil, ite_true, ite_false, if_true, if_false, Option.map_some, Option.map_none, reduceIte, List.nodup_nil, List.nodup_cons, List.not_mem_nil, not_false_eq_true, and_self, Option.bind_some, Option.getD_some, decide_true, decide_false, Bool.false_eq_true, Bool.true_eq_false, PySem.sizeLine_eq, dIn_intsL, c1, q1, q2, c3]
            exact done _ _ _ _ (by omega) (by split <;> omega) (by split <;> omega) (fun _ => rfl) (fun z => absurd z c1)
          · simp (disch := omega) [bind_ok, bind_ex, bind_no, so_ok, so_ex, so_no, sSeq_ap, bS_nx, bS_rt, bS_ex, bS_bk, bS_ct, bS_no, sNil_ap, sBrk_ap, sCnt_ap, sRetN_ap, sRet_ap, sExpr_ap, kNx_ap, sSet_ap, asg_fz, asg_new, asg_at, setSl, sIf_ap, ifK_t, ifK_f, sRaise_ap, putK, sPut_ap, putAt, augK, tgK, sTg_ap, parK, sPar_ap, forK, sFor_ap, sWhile_ap, tryK, sTryM_ap, eVar_ap, eC_ap, e2b, e2_ap, e2a_ap, e1a, e1_ap, tb_ap, tbK_ap, trK, tr_ap, truth, bAnd_ap, bOr_ap, bNot_ap, andK_t, andK_f, orK_t, orK_f, notK_ap, bYes_ap, eAnd_ap, eOr_ap, eNot_ap, eandK_t, eandK_f, eorK_t, eorK_f, enotK_ap, eIf_ap, eifK_t, eifK_f, eCh_ap, ch1_ap, chA, chB_t, chB_f, chC, aNil_ap, aCons_ap, acK_ap, acM_some, acM_none, acL_ap, cbK, eCB_ap, tupK, lstK, eTup_ap, eLst_ap, mtK, eMt_ap, slC, eSl_ap, slA_ap, slB_ap, eo_none, eo_some, eoK_ap, eCall_ap, callM_ap, callR_fz, callR_new, callR_ex, nHere_ap, nhK_new, nhL_ap, ncL, ncK, nCons_ap, cnK, eCallN_ap, dropR, itK, eIt_ap, r1K, r2K, eR1_ap, eR2_ap, eLc_ap, hName_ap, hTup_ap, hNil_ap, hCons_ap, hcK_ap, peek, freeze, arg, peeks, peekA, dsOf, stAppend, stPop, stPopAt, stRev, okI, okB, okS, dAdd, dSub, dMulL, dDiv, dMod, dPow, dNeg, dLt, dLe, dGt, dGe, dIsN, dNotN, isNon, gLen, dLen, gInt, gAbs, gMin2, gMax2, gSum, gAll, gAny, gMin, gMax, gGcd, gList, gTuple, gStr, dIx, dSl, slots, atIx, backs, Dl.put, dTy, dEq_int, dEq_str, dNe_int, outT, back, kill, un1, nxtI_nx, nxtI_ct, nxrI_nx, nxrI_ct, nxrI_rt, lcB_t, lcB_f, lcT_ok, mDef_ap, mdR_nx, mdR_ex, mdR_rt, tyBool, tyInt, tyStr, tyTuple, tyList, List.getElem?_cons_zero, List.getElem?_cons_succ, List.getElem?_nil, List.set_cons_zero, List.set_cons_succ, List.set_nil, List.length_cons, List.length_nil, List.replicate_succ, List.replicate_zero, List.cons_append, List.nil_append, List.append_nil, ite_true, ite_false, if_true, if_false, Option.map_some, Option.map_none, reduceIte, List.nodup_nil, List.nodup_cons, List.not_mem_nil, not_false_eq_true, and_self, Option.bind_some, Option.getD_some, decide_true, decide_false, Bool.false_eq_true, Bool.true_eq_false, PySem.sizeLine_eq, dIn_intsL, c1, q1, q2, c3]
            exact done _ _ _ _ (by omega) (by split <;> omega) (by omega) (fun _ => rfl) (fun z => absurd z c1)
        | true =>
          by_cases c2 : 0 < i
          · simp (disch := omega) [bind_ok, bind_ex, bind_no, so_ok, so_ex, so_no, sSeq_ap, bS_nx, bS_rt, bS_ex, bS_bk, bS_ct, bS_no, sNil_ap, sBrk_ap, sCnt_ap, sRetN_ap, sRet_ap, sExpr_ap, kNx_ap, sSet_ap, asg_fz, asg_new, asg_at, setSl, sIf_ap, ifK_t, ifK_f, sRaise_ap, putK, sPut_ap, putAt, augK, tgK, sTg_ap, parK, sPar_ap, forK, sFor_ap, sWhile_ap, tryK, sTryM_ap, eVar_ap, eC_ap, e2b, e2_ap, e2a_ap, e1a, e1_ap, tb_ap, tbK_ap, trK, tr_ap, truth, bAnd_ap, bOr_ap, bNot_ap, andK_t, andK_f, orK_t, orK_f, notK_ap, bYes_ap, eAnd_ap, eOr_ap, eNot_ap, eandK_t, eandK_f, eorK_t, eorK_f, enotK_ap, eIf_ap, eifK_t, eifK_f, eCh_ap, ch1_ap, chA, chB_t, chB_f, chC, aNil_ap, aCons_ap, acK_ap, acM_some, acM_none, acL_ap, cbK, eCB_ap, tupK, lstK, eTup_ap, eLst_ap, mtK, eMt_ap, slC, eSl_ap, slA_ap, slB_ap, eo_none, eo_some, eoK_ap, eCall_ap, callM_ap, callR_fz, callR_new, callR_ex, nHere_ap, nhK_new, nhL_ap, ncL, ncK, nCons_ap, cnK, eCallN_ap, dropR, itK, eIt_ap, r1K, r2K, eR1_ap, eR2_ap, eLc_ap, hName_ap, hTup_ap, hNil_ap, hCons_ap, hcK_ap, peek, freeze, arg, peeks, peekA, dsOf, stAppend, stPop, stPopAt, stRev, okI, okB, okS, dAdd, dSub, dMulL, dDiv, dMod, dPow, dNeg, dLt, dLe, dGt, dGe, dIsN, dNotN, isNon, gLen, dLen, gInt, gAbs, gMin2, gMax2, gSum, gAll, gAny, gMin, gMax, gGcd, gList, gTuple, gStr, dIx, dSl, slots, atIx, backs, Dl.put, dTy, dEq_int, dEq_str, dNe_int, outT, back, kill, un1, nxtI_nx, nxtI_ct, nxrI_nx, nxrI_ct, nxrI_rt, lcB_t, lcB_f, lcT_ok, mDef_ap, mdR_nx, mdR_ex, mdR_rt, tyBool, tyInt, tyStr, tyTuple, tyList, List.getElem?_cons_zero, List.getElem?_cons_succ, List.getElem?_nil, List.set_cons_zero, List.set_cons_succ, List.set_nil, List.length_cons, List.length_nil, List.replicate_succ, List.replicate_zero, List.cons_append, List.nil_append, List.append_nil, ite_true, ite_false, if_true, if_false, Option.map_some, Option.map_none, reduceIte, List.nodup_nil, List.nodup_cons, List.not_mem_nil, not_false_eq_true, and_self, Option.bind_some, Option.getD_some, decide_true, decide_false, Bool.false_eq_true, Bool.true_eq_false, PySem.sizeLine_eq, dIn_intsL, c1, q1, q2, c2]
            by_cases c3 : 4 + t1.fmod 4 = 4
            · simp (disch := omega) [bind_ok, bind_ex, bind_no, so_ok, so_ex, so_no, sSeq_ap, bS_nx, bS_rt, bS_ex, bS_bk, bS_ct, bS_no, sNil_ap, sBrk_ap, sCnt_ap, sRetN_ap, sRet_ap, sExpr_ap, kNx_ap, sSet_ap, asg_fz, asg_new, asg_at, setSl, sIf_ap, ifK_t, ifK_f, sRaise_ap, putK, sPut_ap, putAt, augK, tgK, sTg_ap, parK, sPar_ap, forK, sFor_ap, sWhile_ap, tryK, sTryM_ap, eVar_ap, eC_ap, e2b, e2_ap, e2a_ap, e1a, e1_ap, tb_ap, tbK_ap, trK, tr_ap, truth, bAnd_ap, bOr_ap, bNot_ap, andK_t, andK_f, orK_t, orK_f, notK_ap, bYes_ap, eAnd_ap, eOr_ap, eNot_ap, eandK_t, eandK_f, eorK_t, eorK_f, enotK_ap, eIf_ap, eifK_t, eifK_f, eCh_ap, ch1_ap, chA, chB_t, chB_f, chC, aNil_ap, aCons_ap, acK_ap, acM_some, acM_none, acL_ap, cbK, eCB_ap, tupK, lstK, eTup_ap, eLst_ap, mtK, eMt_ap, slC, eSl_ap, slA_ap, slB_ap, eo_none, eo_some, eoK_ap, eCall_ap, callM_ap, callR_fz, callR_new, callR_ex, nHere_ap, nhK_new, nhL_ap, ncL, ncK, nCons_ap, cnK, eCallN_ap, dropR, itK, eIt_ap, r1K, r2K, eR1_ap, eR2_ap, eLc_ap, hName_ap, hTup_ap, hNil_ap, hCons_ap, hcK_ap, peek, freeze, arg, peeks, peekA, dsOf, stAppend, stPop, stPopAt, stRev, okI, okB, okS, dAdd, dSub, dMulL, dDiv, dMod, dPow, dNeg, dLt, dLe, dGt, dGe, dIsN, dNotN, isNon, gLen, dLen, gInt, gAbs, gMin2, gMax2, gSum, gAll, gAny, gMin, gMax, gGcd, gList, gTuple, gStr, dIx, dSl, slots, atIx, backs, Dl.put, dTy, dEq_int, dEq_str, dNe_int, outT, back, kill, un1, nxtI_nx, nxtI_ct, nxrI_nx, nxrI_ct, nxrI_rt, lcB_t, lcB_f, lcT_ok, mDef_ap, mdR_nx, mdR_ex, mdR_rt, tyBool, tyInt, tyStr, tyTuple, tyList, List.getElem?_cons_zero, List.getElem?_cons_succ, List.getElem?_nil, List.set_cons_zero, List.set_cons_succ, List.set_nil, List.length_cons, List.length_nil, List.replicate_succ, List.replicate_zero, List.cons_append, List.nil_append, List.append_nil, ite_true, ite_false, if_true, if_false, Option.map_some, Option.map_none, reduceIte, List.nodup_nil, List.nodup_cons, List.not_mem_nil, not_false_eq_true, and_self, Option.bind_some, Option.getD_some, decide_true, decide_false, Bool.false_eq_true, Bool.true_eq_false, PySem.sizeLine_eq, c3]
              exact done _ _ _ _ (by omega) (by split <;> omega) (by split <;> omega) (fun _ => rfl) (fun z => absurd z c1)
            · simp (disch := omega) [bind_ok, bind_ex, bind_no, so_ok, so_ex, so_no, sSeq_ap, bS_nx, bS_rt, bS_ex, bS_bk, bS_ct, bS_no, sNil_ap, sBrk_ap, sCnt_ap, sRetN_ap, sRet_ap, sExpr_ap, kNx_ap, sSet_ap, asg_fz, asg_new, asg_at, setSl, sIf_ap, ifK_t, ifK_f, sRaise_ap, putK, sPut_ap, putAt, augK, tgK, sTg_ap, parK, sPar_ap, forK, sFor_ap, sWhile_ap, tryK, sTryM_ap, eVar_ap, eC_ap, e2b, e2_ap, e2a_ap, e1a, e1_ap, tb_ap, tbK_ap, trK, tr_ap, truth, bAnd_ap, bOr_ap, bNot_ap, andK_t, andK_f, orK_t, orK_f, notK_ap, bYes_ap, eAnd_ap, eOr_ap, eNot_ap, eandK_t, eandK_f, eorK_t, eorK_f, enotK_ap, eIf_ap, eifK_t, eifK_f, eCh_ap, ch1_ap, chA, chB_t, chB_f, chC, aNil_ap, aCons_ap, acK_ap, acM_some, acM_none, acL_ap, cbK, eCB_ap, tupK, lstK, eTup_ap, eLst_ap, mtK, eMt_ap, slC, eSl_ap, slA_ap, slB_ap, eo_none, eo_some, eoK_ap, eCall_ap, callM_ap, callR_fz, callR_new, callR_ex, nHere_ap, nhK_new, nhL_ap, ncL, ncK, nCons_ap, cnK, eCallN_ap, dropR, itK, eIt_ap, r1K, r2K, eR1_ap, eR2_ap, eLc_ap, hName_ap, hTup_ap, hNil_ap, hCons_ap, hcK_ap, peek, freeze, arg, peeks, peekA, dsOf, stAppend, stPop, stPopAt, stRev, okI, okB, okS, dAdd, dSub, dMulL, dDiv, dMod, dPow, dNeg, dLt, dLe, dGt, dGe, dIsN, dNotN, isNon, gLen, dLen, gInt, gAbs, gMin2, gMax2, gSum, gAll, gAny, gMin, gMax, gGcd, gList, gTuple, gStr, dIx, dSl, slots, atIx, backs, Dl.put, dTy, dEq_int, dEq_str, dNe_int, outT, back, kill, un1, nxtI_nx, nxtI_ct, nxrI_nx, nxrI_ct, nxrI_rt, lcB_t, lcB_f, lcT_ok, mDef_ap, mdR_nx, mdR_ex, mdR_rt, tyBool, tyInt, tyStr, tyTuple, tyList, List.getElem?_cons_zero, List.getElem?_cons_succ, List.getElem?_nil, List.set_cons_zero, List.set_cons_succ, List.set_nil, List.length_cons, List.length_nil, List.replicate_succ, List.replicate_zero, List.cons_append, List.nil_append, List.append_nil, ite_true, ite_false, if_true, if_false, Option.map_some, Option.map_none, reduceIte, List.nodup_nil, List.nodup_cons, List.not_mem_nil, not_false_eq_true, and_self, Option.bind_some, Option.getD_some, decide_true, decide_false, Bool.false_eq_true, Bool.true_eq_false, PySem.sizeLine_eq, c3]
              exact done _ _ _ _ (by omega) (by split <;> omega) (by split <;> omega) (fun _ => rfl) (fun z => absurd z c1)
          · simp (disch := omega) [bind_ok, bind_ex, bind_no, so_ok, so_ex, so_no, sSeq_ap, bS_nx, bS_rt, bS_ex, bS_bk, bS_ct, bS_no, sNil_ap, sBrk_ap, sCnt_ap, sRetN_ap, sRet_ap, sExpr_ap, kNx_ap, sSet_ap, asg_fz, asg_new, asg_at, setSl, sIf_ap, ifK_t, ifK_f, sRaise_ap, putK, sPut_ap, putAt, augK, tgK, sTg_ap, parK, sPar_ap, forK, sFor_ap, sWhile_ap, tryK, sTryM_ap, eVar_ap, eC_ap, e2b, e2_ap, e2a_ap, e1a, e1_ap, tb_ap, tbK_ap, trK, tr_ap, truth, bAnd_ap, bOr_ap, bNot_ap, andK_t, andK_f, orK_t, orK_f, notK_ap, bYes_ap, eAnd_ap, eOr_ap, eNot_ap, eandK_t, eandK_f, eorK_t, eorK_f, enotK_ap, eIf_ap, eifK_t, eifK_f, eCh_ap, ch1_ap, chA, chB_t, chB_f, chC, aNil_ap, aCons_ap, acK_ap, acM_some, acM_none, acL_ap, cbK, eCB_ap, tupK, lstK, eTup_ap, eLst_ap, mtK, eMt_ap, slC, eSl_ap, slA_ap, slB_ap, eo_none, eo_some, eoK_ap, eCall_ap, callM_ap, callR_fz, callR_new, callR_ex, nHere_ap, nhK_new, nhL_ap, ncL, ncK, nCons_ap, cnK, eCallN_ap, dropR, itK, eIt_ap, r1K, r2K, eR1_ap, eR2_ap, eLc_ap, hName_ap, hTup_ap, hNil_ap, hCons_ap, hcK_ap, peek, freeze, arg, peeks, peekA, dsOf, stAppend, stPop, stPopAt, stRev, okI, okB, okS, dAdd, dSub, dMulL, dDiv, dMod, dPow, dNeg, dLt, dLe, dGt, dGe, dIsN, dNotN, isNon, gLen, dLen, gInt, gAbs, gMin2, gMax2, gSum, gAll, gAny, gMin, gMax, gGcd, gList, gTuple, gStr, dIx, dSl, slots, atIx, backs, Dl.put, dTy, dEq_int, dEq_str, dNe_int, outT, back, kill, un1, nxtI_nx, nxtI_ct, nxrI_nx, nxrI_ct, nxrI_rt, lcB_t, lcB_f, lcT_ok, mDef_ap, mdR_nx, mdR_ex, mdR_rt, tyBool, tyInt, tyStr, tyTuple, tyList, List.getElem?_cons_zero, List.getElem?_cons_succ, List.getElem?_nil, List.set_cons_zero, List.set_cons_succ, List.set_nil, List.length_cons, List.length_nil, List.replicate_succ, List.replicate_zero, List.cons_append, List.nil_append, List.append_nil, ite_true, ite_false, if_true, if_false, Option.map_some, Option.map_none, reduceIte, List.nodup_nil, List.nodup_cons, List.not_mem_nil, not_false_eq_true, and_self, Option.bind_some, Option.getD_some, decide_true, decide_false, Bool.false_eq_true, Bool.true_eq_false, PySem.sizeLine_eq, dIn_intsL, c1, q1, q2, c2]
            by_cases c3 : t1 = 4
            · simp (disch := omega) [bind_ok, bind_ex, bind_no, so_ok, so_ex, so_no, sSeq_ap, bS_nx, bS_rt, bS_ex, bS_bk, bS_ct, bS_no, sNil_ap, sBrk_ap, sCnt_ap, sRetN_ap, sRet_ap, sExpr_ap, kNx_ap, sSet_ap, asg_fz, asg_new, asg_at, setSl, sIf_ap, ifK_t, ifK_f, sRaise_ap, putK, sPut_ap, putAt, augK, tgK, sTg_ap, parK, sPar_ap, forK, sFor_ap, sWhile_ap, tryK, sTryM_ap, eVar_ap, eC_ap, e2b, e2_ap, e2a_ap, e1a, e1_ap, tb_ap, tbK_ap, trK, tr_ap, truth, bAnd_ap, bOr_ap, bNot_ap, andK_t, andK_f, orK_t, orK_f, notK_ap, bYes_ap, eAnd_ap, eOr_ap, eNot_ap, eandK_t, eandK_f, eorK_t, eorK_f, enotK_ap, eIf_ap, eifK_t, eifK_f, eCh_ap, ch1_ap, chA, chB_t, chB_f, chC, aNil_ap, aCons_ap, acK_ap, acM_some, acM_none, acL_ap, cbK, eCB_ap, tupK, lstK, eTup_ap, eLst_ap, mtK, eMt_ap, slC, eSl_ap, slA_ap, slB_ap, eo_none, eo_some, eoK_ap, eCall_ap, callM_ap, callR_fz, callR_new, callR_ex, nHere_ap, nhK_new, nhL_ap, ncL, ncK, nCons_ap, cnK, eCallN_ap, dropR, itK, eIt_ap, r1K, r2K, eR1_ap, eR2_ap, eLc_ap, hName_ap, hTup_ap, hNil_ap, hCons_ap, hcK_ap, peek, freeze, arg, peeks, peekA, dsOf, stAppend, stPop, stPopAt, stRev, okI, okB, okS, dAdd, dSub, dMulL, dDiv, dMod, dPow, dNeg, dLt, dLe, dGt, dGe, dIsN, dNotN, isNon, gLen, dLen, gInt, gAbs, gMin2, gMax2, gSum, gAll, gAny, gMin, gMax, gGcd, gList, gTuple, gStr, dIx, dSl, slots, atIx, backs, Dl.put, dTy, dEq_int, dEq_str, dNe_int, outT, back, kill, un1, nxtI_nx, nxtI_ct, nxrI_nx, nxrI_ct, nxrI_rt, lcB_t, lcB_f, lcT_ok, mDef_ap, mdR_nx, mdR_ex, mdR_rt, tyBool, tyInt, tyStr, tyTuple, tyList, List.getElem?_cons_zero, List.getElem?_cons_succ, List.getElem?_nil, List.set_cons_zero, List.set_cons_succ, List.set_nil, List.length_cons, List.length_nil, List.replicate_succ, List.replicate_zero, List.cons_append, List.nil_append, List.append_nil, ite_true, ite_false, if_true, if_false, Option.map_some, Option.map_none, reduceIte, List.nodup_nil, List.nodup_cons, List.not_mem_nil, not_false_eq_true, and_self, Option.bind_some, Option.getD_some, decide_true, decide_false, Bool.false_eq_true, Bool.true_eq_false, PySem.sizeLine_eq, c3]
              exact done _ _ _ _ (by omega) (by split <;> omega) (by split <;> omega) (fun _ => rfl) (fun z => absurd z c1)
            · simp (disch := omega) [bind_ok, bind_ex, bind_no, so_ok, so_ex, so_no, sSeq_ap, bS_nx, bS_rt, bS_ex, bS_bk, bS_ct, bS_no, sNil_ap, sBrk_ap, sCnt_ap, sRetN_ap, sRet_ap, sExpr_ap, kNx_ap, sSet_ap, asg_fz, asg_new, asg_at, setSl, sIf_ap, ifK_t, ifK_f, sRaise_ap, putK, sPut_ap, putAt, augK, tgK, sTg_ap, parK, sPar_ap, forK, sFor_ap, sWhile_ap, tryK, sTryM_ap, eVar_ap, eC_ap, e2b, e2_ap, e2a_ap, e1a, e1_ap, tb_ap, tbK_ap, trK, tr_ap, truth, bAnd_ap, bOr_ap, bNot_ap, andK_t, andK_f, orK_t, orK_f, notK_ap, bYes_ap, eAnd_ap, eOr_ap, eNot_ap, eandK_t, eandK_f, eorK_t, eorK_f, enotK_ap, eIf_ap, eifK_t, eifK_f, eCh_ap, ch1_ap, chA, chB_t, chB_f, chC, aNil_ap, aCons_ap, acK_ap, acM_some, acM_none, acL_ap, cbK, eCB_ap, tupK, lstK, eTup_ap, eLst_ap, mtK, eMt_ap, slC, eSl_ap, slA_ap, slB_ap, eo_none, eo_some, eoK_ap, eCall_ap, callM_ap, callR_fz, callR_new, callR_ex, nHere_ap, nhK_new, nhL_ap, ncL, ncK, nCons_ap, cnK, eCallN_ap, dropR, itK, eIt_ap, r1K, r2K, eR1_ap, eR2_ap, eLc_ap, hName_ap, hTup_ap, hNil_ap, hCons_ap, hcK_ap, peek, freeze, arg, peeks, peekA, dsOf, stAppend, stPop, stPopAt, stRev, okI, okB, okS, dAdd, dSub, dMulL, dDiv, dMod, dPow, dNeg, dLt, dLe, dGt, dGe, dIsN, dNotN, isNon, gLen, dLen, gInt, gAbs, gMin2, gMax2, gSum, gAll, gAny, gMin, gMax, gGcd, gList, gTuple, gStr, dIx, dSl, slots, atIx, backs, Dl.put, dTy, dEq_int, dEq_str, dNe_int, outT, back, kill, un1, nxtI_nx, nxtI_ct, nxrI_nx, nxrI_ct, nxrI_rt, lcB_t, lcB_f, lcT_ok, mDef_ap, mdR_nx, mdR_ex, mdR_rt, tyBool, tyInt, tyStr, tyTuple, tyList, List.getElem?_cons_zero, List.getElem?_cons_succ, List.getElem?_nil, List.set_cons_zero, List.set_cons_succ, List.set_nil, List.length_cons, List.length_nil, List.replicate_succ, List.replicate_zero, List.cons_append, List.nil_append, List.append_nil, ite_true, ite_false, if_true, if_false, Option.map_some, Option.map_none, reduceIte, List.nodup_nil, List.nodup_cons, List.not_mem_nil, not_false_eq_true, and_self, Option.bind_some, Option.getD_some, decide_true, decide_false, Bool.false_eq_true, Bool.true_eq_false, PySem.sizeLine_eq, c3]
              exact done _ _ _ _ (by omega) (by split <;> omega) (by split <;> omega) (fun _ => rfl) (fun z => absurd z c1))
  clear hf
  obtain ⟨envN, rfl, hN⟩ := hf'
  rw [hI, rng_len] at hN
  obtain ⟨v, st, rfl, hS⟩ := hN
  have hlen := hS.len
  have hpos := hS.pos (by omega)
  have hpw : pl.isEmpty = true ∨ (pl.isEmpty = false ∧ ∃ e ∈ st, e.2.2 = false) := by
    cases pl with
    | nil => exact .inl rfl
    | cons p r =>
      obtain ⟨p0, p1⟩ := hpl p (by simp)
      exact .inr ⟨rfl, hS.bad ⟨p, by simp, by omega, p0⟩⟩
  by_cases h1 : st.length = 1
  · obtain ⟨e, rfl⟩ : ∃ e, st = [e] := by
      match st, h1 with
      | [e], _ => exact ⟨e, rfl⟩
    obtain ⟨x1, x2, x3⟩ := hS.ent e (by simp)
    refine ⟨e.1, ⟨v, ?_⟩, ?_⟩
    · have ha : atI [pr e] 0 = some (pr e) := rfl
      have hb' : atI [e.1, D.int e.2.1] 0 = some e.1 := rfl
      simp (disch := omega) [bind_ok, bind_ex, bind_no, so_ok, so_ex, so_no, sSeq_ap, bS_nx, bS_rt, bS_ex, bS_bk, bS_ct, bS_no, sNil_ap, sBrk_ap, sCnt_ap, sRetN_ap, sRet_ap, sExpr_ap, kNx_ap, sSet_ap, asg_fz, asg_new, asg_at, setSl, sIf_ap, ifK_t, ifK_f, sRaise_ap, putK, sPut_ap, putAt, augK, tgK, sTg_ap, parK, sPar_ap, forK, sFor_ap, sWhile_ap, tryK, sTryM_ap, eVar_ap, eC_ap, e2b, e2_ap, e2a_ap, e1a, e1_ap, tb_ap, tbK_ap, trK, tr_ap, truth, bAnd_ap, bOr_ap, bNot_ap, andK_t, andK_f, orK_t, orK_f, notK_ap, bYes_ap, eAnd_ap, eOr_ap, eNot_ap, eandK_t, eandK_f, eorK_t, eorK_f, enotK_ap, eIf_ap, eifK_t, eifK_f, eCh_ap, ch1_ap, chA, chB_t, chB_f, chC, aNil_ap, aCons_ap, acK_ap, acM_some, acM_none, acL_ap, cbK, eCB_ap, tupK, lstK, eTup_ap, eLst_ap, mtK, eMt_ap, slC, eSl_ap, slA_ap, slB_ap, eo_none, eo_some, eoK_ap, eCall_ap, callM_ap, callR_fz, callR_new, callR_ex, nHere_ap, nhK_new, nhL_ap, ncL, ncK, nCons_ap, cnK, eCallN_ap, dropR, itK, eIt_ap, r1K, r2K, eR1_ap, eR2_ap, eLc_ap, hName_ap, hTup_ap, hNil_ap, hCons_ap, hcK_ap, peek, freeze, arg, peeks, peekA, dsOf, stAppend, stPop, stPopAt, stRev, okI, okB, okS, dAdd, dSub, dMulL, dDiv, dMod, dPow, dNeg, dLt, dLe, dGt, dGe, dIsN, dNotN, isNon, gLen, dLen, gInt, gAbs, gMin2, gMax2, gSum, gAll, gAny, gMin, gMax, gGcd, gList, gTuple, gStr, dIx, dSl, slots, atIx, backs, Dl.put, dTy, dEq_int, dEq_str, dNe_int, outT, back, kill, un1, nxtI_nx, nxtI_ct, nxrI_nx, nxrI_ct, nxrI_rt, lcB_t, lcB_f, lcT_ok, mDef_ap, mdR_nx, mdR_ex, mdR_rt, tyBool, tyInt, tyStr, tyTuple, tyList, List.getElem?_cons_zero, List.getElem?_cons_succ, List.getElem?_nil, List.set_cons_zero, List.set_cons_succ, List.set_nil, List.length_cons, List.length_nil, List.replicate_succ, List.replicate_zero, List.cons_append, List.nil_append, List.append_nil, ite_true, ite_false, if_true, if_false, Option.map_some, Option.map_none, reduceIte, List.nodup_nil, List.nodup_cons, List.not_mem_nil, not_false_eq_true, and_self, Option.bind_some, Option.getD_some, decide_true, decide_false, Bool.false_eq_true, Bool.true_eq_false, PySem.sizeLine_eq, ha]
      simp only [pr]
      simp (disch := omega) [bind_ok, bind_ex, bind_no, so_ok, so_ex, so_no, sSeq_ap, bS_nx, bS_rt, bS_ex, bS_bk, bS_ct, bS_no, sNil_ap, sBrk_ap, sCnt_ap, sRetN_ap, sRet_ap, sExpr_ap, kNx_ap, sSet_ap, asg_fz, asg_new, asg_at, setSl, sIf_ap, ifK_t, ifK_f, sRaise_ap, putK, sPut_ap, putAt, augK, tgK, sTg_ap, parK, sPar_ap, forK, sFor_ap, sWhile_ap, tryK, sTryM_ap, eVar_ap, eC_ap, e2b, e2_ap, e2a_ap, e1a, e1_ap, tb_ap, tbK_ap, trK, tr_ap, truth, bAnd_ap, bOr_ap, bNot_ap, andK_t, andK_f, orK_t, orK_f, notK_ap, bYes_ap, eAnd_ap, eOr_ap, eNot_ap, eandK_t, eandK_f, eorK_t, eorK_f, enotK_ap, eIf_ap, eifK_t, eifK_f, eCh_ap, ch1_ap, chA, chB_t, chB_f, chC, aNil_ap, aCons_ap, acK_ap, acM_some, acM_none, acL_ap, cbK, eCB_ap, tupK, lstK, eTup_ap, eLst_ap, mtK, eMt_ap, slC, eSl_ap, slA_ap, slB_ap, eo_none, eo_some, eoK_ap, eCall_ap, callM_ap, callR_fz, callR_new, callR_ex, nHere_ap, nhK_new, nhL_ap, ncL, ncK, nCons_ap, cnK, eCallN_ap, dropR, itK, eIt_ap, r1K, r2K, eR1_ap, eR2_ap, eLc_ap, hName_ap, hTup_ap, hNil_ap, hCons_ap, hcK_ap, peek, freeze, arg, peeks, peekA, dsOf, stAppend, stPop, stPopAt, stRev, okI, okB, okS, dAdd, dSub, dMulL, dDiv, dMod, dPow, dNeg, dLt, dLe, dGt, dGe, dIsN, dNotN, isNon, gLen, dLen, gInt, gAbs, gMin2, gMax2, gSum, gAll, gAny, gMin, gMax, gGcd, gList, gTuple, gStr, dIx, dSl, slots, atIx, backs, Dl.put, dTy, dEq_int, dEq_str, dNe_int, outT, back, kill, un1, nxtI_nx, nxtI_ct, nxrI_nx, nxrI_ct, nxrI_rt, lcB_t, lcB_f, lcT_ok, mDef_ap, mdR_nx, mdR_ex, mdR_rt, tyBool, tyInt, tyStr, tyTuple, tyList, List.getElem?_cons_zero, List.getElem?_cons_succ, List.getElem?_nil, List.set_cons_zero, List.set_cons_succ, List.set_nil, List.length_cons, List.length_nil, List.replicate_succ, List.replicate_zero, List.cons_append, List.nil_append, List.append_nil, ite_true, ite_false, if_true, if_false, Option.map_some, Option.map_none, reduceIte, List.nodup_nil, List.nodup_cons, List.not_mem_nil, not_false_eq_true, and_self, Option.bind_some, Option.getD_some, decide_true, decide_false, Bool.false_eq_true, Bool.true_eq_false, PySem.sizeLine_eq, hb']
    · have : pl.isEmpty = e.2.2 := by
        rcases hpw with z | ⟨z, x, z1, z2⟩
        · rw [z]; exact (hS.good (List.isEmpty_iff.mp z) e (by simp)).symm
        · rw [z]; rcases List.mem_singleton.mp z1 with rfl; exact z2.symm
      rw [this]
      exact x3.mono (by omega)
  · obtain ⟨t, v', q, t0, t1⟩ := take_spec v 2 (by omega)
    obtain ⟨w, hw, hat⟩ : ∃ w : PySem.Str, (w = "all" ∨ w = "any") ∧ atI [D.str "all", D.str "any"] t = some (D.str w) := by
      rcases (by omega : t = 0 ∨ t = 1) with z | z <;> subst z
      · exact ⟨"all", .inl rfl, rfl⟩
      · exact ⟨"any", .inr rfl, rfl⟩
    have h1' : ¬ ((st.length : Int) = 1) := by omega
    refine ⟨.tup [.str w, .tup (st.map fun e => e.1)], ⟨v', ?_⟩, ?_⟩
    · simp (disch := omega) [bind_ok, bind_ex, bind_no, so_ok, so_ex, so_no, sSeq_ap, bS_nx, bS_rt, bS_ex, bS_bk, bS_ct, bS_no, sNil_ap, sBrk_ap, sCnt_ap, sRetN_ap, sRet_ap, sExpr_ap, kNx_ap, sSet_ap, asg_fz, asg_new, asg_at, setSl, sIf_ap, ifK_t, ifK_f, sRaise_ap, putK, sPut_ap, putAt, augK, tgK, sTg_ap, parK, sPar_ap, forK, sFor_ap, sWhile_ap, tryK, sTryM_ap, eVar_ap, eC_ap, e2b, e2_ap, e2a_ap, e1a, e1_ap, tb_ap, tbK_ap, trK, tr_ap, truth, bAnd_ap, bOr_ap, bNot_ap, andK_t, andK_f, orK_t, orK_f, notK_ap, bYes_ap, eAnd_ap, eOr_ap, eNot_ap, eandK_t, eandK_f, eorK_t, eorK_f, enotK_ap, eIf_ap, eifK_t, eifK_f, eCh_ap, ch1_ap, chA, chB_t, chB_f, chC, aNil_ap, aCons_ap, acK_ap, acM_some, acM_none, acL_ap, cbK, eCB_ap, tupK, lstK, eTup_ap, eLst_ap, mtK, eMt_ap, slC, eSl_ap, slA_ap, slB_ap, eo_none, eo_some, eoK_ap, eCall_ap, callM_ap, callR_fz, callR_new, callR_ex, nHere_ap, nhK_new, nhL_ap, ncL, ncK, nCons_ap, cnK, eCallN_ap, dropR, itK, eIt_ap, r1K, r2K, eR1_ap, eR2_ap, eLc_ap, hName_ap, hTup_ap, hNil_ap, hCons_ap, hcK_ap, peek, freeze, arg, peeks, peekA, dsOf, stAppend, stPop, stPopAt, stRev, okI, okB, okS, dAdd, dSub, dMulL, dDiv, dMod, dPow, dNeg, dLt, dLe, dGt, dGe, dIsN, dNotN, isNon, gLen, dLen, gInt, gAbs, gMin2, gMax2, gSum, gAll, gAny, gMin, gMax, gGcd, gList, gTuple, gStr, dIx, dSl, slots, atIx, backs, Dl.put, dTy, dEq_int, dEq_str, dNe_int, outT, back, kill, un1, nxtI_nx, nxtI_ct, nxrI_nx, nxrI_ct, nxrI_rt, lcB_t, lcB_f, lcT_ok, mDef_ap, mdR_nx, mdR_ex, mdR_rt, tyBool, tyInt, tyStr, tyTuple, tyList, List.getElem?_cons_zero, List.getElem?_cons_succ, List.getElem?_nil, List.set_cons_zero, List.set_cons_succ, List.set_nil, List.length_cons, List.length_nil, List.replicate_succ, List.replicate_zero, List.cons_append, List.nil_append, List.append_nil, ite_true, ite_false, if_true, if_false, Option.map_some, Option.map_none, reduceIte, List.nodup_nil, List.nodup_cons, List.not_mem_nil, not_false_eq_true, and_self, Option.bind_some, Option.getD_some, decide_true, decide_false, Bool.false_eq_true, Bool.true_eq_false, PySem.sizeLine_eq, h1, h1', q, hat]
      rw [comp_ix 0 (fun e => e.1) (fun e => rfl) st (by omega) _ (.inl rfl)]
      simp (disch := omega) [bind_ok, bind_ex, bind_no, so_ok, so_ex, so_no, sSeq_ap, bS_nx, bS_rt, bS_ex, bS_bk, bS_ct, bS_no, sNil_ap, sBrk_ap, sCnt_ap, sRetN_ap, sRet_ap, sExpr_ap, kNx_ap, sSet_ap, asg_fz, asg_new, asg_at, setSl, sIf_ap, ifK_t, ifK_f, sRaise_ap, putK, sPut_ap, putAt, augK, tgK, sTg_ap, parK, sPar_ap, forK, sFor_ap, sWhile_ap, tryK, sTryM_ap, eVar_ap, eC_ap, e2b, e2_ap, e2a_ap, e1a, e1_ap, tb_ap, tbK_ap, trK, tr_ap, truth, bAnd_ap, bOr_ap, bNot_ap, andK_t, andK_f, orK_t, orK_f, notK_ap, bYes_ap, eAnd_ap, eOr_ap, eNot_ap, eandK_t, eandK_f, eorK_t, eorK_f, enotK_ap, eIf_ap, eifK_t, eifK_f, eCh_ap, ch1_ap, chA, chB_t, chB_f, chC, aNil_ap, aCons_ap, acK_ap, acM_some, acM_none, acL_ap, cbK, eCB_ap, tupK, lstK, eTup_ap, eLst_ap, mtK, eMt_ap, slC, eSl_ap, slA_ap, slB_ap, eo_none, eo_some, eoK_ap, eCall_ap, callM_ap, callR_fz, callR_new, callR_ex, nHere_ap, nhK_new, nhL_ap, ncL, ncK, nCons_ap, cnK, eCallN_ap, dropR, itK, eIt_ap, r1K, r2K, eR1_ap, eR2_ap, eLc_ap, hName_ap, hTup_ap, hNil_ap, hCons_ap, hcK_ap, peek, freeze, arg, peeks, peekA, dsOf, stAppend, stPop, stPopAt, stRev, okI, okB, okS, dAdd, dSub, dMulL, dDiv, dMod, dPow, dNeg, dLt, dLe, dGt, dGe, dIsN, dNotN, isNon, gLen, dLen, gInt, gAbs, gMin2, gMax2, gSum, gAll, gAny, gMin, gMax, gGcd, gList, gTuple, gStr, dIx, dSl, slots, atIx, backs, Dl.put, dTy, dEq_int, dEq_str, dNe_int, outT, back, kill, un1, nxtI_nx, nxtI_ct, nxrI_nx, nxrI_ct, nxrI_rt, lcB_t, lcB_f, lcT_ok, mDef_ap, mdR_nx, mdR_ex, mdR_rt, tyBool, tyInt, tyStr, tyTuple, tyList, List.getElem?_cons_zero, List.getElem?_cons_succ, List.getElem?_nil, List.set_cons_zero, List.set_cons_succ, List.set_nil, List.length_cons, List.length_nil, List.replicate_succ, List.replicate_zero, List.cons_append, List.nil_append, List.append_nil, ite_true, ite_false, if_true, if_false, Option.map_some, Option.map_none, reduceIte, List.nodup_nil, List.nodup_cons, List.not_mem_nil, not_false_eq_true, and_self, Option.bind_some, Option.getD_some, decide_true, decide_false, Bool.false_eq_true, Bool.true_eq_false, PySem.sizeLine_eq]
    · have hiw := iw_all (n := n) (h := 9) (ps := st.map fun e => e.1) (bs := st.map fun e => e.2.2) hw (by rw [List.length_map]; omega) (fun j p hp => by
        rw [List.getElem?_map] at hp
        obtain ⟨e, he, rfl⟩ := Option.map_eq_some_iff.mp hp
        obtain ⟨x1, x2, x3⟩ := hS.ent e (List.mem_of_getElem? he)
        exact ⟨e.2.2, by rw [List.getElem?_map, he]; rfl, x3.mono (by omega)⟩) (by simp)
      have : pl.isEmpty = (st.map fun e => e.2.2).all id := by
        rcases hpw with z | ⟨z, x, z1, z2⟩
        · rw [z]
          symm
          rw [List.all_eq_true]
          intro b hb
          obtain ⟨e, he, rfl⟩ := List.mem_map.mp hb
          exact hS.good (List.isEmpty_iff.mp z) e he
        · rw [z]
          symm
          rw [List.all_eq_false]
          exact ⟨x.2.2, List.mem_map_of_mem z1, by rw [z2]; simp⟩
      rw [this]
      exact hiw.mono (by omega)
end K01
namespace K01
open Dl
open L2 (atI cutS)
theorem bits_le {x : Int} {k : Nat} (h : x.natAbs < 2 ^ k) : bits x ≤ k := by
  unfold bits
  by_cases z : x.natAbs = 0
  · rw [z]; exact Nat.zero_le _
  · have := (Nat.log2_lt z).mpr h
    omega
theorem put_ix {n : Nat} {i : Int} (h0 : 0 ≤ i) (h : i < n) : L2.ixN n i = some i.toNat := by
  unfold L2.ixN
  rw [if_pos h0, if_pos h]
theorem draws_spec (ns : List Int) (hb : ∀ n ∈ ns, bits n ≤ 1048576) (hl : ns.length ≤ 63) (many : Int) (h0 : 0 ≤ many) (h1 : many ≤ 100000) :
    ∃ ds : List Int, m__law_draws [.fz (.scr (ns.map D.int)), .fz (.int many)] = .rt (.new (.lst (ds.map D.int))) [.fz (.scr (ns.map D.int)), .fz (.int many)] := by
  unfold m__law_draws g__law_draws
  simp (disch := omega) [bind_ok, bind_ex, bind_no, so_ok, so_ex, so_no, sSeq_ap, bS_nx, bS_rt, bS_ex, bS_bk, bS_ct, bS_no, sNil_ap, sBrk_ap, sCnt_ap, sRetN_ap, sRet_ap, sExpr_ap, kNx_ap, sSet_ap, asg_fz, asg_new, asg_at, setSl, sIf_ap, ifK_t, ifK_f, sRaise_ap, putK, sPut_ap, putAt, augK, tgK, sTg_ap, parK, sPar_ap, forK, sFor_ap, sWhile_ap, tryK, sTryM_ap, eVar_ap, eC_ap, e2b, e2_ap, e2a_ap, e1a, e1_ap, tb_ap, tbK_ap, trK, tr_ap, truth, bAnd_ap, bOr_ap, bNot_ap, andK_t, andK_f, orK_t, orK_f, notK_ap, bYes_ap, eAnd_ap, eOr_ap, eNot_ap, eandK_t, eandK_f, eorK_t, eorK_f, enotK_ap, eIf_ap, eifK_t, eifK_f, eCh_ap, ch1_ap, chA, chB_t, chB_f, chC, aNil_ap, aCons_ap, acK_ap, acM_some, acM_none, acL_ap, cbK, eCB_ap, tupK, lstK, eTup_ap, eLst_ap, mtK, eMt_ap, slC, eSl_ap, slA_ap, slB_ap, eo_none, eo_some, eoK_ap, eCall_ap, callM_ap, callR_fz, callR_new, callR_ex, nHere_ap, nhK_new, nhL_ap, ncL, ncK, nCons_ap, cnK, eCallN_ap, dropR, itK, eIt_ap, r1K, r2K, eR1_ap, eR2_ap, eLc_ap, hName_ap, hTup_ap, hNil_ap, hCons_ap, hcK_ap, peek, freeze, arg, peeks, peekA, dsOf, stAppend, stPop, stPopAt, stRev, okI, okB, okS, dAdd, dSub, dMulL, dDiv, dMod, dPow, dNeg, dLt, dLe, dGt, dGe, dIsN, dNotN, isNon, gLen, dLen, gInt, gAbs, gMin2, gMax2, gSum, gAll, gAny, gMin, gMax, gGcd, gList, gTuple, gStr, dIx, dSl, slots, atIx, backs, Dl.put, dTy, dEq_int, dEq_str, dNe_int, outT, back, kill, un1, nxtI_nx, nxtI_ct, nxrI_nx, nxrI_ct, nxrI_rt, lcB_t, lcB_f, lcT_ok, mDef_ap, mdR_nx, mdR_ex, mdR_rt, tyBool, tyInt, tyStr, tyTuple, tyList, List.getElem?_cons_zero, List.getElem?_cons_succ, List.getElem?_nil, List.set_cons_zero, List.set_cons_succ, List.set_nil, List.length_cons, List.length_nil, List.replicate_succ, List.replicate_zero, List.cons_append, List.nil_append, List.append_nil, ite_true, ite_false, if_true, if_false, Option.map_some, Option.map_none, reduceIte, List.nodup_nil, List.nodup_cons, List.not_mem_nil, not_false_eq_true, and_self, Option.bind_some, Option.getD_some, decide_true, decide_false, Bool.false_eq_true, Bool.true_eq_false, PySem.sizeLine_eq]
  rw [lc_pure (fun d => d) (.inl rfl) (by rw [List.length_map, PySem.sizeLine_eq]; omega) (fun d hd => by
    obtain ⟨n, _, rfl⟩ := List.mem_map.mp hd
    simp [bind_ok, bind_ex, bind_no, so_ok, so_ex, so_no, sSeq_ap, bS_nx, bS_rt, bS_ex, bS_bk, bS_ct, bS_no, sNil_ap, sBrk_ap, sCnt_ap, sRetN_ap, sRet_ap, sExpr_ap, kNx_ap, sSet_ap, asg_fz, asg_new, asg_at, setSl, sIf_ap, ifK_t, ifK_f, sRaise_ap, putK, sPut_ap, putAt, augK, tgK, sTg_ap, parK, sPar_ap, forK, sFor_ap, sWhile_ap, tryK, sTryM_ap, eVar_ap, eC_ap, e2b, e2_ap, e2a_ap, e1a, e1_ap, tb_ap, tbK_ap, trK, tr_ap, truth, bAnd_ap, bOr_ap, bNot_ap, andK_t, andK_f, orK_t, orK_f, notK_ap, bYes_ap, eAnd_ap, eOr_ap, eNot_ap, eandK_t, eandK_f, eorK_t, eorK_f, enotK_ap, eIf_ap, eifK_t, eifK_f, eCh_ap, ch1_ap, chA, chB_t, chB_f, chC, aNil_ap, aCons_ap, acK_ap, acM_some, acM_none, acL_ap, cbK, eCB_ap, tupK, lstK, eTup_ap, eLst_ap, mtK, eMt_ap, slC, eSl_ap, slA_ap, slB_ap, eo_none, eo_some, eoK_ap, eCall_ap, callM_ap, callR_fz, callR_new, callR_ex, nHere_ap, nhK_new, nhL_ap, ncL, ncK, nCons_ap, cnK, eCallN_ap, dropR, itK, eIt_ap, r1K, r2K, eR1_ap, eR2_ap, eLc_ap, hName_ap, hTup_ap, hNil_ap, hCons_ap, hcK_ap, peek, freeze, arg, peeks, peekA, dsOf, stAppend, stPop, stPopAt, stRev, okI, okB, okS, dAdd, dSub, dMulL, dDiv, dMod, dPow, dNeg, dLt, dLe, dGt, dGe, dIsN, dNotN, isNon, gLen, dLen, gInt, gAbs, gMin2, gMax2, gSum, gAll, gAny, gMin, gMax, gGcd, gList, gTuple, gStr, dIx, dSl, slots, atIx, backs, Dl.put, dTy, dEq_int, dEq_str, dNe_int, outT, back, kill, un1, nxtI_nx, nxtI_ct, nxrI_nx, nxrI_ct, nxrI_rt, lcB_t, lcB_f, lcT_ok, mDef_ap, mdR_nx, mdR_ex, mdR_rt, tyBool, tyInt, tyStr, tyTuple, tyList, List.getElem?_cons_zero, List.getElem?_cons_succ, List.getElem?_nil, List.set_cons_zero, List.set_cons_succ, List.set_nil, List.length_cons, List.length_nil, List.replicate_succ, List.replicate_zero, List.cons_append, List.nil_append, List.append_nil, ite_true, ite_false, if_true, if_false, Option.map_some, Option.map_none, reduceIte, List.nodup_nil, List.nodup_cons, List.not_mem_nil, not_false_eq_true, and_self, Option.bind_some, Option.getD_some, decide_true, decide_false, Bool.false_eq_true, Bool.true_eq_false, PySem.sizeLine_eq])]
  rw [List.map_id']
  -- the cells: none is missing
  obtain ⟨cs, hcs, hcl, hcb⟩ : ∃ cs : List Int, (ns = [] ∧ cs = [0] ∨ ns ≠ [] ∧ cs = ns) ∧ 0 < cs.length ∧ (cs.length ≤ 63 ∧ ∀ n ∈ cs, bits n ≤ 1048576) := by
    by_cases hn : ns = []
    · exact ⟨[0], .inl ⟨hn, rfl⟩, by simp, by simp, fun n hn => by rcases List.mem_singleton.mp hn with rfl; decide⟩
    · exact ⟨ns, .inr ⟨hn, rfl⟩, List.length_pos_iff.mpr hn, hl, hb⟩
  generalize hTL : sSeq (sSet 3 _) _ = TL
  have go : ∃ ds : List Int, mdR [.fz (.scr (ns.map D.int)), .fz (.int many)] (TL [.fz (.scr (ns.map D.int)), .fz (.int many), .ow false (.lst (cs.map D.int)), .un, .un, .un, .un, .un, .un]) = .rt (.new (.lst (ds.map D.int))) [.fz (.scr (ns.map D.int)), .fz (.int many)] := by
    rw [← hTL]
    simp (disch := omega) [bind_ok, bind_ex, bind_no, so_ok, so_ex, so_no, sSeq_ap, bS_nx, bS_rt, bS_ex, bS_bk, bS_ct, bS_no, sNil_ap, sBrk_ap, sCnt_ap, sRetN_ap, sRet_ap, sExpr_ap, kNx_ap, sSet_ap, asg_fz, asg_new, asg_at, setSl, sIf_ap, ifK_t, ifK_f, sRaise_ap, putK, sPut_ap, putAt, augK, tgK, sTg_ap, parK, sPar_ap, forK, sFor_ap, sWhile_ap, tryK, sTryM_ap, eVar_ap, eC_ap, e2b, e2_ap, e2a_ap, e1a, e1_ap, tb_ap, tbK_ap, trK, tr_ap, truth, bAnd_ap, bOr_ap, bNot_ap, andK_t, andK_f, orK_t, orK_f, notK_ap, bYes_ap, eAnd_ap, eOr_ap, eNot_ap, eandK_t, eandK_f, eorK_t, eorK_f, enotK_ap, eIf_ap, eifK_t, eifK_f, eCh_ap, ch1_ap, chA, chB_t, chB_f, chC, aNil_ap, aCons_ap, acK_ap, acM_some, acM_none, acL_ap, cbK, eCB_ap, tupK, lstK, eTup_ap, eLst_ap, mtK, eMt_ap, slC, eSl_ap, slA_ap, slB_ap, eo_none, eo_some, eoK_ap, eCall_ap, callM_ap, callR_fz, callR_new, callR_ex, nHere_ap, nhK_new, nhL_ap, ncL, ncK, nCons_ap, cnK, eCallN_ap, dropR, itK, eIt_ap, r1K, r2K, eR1_ap, eR2_ap, eLc_ap, hName_ap, hTup_ap, hNil_ap, hCons_ap, hcK_ap, peek, freeze, arg, peeks, peekA, dsOf, stAppend, stPop, stPopAt, stRev, okI, okB, okS, dAdd, dSub, dMulL, dDiv, dMod, dPow, dNeg, dLt, dLe, dGt, dGe, dIsN, dNotN, isNon, gLen, dLen, gInt, gAbs, gMin2, gMax2, gSum, gAll, gAny, gMin, gMax, gGcd, gList, gTuple, gStr, dIx, dSl, slots, atIx, backs, Dl.put, dTy, dEq_int, dEq_str, dNe_int, outT, back, kill, un1, nxtI_nx, nxtI_ct, nxrI_nx, nxrI_ct, nxrI_rt, lcB_t, lcB_f, lcT_ok, mDef_ap, mdR_nx, mdR_ex, mdR_rt, tyBool, tyInt, tyStr, tyTuple, tyList, List.getElem?_cons_zero, List.getElem?_cons_succ, List.getElem?_nil, List.set_cons_zero, List.set_cons_succ, List.set_nil, List.length_cons, List.length_nil, List.replicate_succ, List.replicate_zero, List.cons_append, List.nil_append, List.append_nil, ite_true, ite_false, if_true, if_false, Option.map_some, Option.map_none, reduceIte, List.nodup_nil, List.nodup_cons, List.not_mem_nil, not_false_eq_true, and_self, Option.bind_some, Option.getD_some, decide_true, decide_false, Bool.false_eq_true, Bool.true_eq_false, PySem.sizeLine_eq, if_pos]
    generalize hf : forD _ _ _ _ _ = r
    obtain ⟨I, hI⟩ : ∃ I : Nat → En → Prop, I = fun i env => ∃ (rs ds : List Int), env = [.fz (.scr (ns.map D.int)), .fz (.int many), .ow false (.lst (cs.map D.int)), .ow false (.lst (rs.map D.int)), .ow false (.lst (ds.map D.int)), .un, .un, .un, .un] ∧ rs.length = cs.length ∧ ds.length = i := ⟨_, rfl⟩
    have hf' := forD_at hf I (by rw [hI]; exact ⟨cs, [], rfl, rfl, rfl⟩) (fun i d e hdi he => by
      rw [hI] at he
      obtain ⟨rs, ds, he, hrs, hds⟩ := he
      obtain ⟨rfl, hi⟩ := rng_get hdi
      subst he
      refine ⟨_, rfl, ?_⟩
      simp only [Int.zero_add]
      have hp : (0 : Int) < cs.length := by omega
      have a0 := Int.fmod_nonneg_of_pos (i : Int) hp
      have a1 := Int.fmod_lt_of_pos (i : Int) hp
      have z1 : ¬ (cs.length : Int) = 0 := by omega
      have z2 : ¬ cs.length = 0 := by omega
      have z3 : ¬ cs = [] := fun z => by rw [z] at hcl; cases hcl
      generalize hat : (i : Int).fmod cs.length = at_ at *
      have e1 := atI_lt (cs.map D.int) a0 (by rw [List.length_map]; exact a1)
      have e2 := atI_lt (rs.map D.int) a0 (by rw [List.length_map, hrs]; exact a1)
      rw [List.getElem_map] at e1 e2
      have hcm : cs[at_.toNat]'(by omega) ∈ cs := List.getElem_mem _
      generalize cs[at_.toNat]'(by omega) = c at *
      generalize rs[at_.toNat]'(by omega) = x at *
      have hc := hcb.2 c hcm
      have hdl : ds.length < 16777216 := by omega
      have clear_ : True := trivial
      by_cases hge : (1000000000000000000 : Int) ≤ c
      · have hb1000 : bits 1000 < 9000 := by decide
        have hix : L2.ixN rs.length at_ = some at_.toNat := put_ix a0 (by omega)
        simp (disch := omega) [bind_ok, bind_ex, bind_no, so_ok, so_ex, so_no, sSeq_ap, bS_nx, bS_rt, bS_ex, bS_bk, bS_ct, bS_no, sNil_ap, sBrk_ap, sCnt_ap, sRetN_ap, sRet_ap, sExpr_ap, kNx_ap, sSet_ap, asg_fz, asg_new, asg_at, setSl, sIf_ap, ifK_t, ifK_f, sRaise_ap, putK, sPut_ap, putAt, augK, tgK, sTg_ap, parK, sPar_ap, forK, sFor_ap, sWhile_ap, tryK, sTryM_ap, eVar_ap, eC_ap, e2b, e2_ap, e2a_ap, e1a, e1_ap, tb_ap, tbK_ap, trK, tr_ap, truth, bAnd_ap, bOr_ap, bNot_ap, andK_t, andK_f, orK_t, orK_f, notK_ap, bYes_ap, eAnd_ap, eOr_ap, eNot_ap, eandK_t, eandK_f, eorK_t, eorK_f, enotK_ap, eIf_ap, eifK_t, eifK_f, eCh_ap, ch1_ap, chA, chB_t, chB_f, chC, aNil_ap, aCons_ap, acK_ap, acM_some, acM_none, acL_ap, cbK, eCB_ap, tupK, lstK, eTup_ap, eLst_ap, mtK, eMt_ap, slC, eSl_ap, slA_ap, slB_ap, eo_none, eo_some, eoK_ap, eCall_ap, callM_ap, callR_fz, callR_new, callR_ex, nHere_ap, nhK_new, nhL_ap, ncL, ncK, nCons_ap, cnK, eCallN_ap, dropR, itK, eIt_ap, r1K, r2K, eR1_ap, eR2_ap, eLc_ap, hName_ap, hTup_ap, hNil_ap, hCons_ap, hcK_ap, peek, freeze, arg, peeks, peekA, dsOf, stAppend, stPop, stPopAt, stRev, okI, okB, okS, dAdd, dSub, dMulL, dDiv, dMod, dPow, dNeg, dLt, dLe, dGt, dGe, dIsN, dNotN, isNon, gLen, dLen, gInt, gAbs, gMin2, gMax2, gSum, gAll, gAny, gMin, gMax, gGcd, gList, gTuple, gStr, dIx, dSl, slots, atIx, backs, Dl.put, dTy, dEq_int, dEq_str, dNe_int, outT, back, kill, un1, nxtI_nx, nxtI_ct, nxrI_nx, nxrI_ct, nxrI_rt, lcB_t, lcB_f, lcT_ok, mDef_ap, mdR_nx, mdR_ex, mdR_rt, tyBool, tyInt, tyStr, tyTuple, tyList, List.getElem?_cons_zero, List.getElem?_cons_succ, List.getElem?_nil, List.set_cons_zero, List.set_cons_succ, List.set_nil, List.length_cons, List.length_nil, List.replicate_succ, List.replicate_zero, List.cons_append, List.nil_append, List.append_nil, ite_true, ite_false, if_true, if_false, Option.map_some, Option.map_none, reduceIte, List.nodup_nil, List.nodup_cons, List.not_mem_nil, not_false_eq_true, and_self, Option.bind_some, Option.getD_some, decide_true, decide_false, Bool.false_eq_true, Bool.true_eq_false, PySem.sizeLine_eq, z1, z2, z3, hat, e1, e2, hge, if_pos, hix]
        rw [hI]
        refine ⟨rs.set at_.toNat (x.fdiv 1000), ds ++ [x.fmod 1000], by simp, by simp [hrs], by simp [hds]⟩
      · have n1 := Int.fmod_nonneg_of_pos (c * 48271 + i * 69621 + 11) (show (0:Int) < 2147483647 by decide)
        have n2 := Int.fmod_lt_of_pos (c * 48271 + i * 69621 + 11) (show (0:Int) < 2147483647 by decide)
        have m1 : bits c + bits 48271 ≤ 100000000 := by have : bits 48271 = 15 := by decide
                                                        omega
        have m2 : bits (i : Int) + bits 69621 ≤ 100000000 := by
          have : bits 69621 = 16 := by decide
          have := bits_self (i : Int)
          omega
        generalize hon : (c * 48271 + i * 69621 + 11).fmod 2147483647 = once at *
        have b1 : bits once ≤ 31 := bits_le (by have : (2 : Nat) ^ 31 = 2147483648 := by decide
                                                omega)
        have m3 : bits once + bits once ≤ 100000000 := by omega
        have m4 : bits 3 + bits once ≤ 100000000 := by have : bits 3 = 1 := by decide
                                                       omega
        simp (disch := omega) [bind_ok, bind_ex, bind_no, so_ok, so_ex, so_no, sSeq_ap, bS_nx, bS_rt, bS_ex, bS_bk, bS_ct, bS_no, sNil_ap, sBrk_ap, sCnt_ap, sRetN_ap, sRet_ap, sExpr_ap, kNx_ap, sSet_ap, asg_fz, asg_new, asg_at, setSl, sIf_ap, ifK_t, ifK_f, sRaise_ap, putK, sPut_ap, putAt, augK, tgK, sTg_ap, parK, sPar_ap, forK, sFor_ap, sWhile_ap, tryK, sTryM_ap, eVar_ap, eC_ap, e2b, e2_ap, e2a_ap, e1a, e1_ap, tb_ap, tbK_ap, trK, tr_ap, truth, bAnd_ap, bOr_ap, bNot_ap, andK_t, andK_f, orK_t, orK_f, notK_ap, bYes_ap, eAnd_ap, eOr_ap, eNot_ap, eandK_t, eandK_f, eorK_t, eorK_f, enotK_ap, eIf_ap, eifK_t, eifK_f, eCh_ap, ch1_ap, chA, chB_t, chB_f, chC, aNil_ap, aCons_ap, acK_ap, acM_some, acM_none, acL_ap, cbK, eCB_ap, tupK, lstK, eTup_ap, eLst_ap, mtK, eMt_ap, slC, eSl_ap, slA_ap, slB_ap, eo_none, eo_some, eoK_ap, eCall_ap, callM_ap, callR_fz, callR_new, callR_ex, nHere_ap, nhK_new, nhL_ap, ncL, ncK, nCons_ap, cnK, eCallN_ap, dropR, itK, eIt_ap, r1K, r2K, eR1_ap, eR2_ap, eLc_ap, hName_ap, hTup_ap, hNil_ap, hCons_ap, hcK_ap, peek, freeze, arg, peeks, peekA, dsOf, stAppend, stPop, stPopAt, stRev, okI, okB, okS, dAdd, dSub, dMulL, dDiv, dMod, dPow, dNeg, dLt, dLe, dGt, dGe, dIsN, dNotN, isNon, gLen, dLen, gInt, gAbs, gMin2, gMax2, gSum, gAll, gAny, gMin, gMax, gGcd, gList, gTuple, gStr, dIx, dSl, slots, atIx, backs, Dl.put, dTy, dEq_int, dEq_str, dNe_int, outT, back, kill, un1, nxtI_nx, nxtI_ct, nxrI_nx, nxrI_ct, nxrI_rt, lcB_t, lcB_f, lcT_ok, mDef_ap, mdR_nx, mdR_ex, mdR_rt, tyBool, tyInt, tyStr, tyTuple, tyList, List.getElem?_cons_zero, List.getElem?_cons_succ, List.getElem?_nil, List.set_cons_zero, List.set_cons_succ, List.set_nil, List.length_cons, List.length_nil, List.replicate_succ, List.replicate_zero, List.cons_append, List.nil_append, List.append_nil, ite_true, ite_false, if_true, if_false, Option.map_some, Option.map_none, reduceIte, List.nodup_nil, List.nodup_cons, List.not_mem_nil, not_false_eq_true, and_self, Option.bind_some, Option.getD_some, decide_true, decide_false, Bool.false_eq_true, Bool.true_eq_false, PySem.sizeLine_eq, z1, z2, z3, hat, e1, e2, hge, if_pos, m1, m2, m3, m4, hon]
        rw [hI]
        exact ⟨rs, ds ++ [(once * once + 3 * once + i).fmod 1000003], by simp, hrs, by simp [hds]⟩)
    clear hf hTL
    obtain ⟨envN, rfl, hN⟩ := hf'
    rw [hI] at hN
    obtain ⟨rs, ds, rfl, _, _⟩ := hN
    refine ⟨ds.reverse, ?_⟩
    simp [bind_ok, bind_ex, bind_no, so_ok, so_ex, so_no, sSeq_ap, bS_nx, bS_rt, bS_ex, bS_bk, bS_ct, bS_no, sNil_ap, sBrk_ap, sCnt_ap, sRetN_ap, sRet_ap, sExpr_ap, kNx_ap, sSet_ap, asg_fz, asg_new, asg_at, setSl, sIf_ap, ifK_t, ifK_f, sRaise_ap, putK, sPut_ap, putAt, augK, tgK, sTg_ap, parK, sPar_ap, forK, sFor_ap, sWhile_ap, tryK, sTryM_ap, eVar_ap, eC_ap, e2b, e2_ap, e2a_ap, e1a, e1_ap, tb_ap, tbK_ap, trK, tr_ap, truth, bAnd_ap, bOr_ap, bNot_ap, andK_t, andK_f, orK_t, orK_f, notK_ap, bYes_ap, eAnd_ap, eOr_ap, eNot_ap, eandK_t, eandK_f, eorK_t, eorK_f, enotK_ap, eIf_ap, eifK_t, eifK_f, eCh_ap, ch1_ap, chA, chB_t, chB_f, chC, aNil_ap, aCons_ap, acK_ap, acM_some, acM_none, acL_ap, cbK, eCB_ap, tupK, lstK, eTup_ap, eLst_ap, mtK, eMt_ap, slC, eSl_ap, slA_ap, slB_ap, eo_none, eo_some, eoK_ap, eCall_ap, callM_ap, callR_fz, callR_new, callR_ex, nHere_ap, nhK_new, nhL_ap, ncL, ncK, nCons_ap, cnK, eCallN_ap, dropR, itK, eIt_ap, r1K, r2K, eR1_ap, eR2_ap, eLc_ap, hName_ap, hTup_ap, hNil_ap, hCons_ap, hcK_ap, peek, freeze, arg, peeks, peekA, dsOf, stAppend, stPop, stPopAt, stRev, okI, okB, okS, dAdd, dSub, dMulL, dDiv, dMod, dPow, dNeg, dLt, dLe, dGt, dGe, dIsN, dNotN, isNon, gLen, dLen, gInt, gAbs, gMin2, gMax2, gSum, gAll, gAny, gMin, gMax, gGcd, gList, gTuple, gStr, dIx, dSl, slots, atIx, backs, Dl.put, dTy, dEq_int, dEq_str, dNe_int, outT, back, kill, un1, nxtI_nx, nxtI_ct, nxrI_nx, nxrI_ct, nxrI_rt, lcB_t, lcB_f, lcT_ok, mDef_ap, mdR_nx, mdR_ex, mdR_rt, tyBool, tyInt, tyStr, tyTuple, tyList, List.getElem?_cons_zero, List.getElem?_cons_succ, List.getElem?_nil, List.set_cons_zero, List.set_cons_succ, List.set_nil, List.length_cons, List.length_nil, List.replicate_succ, List.replicate_zero, List.cons_append, List.nil_append, List.append_nil, ite_true, ite_false, if_true, if_false, Option.map_some, Option.map_none, reduceIte, List.nodup_nil, List.nodup_cons, List.not_mem_nil, not_false_eq_true, and_self, Option.bind_some, Option.getD_some, decide_true, decide_false, Bool.false_eq_true, Bool.true_eq_false, PySem.sizeLine_eq]
  rcases hcs with ⟨h, rfl⟩ | ⟨h, rfl⟩
  · subst h
    simp (disch := omega) [bind_ok, bind_ex, bind_no, so_ok, so_ex, so_no, sSeq_ap, bS_nx, bS_rt, bS_ex, bS_bk, bS_ct, bS_no, sNil_ap, sBrk_ap, sCnt_ap, sRetN_ap, sRet_ap, sExpr_ap, kNx_ap, sSet_ap, asg_fz, asg_new, asg_at, setSl, sIf_ap, ifK_t, ifK_f, sRaise_ap, putK, sPut_ap, putAt, augK, tgK, sTg_ap, parK, sPar_ap, forK, sFor_ap, sWhile_ap, tryK, sTryM_ap, eVar_ap, eC_ap, e2b, e2_ap, e2a_ap, e1a, e1_ap, tb_ap, tbK_ap, trK, tr_ap, truth, bAnd_ap, bOr_ap, bNot_ap, andK_t, andK_f, orK_t, orK_f, notK_ap, bYes_ap, eAnd_ap, eOr_ap, eNot_ap, eandK_t, eandK_f, eorK_t, eorK_f, enotK_ap, eIf_ap, eifK_t, eifK_f, eCh_ap, ch1_ap, chA, chB_t, chB_f, chC, aNil_ap, aCons_ap, acK_ap, acM_some, acM_none, acL_ap, cbK, eCB_ap, tupK, lstK, eTup_ap, eLst_ap, mtK, eMt_ap, slC, eSl_ap, slA_ap, slB_ap, eo_none, eo_some, eoK_ap, eCall_ap, callM_ap, callR_fz, callR_new, callR_ex, nHere_ap, nhK_new, nhL_ap, ncL, ncK, nCons_ap, cnK, eCallN_ap, dropR, itK, eIt_ap, r1K, r2K, eR1_ap, eR2_ap, eLc_ap, hName_ap, hTup_ap, hNil_ap, hCons_ap, hcK_ap, peek, freeze, arg, peeks, peekA, dsOf, stAppend, stPop, stPopAt, stRev, okI, okB, okS, dAdd, dSub, dMulL, dDiv, dMod, dPow, dNeg, dLt, dLe, dGt, dGe, dIsN, dNotN, isNon, gLen, dLen, gInt, gAbs, gMin2, gMax2, gSum, gAll, gAny, gMin, gMax, gGcd, gList, gTuple, gStr, dIx, dSl, slots, atIx, backs, Dl.put, dTy, dEq_int, dEq_str, dNe_int, outT, back, kill, un1, nxtI_nx, nxtI_ct, nxrI_nx, nxrI_ct, nxrI_rt, lcB_t, lcB_f, lcT_ok, mDef_ap, mdR_nx, mdR_ex, mdR_rt, tyBool, tyInt, tyStr, tyTuple, tyList, List.getElem?_cons_zero, List.getElem?_cons_succ, List.getElem?_nil, List.set_cons_zero, List.set_cons_succ, List.set_nil, List.length_cons, List.length_nil, List.replicate_succ, List.replicate_zero, List.cons_append, List.nil_append, List.append_nil, ite_true, ite_false, if_true, if_false, Option.map_some, Option.map_none, reduceIte, List.nodup_nil, List.nodup_cons, List.not_mem_nil, not_false_eq_true, and_self, Option.bind_some, Option.getD_some, decide_true, decide_false, Bool.false_eq_true, Bool.true_eq_false, PySem.sizeLine_eq]
    simpa using go
  · have hl0 : ¬ ((cs.length : Int) = 0) := by omega
    have hl1 : ¬ cs = [] := h
    simp (disch := omega) [bind_ok, bind_ex, bind_no, so_ok, so_ex, so_no, sSeq_ap, bS_nx, bS_rt, bS_ex, bS_bk, bS_ct, bS_no, sNil_ap, sBrk_ap, sCnt_ap, sRetN_ap, sRet_ap, sExpr_ap, kNx_ap, sSet_ap, asg_fz, asg_new, asg_at, setSl, sIf_ap, ifK_t, ifK_f, sRaise_ap, putK, sPut_ap, putAt, augK, tgK, sTg_ap, parK, sPar_ap, forK, sFor_ap, sWhile_ap, tryK, sTryM_ap, eVar_ap, eC_ap, e2b, e2_ap, e2a_ap, e1a, e1_ap, tb_ap, tbK_ap, trK, tr_ap, truth, bAnd_ap, bOr_ap, bNot_ap, andK_t, andK_f, orK_t, orK_f, notK_ap, bYes_ap, eAnd_ap, eOr_ap, eNot_ap, eandK_t, eandK_f, eorK_t, eorK_f, enotK_ap, eIf_ap, eifK_t, eifK_f, eCh_ap, ch1_ap, chA, chB_t, chB_f, chC, aNil_ap, aCons_ap, acK_ap, acM_some, acM_none, acL_ap, cbK, eCB_ap, tupK, lstK, eTup_ap, eLst_ap, mtK, eMt_ap, slC, eSl_ap, slA_ap, slB_ap, eo_none, eo_some, eoK_ap, eCall_ap, callM_ap, callR_fz, callR_new, callR_ex, nHere_ap, nhK_new, nhL_ap, ncL, ncK, nCons_ap, cnK, eCallN_ap, dropR, itK, eIt_ap, r1K, r2K, eR1_ap, eR2_ap, eLc_ap, hName_ap, hTup_ap, hNil_ap, hCons_ap, hcK_ap, peek, freeze, arg, peeks, peekA, dsOf, stAppend, stPop, stPopAt, stRev, okI, okB, okS, dAdd, dSub, dMulL, dDiv, dMod, dPow, dNeg, dLt, dLe, dGt, dGe, dIsN, dNotN, isNon, gLen, dLen, gInt, gAbs, gMin2, gMax2, gSum, gAll, gAny, gMin, gMax, gGcd, gList, gTuple, gStr, dIx, dSl, slots, atIx, backs, Dl.put, dTy, dEq_int, dEq_str, dNe_int, outT, back, kill, un1, nxtI_nx, nxtI_ct, nxrI_nx, nxrI_ct, nxrI_rt, lcB_t, lcB_f, lcT_ok, mDef_ap, mdR_nx, mdR_ex, mdR_rt, tyBool, tyInt, tyStr, tyTuple, tyList, List.getElem?_cons_zero, List.getElem?_cons_succ, List.getElem?_nil, List.set_cons_zero, List.set_cons_succ, List.set_nil, List.length_cons, List.length_nil, List.replicate_succ, List.replicate_zero, List.cons_append, List.nil_append, List.append_nil, ite_true, ite_false, if_true, if_false, Option.map_some, Option.map_none, reduceIte, List.nodup_nil, List.nodup_cons, List.not_mem_nil, not_false_eq_true, and_self, Option.bind_some, Option.getD_some, decide_true, decide_false, Bool.false_eq_true, Bool.true_eq_false, PySem.sizeLine_eq, hl0, hl1]
    simpa using go
end K01
namespace K01
open Dl
open L2 (atI cutS)
def marks : List D := [.bl true, .bl false, .bl false, .bl false, .bl false, .bl false, .bl false, .bl false, .bl false, .bl true]
theorem check_true {n : Int} {w : D} (h : IW n 11 w true) : m__law_check [.fz w, .fz (.int n)] = .rt (.fz .non) [.fz w, .fz (.int n)] := by
  have h40 := h 40 (by decide)
  unfold m__law_check g__law_check m_check_word g_check_word
  simp [bind_ok, bind_ex, bind_no, so_ok, so_ex, so_no, sSeq_ap, bS_nx, bS_rt, bS_ex, bS_bk, bS_ct, bS_no, sNil_ap, sBrk_ap, sCnt_ap, sRetN_ap, sRet_ap, sExpr_ap, kNx_ap, sSet_ap, asg_fz, asg_new, asg_at, setSl, sIf_ap, ifK_t, ifK_f, sRaise_ap, putK, sPut_ap, putAt, augK, tgK, sTg_ap, parK, sPar_ap, forK, sFor_ap, sWhile_ap, tryK, sTryM_ap, eVar_ap, eC_ap, e2b, e2_ap, e2a_ap, e1a, e1_ap, tb_ap, tbK_ap, trK, tr_ap, truth, bAnd_ap, bOr_ap, bNot_ap, andK_t, andK_f, orK_t, orK_f, notK_ap, bYes_ap, eAnd_ap, eOr_ap, eNot_ap, eandK_t, eandK_f, eorK_t, eorK_f, enotK_ap, eIf_ap, eifK_t, eifK_f, eCh_ap, ch1_ap, chA, chB_t, chB_f, chC, aNil_ap, aCons_ap, acK_ap, acM_some, acM_none, acL_ap, cbK, eCB_ap, tupK, lstK, eTup_ap, eLst_ap, mtK, eMt_ap, slC, eSl_ap, slA_ap, slB_ap, eo_none, eo_some, eoK_ap, eCall_ap, callM_ap, callR_fz, callR_new, callR_ex, nHere_ap, nhK_new, nhL_ap, ncL, ncK, nCons_ap, cnK, eCallN_ap, dropR, itK, eIt_ap, r1K, r2K, eR1_ap, eR2_ap, eLc_ap, hName_ap, hTup_ap, hNil_ap, hCons_ap, hcK_ap, peek, freeze, arg, peeks, peekA, dsOf, stAppend, stPop, stPopAt, stRev, okI, okB, okS, dAdd, dSub, dMulL, dDiv, dMod, dPow, dNeg, dLt, dLe, dGt, dGe, dIsN, dNotN, isNon, gLen, dLen, gInt, gAbs, gMin2, gMax2, gSum, gAll, gAny, gMin, gMax, gGcd, gList, gTuple, gStr, dIx, dSl, slots, atIx, backs, Dl.put, dTy, dEq_int, dEq_str, dNe_int, outT, back, kill, un1, nxtI_nx, nxtI_ct, nxrI_nx, nxrI_ct, nxrI_rt, lcB_t, lcB_f, lcT_ok, mDef_ap, mdR_nx, mdR_ex, mdR_rt, tyBool, tyInt, tyStr, tyTuple, tyList, List.getElem?_cons_zero, List.getElem?_cons_succ, List.getElem?_nil, List.set_cons_zero, List.set_cons_succ, List.set_nil, List.length_cons, List.length_nil, List.replicate_succ, List.replicate_zero, List.cons_append, List.nil_append, List.append_nil, ite_true, ite_false, if_true, if_false, Option.map_some, Option.map_none, reduceIte, List.nodup_nil, List.nodup_cons, List.not_mem_nil, not_false_eq_true, and_self, Option.bind_some, Option.getD_some, decide_true, decide_false, Bool.false_eq_true, Bool.true_eq_false, PySem.sizeLine_eq, h40]
theorem check_false {n : Int} {w : D} (h : IW n 11 w false) : m__law_check [.fz w, .fz (.int n)] = .rt (.new (.lst marks)) [.fz w, .fz (.int n)] := by
  have h40 := h 40 (by decide)
  unfold m__law_check g__law_check m_check_word g_check_word
  simp [bind_ok, bind_ex, bind_no, so_ok, so_ex, so_no, sSeq_ap, bS_nx, bS_rt, bS_ex, bS_bk, bS_ct, bS_no, sNil_ap, sBrk_ap, sCnt_ap, sRetN_ap, sRet_ap, sExpr_ap, kNx_ap, sSet_ap, asg_fz, asg_new, asg_at, setSl, sIf_ap, ifK_t, ifK_f, sRaise_ap, putK, sPut_ap, putAt, augK, tgK, sTg_ap, parK, sPar_ap, forK, sFor_ap, sWhile_ap, tryK, sTryM_ap, eVar_ap, eC_ap, e2b, e2_ap, e2a_ap, e1a, e1_ap, tb_ap, tbK_ap, trK, tr_ap, truth, bAnd_ap, bOr_ap, bNot_ap, andK_t, andK_f, orK_t, orK_f, notK_ap, bYes_ap, eAnd_ap, eOr_ap, eNot_ap, eandK_t, eandK_f, eorK_t, eorK_f, enotK_ap, eIf_ap, eifK_t, eifK_f, eCh_ap, ch1_ap, chA, chB_t, chB_f, chC, aNil_ap, aCons_ap, acK_ap, acM_some, acM_none, acL_ap, cbK, eCB_ap, tupK, lstK, eTup_ap, eLst_ap, mtK, eMt_ap, slC, eSl_ap, slA_ap, slB_ap, eo_none, eo_some, eoK_ap, eCall_ap, callM_ap, callR_fz, callR_new, callR_ex, nHere_ap, nhK_new, nhL_ap, ncL, ncK, nCons_ap, cnK, eCallN_ap, dropR, itK, eIt_ap, r1K, r2K, eR1_ap, eR2_ap, eLc_ap, hName_ap, hTup_ap, hNil_ap, hCons_ap, hcK_ap, peek, freeze, arg, peeks, peekA, dsOf, stAppend, stPop, stPopAt, stRev, okI, okB, okS, dAdd, dSub, dMulL, dDiv, dMod, dPow, dNeg, dLt, dLe, dGt, dGe, dIsN, dNotN, isNon, gLen, dLen, gInt, gAbs, gMin2, gMax2, gSum, gAll, gAny, gMin, gMax, gGcd, gList, gTuple, gStr, dIx, dSl, slots, atIx, backs, Dl.put, dTy, dEq_int, dEq_str, dNe_int, outT, back, kill, un1, nxtI_nx, nxtI_ct, nxrI_nx, nxrI_ct, nxrI_rt, lcB_t, lcB_f, lcT_ok, mDef_ap, mdR_nx, mdR_ex, mdR_rt, tyBool, tyInt, tyStr, tyTuple, tyList, List.getElem?_cons_zero, List.getElem?_cons_succ, List.getElem?_nil, List.set_cons_zero, List.set_cons_succ, List.set_nil, List.length_cons, List.length_nil, List.replicate_succ, List.replicate_zero, List.cons_append, List.nil_append, List.append_nil, ite_true, ite_false, if_true, if_false, Option.map_some, Option.map_none, reduceIte, List.nodup_nil, List.nodup_cons, List.not_mem_nil, not_false_eq_true, and_self, Option.bind_some, Option.getD_some, decide_true, decide_false, Bool.false_eq_true, Bool.true_eq_false, PySem.sizeLine_eq, h40, marks]
theorem error_val : m__law_error [.fz (.str "InvalidWord")] = .rt (.new (.lst marks)) [.fz (.str "InvalidWord")] := by
  unfold m__law_error g__law_error
  simp (disch := omega) [bind_ok, bind_ex, bind_no, so_ok, so_ex, so_no, sSeq_ap, bS_nx, bS_rt, bS_ex, bS_bk, bS_ct, bS_no, sNil_ap, sBrk_ap, sCnt_ap, sRetN_ap, sRet_ap, sExpr_ap, kNx_ap, sSet_ap, asg_fz, asg_new, asg_at, setSl, sIf_ap, ifK_t, ifK_f, sRaise_ap, putK, sPut_ap, putAt, augK, tgK, sTg_ap, parK, sPar_ap, forK, sFor_ap, sWhile_ap, tryK, sTryM_ap, eVar_ap, eC_ap, e2b, e2_ap, e2a_ap, e1a, e1_ap, tb_ap, tbK_ap, trK, tr_ap, truth, bAnd_ap, bOr_ap, bNot_ap, andK_t, andK_f, orK_t, orK_f, notK_ap, bYes_ap, eAnd_ap, eOr_ap, eNot_ap, eandK_t, eandK_f, eorK_t, eorK_f, enotK_ap, eIf_ap, eifK_t, eifK_f, eCh_ap, ch1_ap, chA, chB_t, chB_f, chC, aNil_ap, aCons_ap, acK_ap, acM_some, acM_none, acL_ap, cbK, eCB_ap, tupK, lstK, eTup_ap, eLst_ap, mtK, eMt_ap, slC, eSl_ap, slA_ap, slB_ap, eo_none, eo_some, eoK_ap, eCall_ap, callM_ap, callR_fz, callR_new, callR_ex, nHere_ap, nhK_new, nhL_ap, ncL, ncK, nCons_ap, cnK, eCallN_ap, dropR, itK, eIt_ap, r1K, r2K, eR1_ap, eR2_ap, eLc_ap, hName_ap, hTup_ap, hNil_ap, hCons_ap, hcK_ap, peek, freeze, arg, peeks, peekA, dsOf, stAppend, stPop, stPopAt, stRev, okI, okB, okS, dAdd, dSub, dMulL, dDiv, dMod, dPow, dNeg, dLt, dLe, dGt, dGe, dIsN, dNotN, isNon, gLen, dLen, gInt, gAbs, gMin2, gMax2, gSum, gAll, gAny, gMin, gMax, gGcd, gList, gTuple, gStr, dIx, dSl, slots, atIx, backs, Dl.put, dTy, dEq_int, dEq_str, dNe_int, outT, back, kill, un1, nxtI_nx, nxtI_ct, nxrI_nx, nxrI_ct, nxrI_rt, lcB_t, lcB_f, lcT_ok, mDef_ap, mdR_nx, mdR_ex, mdR_rt, tyBool, tyInt, tyStr, tyTuple, tyList, List.getElem?_cons_zero, List.getElem?_cons_succ, List.getElem?_nil, List.set_cons_zero, List.set_cons_succ, List.set_nil, List.length_cons, List.length_nil, List.replicate_succ, List.replicate_zero, List.cons_append, List.nil_append, List.append_nil, ite_true, ite_false, if_true, if_false, Option.map_some, Option.map_none, reduceIte, List.nodup_nil, List.nodup_cons, List.not_mem_nil, not_false_eq_true, and_self, Option.bind_some, Option.getD_some, decide_true, decide_false, Bool.false_eq_true, Bool.true_eq_false, PySem.sizeLine_eq]
  rw [lc_pure (fun d => match d with | .str x => .bl (decide (x = ("InvalidWord" : PySem.Str))) | _ => d) (.inl rfl) (by rw [PySem.sizeLine_eq]; simp) (fun d hd => by
    have : ∃ x, d = .str x := by
      simp only [List.mem_cons, List.not_mem_nil, or_false] at hd
      rcases hd with h | h | h | h | h | h | h | h | h <;> exact ⟨_, h⟩
    obtain ⟨x, rfl⟩ := this
    simp [bind_ok, bind_ex, bind_no, so_ok, so_ex, so_no, sSeq_ap, bS_nx, bS_rt, bS_ex, bS_bk, bS_ct, bS_no, sNil_ap, sBrk_ap, sCnt_ap, sRetN_ap, sRet_ap, sExpr_ap, kNx_ap, sSet_ap, asg_fz, asg_new, asg_at, setSl, sIf_ap, ifK_t, ifK_f, sRaise_ap, putK, sPut_ap, putAt, augK, tgK, sTg_ap, parK, sPar_ap, forK, sFor_ap, sWhile_ap, tryK, sTryM_ap, eVar_ap, eC_ap, e2b, e2_ap, e2a_ap, e1a, e1_ap, tb_ap, tbK_ap, trK, tr_ap, truth, bAnd_ap, bOr_ap, bNot_ap, andK_t, andK_f, orK_t, orK_f, notK_ap, bYes_ap, eAnd_ap, eOr_ap, eNot_ap, eandK_t, eandK_f, eorK_t, eorK_f, enotK_ap, eIf_ap, eifK_t, eifK_f, eCh_ap, ch1_ap, chA, chB_t, chB_f, chC, aNil_ap, aCons_ap, acK_ap, acM_some, acM_none, acL_ap, cbK, eCB_ap, tupK, lstK, eTup_ap, eLst_ap, mtK, eMt_ap, slC, eSl_ap, slA_ap, slB_ap, eo_none, eo_some, eoK_ap, eCall_ap, callM_ap, callR_fz, callR_new, callR_ex, nHere_ap, nhK_new, nhL_ap, ncL, ncK, nCons_ap, cnK, eCallN_ap, dropR, itK, eIt_ap, r1K, r2K, eR1_ap, eR2_ap, eLc_ap, hName_ap, hTup_ap, hNil_ap, hCons_ap, hcK_ap, peek, freeze, arg, peeks, peekA, dsOf, stAppend, stPop, stPopAt, stRev, okI, okB, okS, dAdd, dSub, dMulL, dDiv, dMod, dPow, dNeg, dLt, dLe, dGt, dGe, dIsN, dNotN, isNon, gLen, dLen, gInt, gAbs, gMin2, gMax2, gSum, gAll, gAny, gMin, gMax, gGcd, gList, gTuple, gStr, dIx, dSl, slots, atIx, backs, Dl.put, dTy, dEq_int, dEq_str, dNe_int, outT, back, kill, un1, nxtI_nx, nxtI_ct, nxrI_nx, nxrI_ct, nxrI_rt, lcB_t, lcB_f, lcT_ok, mDef_ap, mdR_nx, mdR_ex, mdR_rt, tyBool, tyInt, tyStr, tyTuple, tyList, List.getElem?_cons_zero, List.getElem?_cons_succ, List.getElem?_nil, List.set_cons_zero, List.set_cons_succ, List.set_nil, List.length_cons, List.length_nil, List.replicate_succ, List.replicate_zero, List.cons_append, List.nil_append, List.append_nil, ite_true, ite_false, if_true, if_false, Option.map_some, Option.map_none, reduceIte, List.nodup_nil, List.nodup_cons, List.not_mem_nil, not_false_eq_true, and_self, Option.bind_some, Option.getD_some, decide_true, decide_false, Bool.false_eq_true, Bool.true_eq_false, PySem.sizeLine_eq])]
  have e1 : ("InvalidTable" : PySem.Str) ≠ "InvalidWord" := by decide +kernel
  have e2 : ("InvalidChances" : PySem.Str) ≠ "InvalidWord" := by decide +kernel
  have e3 : ("BadText" : PySem.Str) ≠ "InvalidWord" := by decide +kernel
  have e4 : ("NoBet" : PySem.Str) ≠ "InvalidWord" := by decide +kernel
  have e5 : ("NotTaken" : PySem.Str) ≠ "InvalidWord" := by decide +kernel
  have e6 : ("SureBet" : PySem.Str) ≠ "InvalidWord" := by decide +kernel
  have e7 : ("NothingToUndo" : PySem.Str) ≠ "InvalidWord" := by decide +kernel
  have e8 : ("NothingToRedo" : PySem.Str) ≠ "InvalidWord" := by decide +kernel
  simp (disch := omega) [bind_ok, bind_ex, bind_no, so_ok, so_ex, so_no, sSeq_ap, bS_nx, bS_rt, bS_ex, bS_bk, bS_ct, bS_no, sNil_ap, sBrk_ap, sCnt_ap, sRetN_ap, sRet_ap, sExpr_ap, kNx_ap, sSet_ap, asg_fz, asg_new, asg_at, setSl, sIf_ap, ifK_t, ifK_f, sRaise_ap, putK, sPut_ap, putAt, augK, tgK, sTg_ap, parK, sPar_ap, forK, sFor_ap, sWhile_ap, tryK, sTryM_ap, eVar_ap, eC_ap, e2b, e2_ap, e2a_ap, e1a, e1_ap, tb_ap, tbK_ap, trK, tr_ap, truth, bAnd_ap, bOr_ap, bNot_ap, andK_t, andK_f, orK_t, orK_f, notK_ap, bYes_ap, eAnd_ap, eOr_ap, eNot_ap, eandK_t, eandK_f, eorK_t, eorK_f, enotK_ap, eIf_ap, eifK_t, eifK_f, eCh_ap, ch1_ap, chA, chB_t, chB_f, chC, aNil_ap, aCons_ap, acK_ap, acM_some, acM_none, acL_ap, cbK, eCB_ap, tupK, lstK, eTup_ap, eLst_ap, mtK, eMt_ap, slC, eSl_ap, slA_ap, slB_ap, eo_none, eo_some, eoK_ap, eCall_ap, callM_ap, callR_fz, callR_new, callR_ex, nHere_ap, nhK_new, nhL_ap, ncL, ncK, nCons_ap, cnK, eCallN_ap, dropR, itK, eIt_ap, r1K, r2K, eR1_ap, eR2_ap, eLc_ap, hName_ap, hTup_ap, hNil_ap, hCons_ap, hcK_ap, peek, freeze, arg, peeks, peekA, dsOf, stAppend, stPop, stPopAt, stRev, okI, okB, okS, dAdd, dSub, dMulL, dDiv, dMod, dPow, dNeg, dLt, dLe, dGt, dGe, dIsN, dNotN, isNon, gLen, dLen, gInt, gAbs, gMin2, gMax2, gSum, gAll, gAny, gMin, gMax, gGcd, gList, gTuple, gStr, dIx, dSl, slots, atIx, backs, Dl.put, dTy, dEq_int, dEq_str, dNe_int, outT, back, kill, un1, nxtI_nx, nxtI_ct, nxrI_nx, nxrI_ct, nxrI_rt, lcB_t, lcB_f, lcT_ok, mDef_ap, mdR_nx, mdR_ex, mdR_rt, tyBool, tyInt, tyStr, tyTuple, tyList, List.getElem?_cons_zero, List.getElem?_cons_succ, List.getElem?_nil, List.set_cons_zero, List.set_cons_succ, List.set_nil, List.length_cons, List.length_nil, List.replicate_succ, List.replicate_zero, List.cons_append, List.nil_append, List.append_nil, ite_true, ite_false, if_true, if_false, Option.map_some, Option.map_none, reduceIte, List.nodup_nil, List.nodup_cons, List.not_mem_nil, not_false_eq_true, and_self, Option.bind_some, Option.getD_some, decide_true, decide_false, Bool.false_eq_true, Bool.true_eq_false, PySem.sizeLine_eq, marks, e1, e2, e3, e4, e5, e6, e7, e8]
theorem ne_marks (env : En) : dNe (.lst marks) (.lst marks) env = okB false env := by kernel_rfl
theorem iw_any0 (n : Int) : IW n 11 (.tup [.str "any", .tup []]) true := by
  have := iw_all (n := n) (h := 1) (ps := []) (bs := []) (.inr rfl) (by simp) (fun i p hp => by simp at hp) rfl
  exact IW.mono this (by decide)
theorem plain (ns : List Int) (hl : ns.length ≤ 63) (hb : ∀ n ∈ ns, bits n ≤ 1048576) : ∃ fin, m_law [.fz (.scr (ns.map D.int))] = .rt (.fz (.bl true)) fin := by
  obtain ⟨ds, hd⟩ := draws_spec ns hb hl 330 (by omega) (by omega)
  obtain ⟨t1, v1, q1, a1, b1⟩ := take_spec ds 10 (by omega)
  obtain ⟨t2, v2, q2, a2, b2⟩ := take_spec v1 6 (by omega)
  obtain ⟨t3, v3, q3, a3, b3⟩ := take_spec v2 3 (by omega)
  unfold m_law g_law
  simp (disch := omega) [bind_ok, bind_ex, bind_no, so_ok, so_ex, so_no, sSeq_ap, bS_nx, bS_rt, bS_ex, bS_bk, bS_ct, bS_no, sNil_ap, sBrk_ap, sCnt_ap, sRetN_ap, sRet_ap, sExpr_ap, kNx_ap, sSet_ap, asg_fz, asg_new, asg_at, setSl, sIf_ap, ifK_t, ifK_f, sRaise_ap, putK, sPut_ap, putAt, augK, tgK, sTg_ap, parK, sPar_ap, forK, sFor_ap, sWhile_ap, tryK, sTryM_ap, eVar_ap, eC_ap, e2b, e2_ap, e2a_ap, e1a, e1_ap, tb_ap, tbK_ap, trK, tr_ap, truth, bAnd_ap, bOr_ap, bNot_ap, andK_t, andK_f, orK_t, orK_f, notK_ap, bYes_ap, eAnd_ap, eOr_ap, eNot_ap, eandK_t, eandK_f, eorK_t, eorK_f, enotK_ap, eIf_ap, eifK_t, eifK_f, eCh_ap, ch1_ap, chA, chB_t, chB_f, chC, aNil_ap, aCons_ap, acK_ap, acM_some, acM_none, acL_ap, cbK, eCB_ap, tupK, lstK, eTup_ap, eLst_ap, mtK, eMt_ap, slC, eSl_ap, slA_ap, slB_ap, eo_none, eo_some, eoK_ap, eCall_ap, callM_ap, callR_fz, callR_new, callR_ex, nHere_ap, nhK_new, nhL_ap, ncL, ncK, nCons_ap, cnK, eCallN_ap, dropR, itK, eIt_ap, r1K, r2K, eR1_ap, eR2_ap, eLc_ap, hName_ap, hTup_ap, hNil_ap, hCons_ap, hcK_ap, peek, freeze, arg, peeks, peekA, dsOf, stAppend, stPop, stPopAt, stRev, okI, okB, okS, dAdd, dSub, dMulL, dDiv, dMod, dPow, dNeg, dLt, dLe, dGt, dGe, dIsN, dNotN, isNon, gLen, dLen, gInt, gAbs, gMin2, gMax2, gSum, gAll, gAny, gMin, gMax, gGcd, gList, gTuple, gStr, dIx, dSl, slots, atIx, backs, Dl.put, dTy, dEq_int, dEq_str, dNe_int, outT, back, kill, un1, nxtI_nx, nxtI_ct, nxrI_nx, nxrI_ct, nxrI_rt, lcB_t, lcB_f, lcT_ok, mDef_ap, mdR_nx, mdR_ex, mdR_rt, tyBool, tyInt, tyStr, tyTuple, tyList, List.getElem?_cons_zero, List.getElem?_cons_succ, List.getElem?_nil, List.set_cons_zero, List.set_cons_succ, List.set_nil, List.length_cons, List.length_nil, List.replicate_succ, List.replicate_zero, List.cons_append, List.nil_append, List.append_nil, ite_true, ite_false, if_true, if_false, Option.map_some, Option.map_none, reduceIte, List.nodup_nil, List.nodup_cons, List.not_mem_nil, not_false_eq_true, and_self, Option.bind_some, Option.getD_some, decide_true, decide_false, Bool.false_eq_true, Bool.true_eq_false, PySem.sizeLine_eq, hd, q1, q2, q3]
  generalize hn : 1 + t1 = n
  have hn0 : 0 < n := by omega
  generalize hTL : sSeq (sSet 4 _) _ = TL
  have tail : ∀ (steps : Int) (v : List Int), 0 < steps → steps ≤ 39 → ∃ fin, mdR [.fz (.scr (ns.map D.int))] (TL [.fz (.scr (ns.map D.int)), .ow false (.lst (v.map D.int)), .fz (.int n), .fz (.int steps), .un, .un, .un, .un, .un, .un, .un, .un]) = .rt (.fz (.bl true)) fin := by
    intro steps v s0 s1
    rw [← hTL]
    obtain ⟨t4, v4, q4, a4, b4⟩ := take_spec v 4 (by omega)
    simp (disch := omega) [bind_ok, bind_ex, bind_no, so_ok, so_ex, so_no, sSeq_ap, bS_nx, bS_rt, bS_ex, bS_bk, bS_ct, bS_no, sNil_ap, sBrk_ap, sCnt_ap, sRetN_ap, sRet_ap, sExpr_ap, kNx_ap, sSet_ap, asg_fz, asg_new, asg_at, setSl, sIf_ap, ifK_t, ifK_f, sRaise_ap, putK, sPut_ap, putAt, augK, tgK, sTg_ap, parK, sPar_ap, forK, sFor_ap, sWhile_ap, tryK, sTryM_ap, eVar_ap, eC_ap, e2b, e2_ap, e2a_ap, e1a, e1_ap, tb_ap, tbK_ap, trK, tr_ap, truth, bAnd_ap, bOr_ap, bNot_ap, andK_t, andK_f, orK_t, orK_f, notK_ap, bYes_ap, eAnd_ap, eOr_ap, eNot_ap, eandK_t, eandK_f, eorK_t, eorK_f, enotK_ap, eIf_ap, eifK_t, eifK_f, eCh_ap, ch1_ap, chA, chB_t, chB_f, chC, aNil_ap, aCons_ap, acK_ap, acM_some, acM_none, acL_ap, cbK, eCB_ap, tupK, lstK, eTup_ap, eLst_ap, mtK, eMt_ap, slC, eSl_ap, slA_ap, slB_ap, eo_none, eo_some, eoK_ap, eCall_ap, callM_ap, callR_fz, callR_new, callR_ex, nHere_ap, nhK_new, nhL_ap, ncL, ncK, nCons_ap, cnK, eCallN_ap, dropR, itK, eIt_ap, r1K, r2K, eR1_ap, eR2_ap, eLc_ap, hName_ap, hTup_ap, hNil_ap, hCons_ap, hcK_ap, peek, freeze, arg, peeks, peekA, dsOf, stAppend, stPop, stPopAt, stRev, okI, okB, okS, dAdd, dSub, dMulL, dDiv, dMod, dPow, dNeg, dLt, dLe, dGt, dGe, dIsN, dNotN, isNon, gLen, dLen, gInt, gAbs, gMin2, gMax2, gSum, gAll, gAny, gMin, gMax, gGcd, gList, gTuple, gStr, dIx, dSl, slots, atIx, backs, Dl.put, dTy, dEq_int, dEq_str, dNe_int, outT, back, kill, un1, nxtI_nx, nxtI_ct, nxrI_nx, nxrI_ct, nxrI_rt, lcB_t, lcB_f, lcT_ok, mDef_ap, mdR_nx, mdR_ex, mdR_rt, tyBool, tyInt, tyStr, tyTuple, tyList, List.getElem?_cons_zero, List.getElem?_cons_succ, List.getElem?_nil, List.set_cons_zero, List.set_cons_succ, List.set_nil, List.length_cons, List.length_nil, List.replicate_succ, List.replicate_zero, List.cons_append, List.nil_append, List.append_nil, ite_true, ite_false, if_true, if_false, Option.map_some, Option.map_none, reduceIte, List.nodup_nil, List.nodup_cons, List.not_mem_nil, not_false_eq_true, and_self, Option.bind_some, Option.getD_some, decide_true, decide_false, Bool.false_eq_true, Bool.true_eq_false, PySem.sizeLine_eq, q4]
    generalize hta : decide (t4 = 2) = tall
    generalize hf : forD _ _ _ _ _ = r
    obtain ⟨I, hI⟩ : ∃ I : Nat → En → Prop, I = fun i env => ∃ (v : List Int) (sps : List (Int × Int × Int)), env = [.fz (.scr (ns.map D.int)), .ow false (.lst (v.map D.int)), .fz (.int n), .fz (.int steps), .fz (.bl tall), .ow false (.lst (sps.map fun s => .tup [.lst [.int s.1, .int s.2.1], .int s.2.2])), .un, .un, .un, .un, .un, .un] ∧
      sps.length = i ∧ ∀ s ∈ sps, (0 ≤ s.1 ∧ s.1 < steps) ∧ (0 ≤ s.2.1 ∧ s.2.1 < steps) ∧ 0 ≤ s.2.2 ∧ s.2.2 < 1000000000 := ⟨_, rfl⟩
    have hf' := forD_at hf I (by rw [hI]; exact ⟨v4, [], rfl, rfl, fun s z => (by cases z)⟩) (fun i d e hdi he => by
      rw [hI] at he
      obtain ⟨w, sps, he, hsl, hsp⟩ := he
      obtain ⟨rfl, hi⟩ := rng_get hdi
      have hi3 : i < 3 := hi
      subst he
      refine ⟨_, rfl, ?_⟩
      obtain ⟨x1, w1, p1, c1, d1⟩ := take_spec w 96 (by omega)
      obtain ⟨x2, w2, p2, c2, d2⟩ := take_spec w1 1000 (by omega)
      obtain ⟨x3, w3, p3, c3, d3⟩ := take_spec w2 steps s0
      obtain ⟨x4, w4, p4, c4, d4⟩ := take_spec w3 steps s0
      obtain ⟨x5, w5, p5, c5, d5⟩ := take_spec w4 2 (by omega)
      obtain ⟨x6, w6, p6, c6, d6⟩ := take_spec w5 1000 (by omega)
      have m1 : bits 96 + bits x2 ≤ 100000000 := by
        have : bits 96 = 6 := by decide
        have := bits_self x2
        omega
      have m2 : bits 96000 + bits x6 ≤ 100000000 := by
        have : bits 96000 = 16 := by decide
        have := bits_self x6
        omega
      obtain ⟨y, hy0, hy1, hat⟩ : ∃ y : Int, 0 ≤ y ∧ y < steps ∧ atI [D.int x3, D.int x4] x5 = some (.int y) := by
        rcases (by omega : x5 = 0 ∨ x5 = 1) with z | z <;> subst z
        · exact ⟨x3, c3, d3, rfl⟩
        · exact ⟨x4, c4, d4, rfl⟩
      have hsl2 : sps.length < 16777216 := by omega
      simp (disch := omega) [bind_ok, bind_ex, bind_no, so_ok, so_ex, so_no, sSeq_ap, bS_nx, bS_rt, bS_ex, bS_bk, bS_ct, bS_no, sNil_ap, sBrk_ap, sCnt_ap, sRetN_ap, sRet_ap, sExpr_ap, kNx_ap, sSet_ap, asg_fz, asg_new, asg_at, setSl, sIf_ap, ifK_t, ifK_f, sRaise_ap, putK, sPut_ap, putAt, augK, tgK, sTg_ap, parK, sPar_ap, forK, sFor_ap, sWhile_ap, tryK, sTryM_ap, eVar_ap, eC_ap, e2b, e2_ap, e2a_ap, e1a, e1_ap, tb_ap, tbK_ap, trK, tr_ap, truth, bAnd_ap, bOr_ap, bNot_ap, andK_t, andK_f, orK_t, orK_f, notK_ap, bYes_ap, eAnd_ap, eOr_ap, eNot_ap, eandK_t, eandK_f, eorK_t, eorK_f, enotK_ap, eIf_ap, eifK_t, eifK_f, eCh_ap, ch1_ap, chA, chB_t, chB_f, chC, aNil_ap, aCons_ap, acK_ap, acM_some, acM_none, acL_ap, cbK, eCB_ap, tupK, lstK, eTup_ap, eLst_ap, mtK, eMt_ap, slC, eSl_ap, slA_ap, slB_ap, eo_none, eo_some, eoK_ap, eCall_ap, callM_ap, callR_fz, callR_new, callR_ex, nHere_ap, nhK_new, nhL_ap, ncL, ncK, nCons_ap, cnK, eCallN_ap, dropR, itK, eIt_ap, r1K, r2K, eR1_ap, eR2_ap, eLc_ap, hName_ap, hTup_ap, hNil_ap, hCons_ap, hcK_ap, peek, freeze, arg, peeks, peekA, dsOf, stAppend, stPop, stPopAt, stRev, okI, okB, okS, dAdd, dSub, dMulL, dDiv, dMod, dPow, dNeg, dLt, dLe, dGt, dGe, dIsN, dNotN, isNon, gLen, dLen, gInt, gAbs, gMin2, gMax2, gSum, gAll, gAny, gMin, gMax, gGcd, gList, gTuple, gStr, dIx, dSl, slots, atIx, backs, Dl.put, dTy, dEq_int, dEq_str, dNe_int, outT, back, kill, un1, nxtI_nx, nxtI_ct, nxrI_nx, nxrI_ct, nxrI_rt, lcB_t, lcB_f, lcT_ok, mDef_ap, mdR_nx, mdR_ex, mdR_rt, tyBool, tyInt, tyStr, tyTuple, tyList, List.getElem?_cons_zero, List.getElem?_cons_succ, List.getElem?_nil, List.set_cons_zero, List.set_cons_succ, List.set_nil, List.length_cons, List.length_nil, List.replicate_succ, List.replicate_zero, List.cons_append, List.nil_append, List.append_nil, ite_true, ite_false, if_true, if_false, Option.map_some, Option.map_none, reduceIte, List.nodup_nil, List.nodup_cons, List.not_mem_nil, not_false_eq_true, and_self, Option.bind_some, Option.getD_some, decide_true, decide_false, Bool.false_eq_true, Bool.true_eq_false, PySem.sizeLine_eq, p1, p2, p3, p4, p5, p6, m1, m2, hat, hsl2]
      rw [hI]
      refine ⟨w6, sps ++ [(x3, y, x1 + 96 * x2 + 96000 * x6)], by simp, by simp [hsl], fun s hs => ?_⟩
      rcases List.mem_append.mp hs with z | z
      · exact hsp s z
      · rcases List.mem_singleton.mp z with rfl
        exact ⟨⟨c3, d3⟩, ⟨hy0, hy1⟩, (by show 0 ≤ x1 + 96 * x2 + 96000 * x6; omega), (by show x1 + 96 * x2 + 96000 * x6 < 1000000000; omega)⟩)
    clear hf
    obtain ⟨envN, rfl, hN⟩ := hf'
    rw [hI] at hN
    obtain ⟨w, sps, rfl, hsl, hsp⟩ := hN
    obtain ⟨good, w', hg1, hg2⟩ := tree_spec ns hb w n hn0 steps s0 (by omega) tall [] (-1) (fun z => absurd rfl z) (by omega) (by omega) (fun p z => by cases z)
    have hg2 : IW n 11 good true := hg2
    simp only [List.map_nil] at hg1
    have k1 := check_true hg2
    have k2 := check_true (iw_any0 n)
    have k3 : m__law_check [.fz (.tup [.str "is", .int (n - 1)]), .fz (.int n)] = .rt (.fz .non) [.fz (.tup [.str "is", .int (n - 1)]), .fz (.int n)] := by
      have := iw_leaf n (n - 1)
      rw [decide_eq_true ⟨by omega, by omega⟩] at this
      exact check_true (this.mono (by decide))
    have k4 : m__law_check [.fz (.tup [.str "is", .int n]), .fz (.int n)] = .rt (.new (.lst marks)) [.fz (.tup [.str "is", .int n]), .fz (.int n)] := by
      have := iw_leaf n n
      rw [decide_eq_false (by omega)] at this
      exact check_false (this.mono (by decide))
    simp (disch := omega) [bind_ok, bind_ex, bind_no, so_ok, so_ex, so_no, sSeq_ap, bS_nx, bS_rt, bS_ex, bS_bk, bS_ct, bS_no, sNil_ap, sBrk_ap, sCnt_ap, sRetN_ap, sRet_ap, sExpr_ap, kNx_ap, sSet_ap, asg_fz, asg_new, asg_at, setSl, sIf_ap, ifK_t, ifK_f, sRaise_ap, putK, sPut_ap, putAt, augK, tgK, sTg_ap, parK, sPar_ap, forK, sFor_ap, sWhile_ap, tryK, sTryM_ap, eVar_ap, eC_ap, e2b, e2_ap, e2a_ap, e1a, e1_ap, tb_ap, tbK_ap, trK, tr_ap, truth, bAnd_ap, bOr_ap, bNot_ap, andK_t, andK_f, orK_t, orK_f, notK_ap, bYes_ap, eAnd_ap, eOr_ap, eNot_ap, eandK_t, eandK_f, eorK_t, eorK_f, enotK_ap, eIf_ap, eifK_t, eifK_f, eCh_ap, ch1_ap, chA, chB_t, chB_f, chC, aNil_ap, aCons_ap, acK_ap, acM_some, acM_none, acL_ap, cbK, eCB_ap, tupK, lstK, eTup_ap, eLst_ap, mtK, eMt_ap, slC, eSl_ap, slA_ap, slB_ap, eo_none, eo_some, eoK_ap, eCall_ap, callM_ap, callR_fz, callR_new, callR_ex, nHere_ap, nhK_new, nhL_ap, ncL, ncK, nCons_ap, cnK, eCallN_ap, dropR, itK, eIt_ap, r1K, r2K, eR1_ap, eR2_ap, eLc_ap, hName_ap, hTup_ap, hNil_ap, hCons_ap, hcK_ap, peek, freeze, arg, peeks, peekA, dsOf, stAppend, stPop, stPopAt, stRev, okI, okB, okS, dAdd, dSub, dMulL, dDiv, dMod, dPow, dNeg, dLt, dLe, dGt, dGe, dIsN, dNotN, isNon, gLen, dLen, gInt, gAbs, gMin2, gMax2, gSum, gAll, gAny, gMin, gMax, gGcd, gList, gTuple, gStr, dIx, dSl, slots, atIx, backs, Dl.put, dTy, dEq_int, dEq_str, dNe_int, outT, back, kill, un1, nxtI_nx, nxtI_ct, nxrI_nx, nxrI_ct, nxrI_rt, lcB_t, lcB_f, lcT_ok, mDef_ap, mdR_nx, mdR_ex, mdR_rt, tyBool, tyInt, tyStr, tyTuple, tyList, List.getElem?_cons_zero, List.getElem?_cons_succ, List.getElem?_nil, List.set_cons_zero, List.set_cons_succ, List.set_nil, List.length_cons, List.length_nil, List.replicate_succ, List.replicate_zero, List.cons_append, List.nil_append, List.append_nil, ite_true, ite_false, if_true, if_false, Option.map_some, Option.map_none, reduceIte, List.nodup_nil, List.nodup_cons, List.not_mem_nil, not_false_eq_true, and_self, Option.bind_some, Option.getD_some, decide_true, decide_false, Bool.false_eq_true, Bool.true_eq_false, PySem.sizeLine_eq, hg1, k1, k2, k3, k4, error_val, ne_marks]
    generalize hf : forD _ _ _ _ _ = r
    have hf' := forD_at hf (fun i env => env = [.fz (.scr (ns.map D.int)), .ow false (.lst (w.map D.int)), .fz (.int n), .fz (.int steps), .fz (.bl tall), .fz (.lst (sps.map fun s => .tup [.lst [.int s.1, .int s.2.1], .int s.2.2])), .un, .un, .un, .un, .fz good, .un]) rfl (fun i d e hdi he => by
      subst he
      rw [List.getElem?_map] at hdi
      obtain ⟨s, hs, rfl⟩ := Option.map_eq_some_iff.mp hdi
      obtain ⟨z1, z2, z3, z4⟩ := hsp s (List.mem_of_getElem? hs)
      refine ⟨_, rfl, ?_⟩
      obtain ⟨bad, w2, hb1, hb2⟩ := tree_spec ns hb w n hn0 steps s0 (by omega) tall [s.1, s.2.1] s.2.2 (fun _ => z3) (by omega) (by omega) (fun p z => by
        rcases List.mem_cons.mp z with z | z
        · subst z; exact z1
        · rcases List.mem_singleton.mp z with rfl; exact z2)
      have hb2 : IW n 11 bad false := hb2
      simp only [List.map_cons, List.map_nil] at hb1
      have k5 := check_false hb2
      have i0 : atI [D.lst [.int s.1, .int s.2.1], D.int s.2.2] 0 = some (.lst [.int s.1, .int s.2.1]) := rfl
      have i1 : atI [D.lst [.int s.1, .int s.2.1], D.int s.2.2] 1 = some (.int s.2.2) := rfl
      simp (disch := omega) [bind_ok, bind_ex, bind_no, so_ok, so_ex, so_no, sSeq_ap, bS_nx, bS_rt, bS_ex, bS_bk, bS_ct, bS_no, sNil_ap, sBrk_ap, sCnt_ap, sRetN_ap, sRet_ap, sExpr_ap, kNx_ap, sSet_ap, asg_fz, asg_new, asg_at, setSl, sIf_ap, ifK_t, ifK_f, sRaise_ap, putK, sPut_ap, putAt, augK, tgK, sTg_ap, parK, sPar_ap, forK, sFor_ap, sWhile_ap, tryK, sTryM_ap, eVar_ap, eC_ap, e2b, e2_ap, e2a_ap, e1a, e1_ap, tb_ap, tbK_ap, trK, tr_ap, truth, bAnd_ap, bOr_ap, bNot_ap, andK_t, andK_f, orK_t, orK_f, notK_ap, bYes_ap, eAnd_ap, eOr_ap, eNot_ap, eandK_t, eandK_f, eorK_t, eorK_f, enotK_ap, eIf_ap, eifK_t, eifK_f, eCh_ap, ch1_ap, chA, chB_t, chB_f, chC, aNil_ap, aCons_ap, acK_ap, acM_some, acM_none, acL_ap, cbK, eCB_ap, tupK, lstK, eTup_ap, eLst_ap, mtK, eMt_ap, slC, eSl_ap, slA_ap, slB_ap, eo_none, eo_some, eoK_ap, eCall_ap, callM_ap, callR_fz, callR_new, callR_ex, nHere_ap, nhK_new, nhL_ap, ncL, ncK, nCons_ap, cnK, eCallN_ap, dropR, itK, eIt_ap, r1K, r2K, eR1_ap, eR2_ap, eLc_ap, hName_ap, hTup_ap, hNil_ap, hCons_ap, hcK_ap, peek, freeze, arg, peeks, peekA, dsOf, stAppend, stPop, stPopAt, stRev, okI, okB, okS, dAdd, dSub, dMulL, dDiv, dMod, dPow, dNeg, dLt, dLe, dGt, dGe, dIsN, dNotN, isNon, gLen, dLen, gInt, gAbs, gMin2, gMax2, gSum, gAll, gAny, gMin, gMax, gGcd, gList, gTuple, gStr, dIx, dSl, slots, atIx, backs, Dl.put, dTy, dEq_int, dEq_str, dNe_int, outT, back, kill, un1, nxtI_nx, nxtI_ct, nxrI_nx, nxrI_ct, nxrI_rt, lcB_t, lcB_f, lcT_ok, mDef_ap, mdR_nx, mdR_ex, mdR_rt, tyBool, tyInt, tyStr, tyTuple, tyList, List.getElem?_cons_zero, List.getElem?_cons_succ, List.getElem?_nil, List.set_cons_zero, List.set_cons_succ, List.set_nil, List.length_cons, List.length_nil, List.replicate_succ, List.replicate_zero, List.cons_append, List.nil_append, List.append_nil, ite_true, ite_false, if_true, if_false, Option.map_some, Option.map_none, reduceIte, List.nodup_nil, List.nodup_cons, List.not_mem_nil, not_false_eq_true, and_self, Option.bind_some, Option.getD_some, decide_true, decide_false, Bool.false_eq_true, Bool.true_eq_false, PySem.sizeLine_eq, i0, i1, hb1, k5, error_val, ne_marks])
    clear hf
    obtain ⟨envN, rfl, rfl⟩ := hf'
    simp (disch := omega) [bind_ok, bind_ex, bind_no, so_ok, so_ex, so_no, sSeq_ap, bS_nx, bS_rt, bS_ex, bS_bk, bS_ct, bS_no, sNil_ap, sBrk_ap, sCnt_ap, sRetN_ap, sRet_ap, sExpr_ap, kNx_ap, sSet_ap, asg_fz, asg_new, asg_at, setSl, sIf_ap, ifK_t, ifK_f, sRaise_ap, putK, sPut_ap, putAt, augK, tgK, sTg_ap, parK, sPar_ap, forK, sFor_ap, sWhile_ap, tryK, sTryM_ap, eVar_ap, eC_ap, e2b, e2_ap, e2a_ap, e1a, e1_ap, tb_ap, tbK_ap, trK, tr_ap, truth, bAnd_ap, bOr_ap, bNot_ap, andK_t, andK_f, orK_t, orK_f, notK_ap, bYes_ap, eAnd_ap, eOr_ap, eNot_ap, eandK_t, eandK_f, eorK_t, eorK_f, enotK_ap, eIf_ap, eifK_t, eifK_f, eCh_ap, ch1_ap, chA, chB_t, chB_f, chC, aNil_ap, aCons_ap, acK_ap, acM_some, acM_none, acL_ap, cbK, eCB_ap, tupK, lstK, eTup_ap, eLst_ap, mtK, eMt_ap, slC, eSl_ap, slA_ap, slB_ap, eo_none, eo_some, eoK_ap, eCall_ap, callM_ap, callR_fz, callR_new, callR_ex, nHere_ap, nhK_new, nhL_ap, ncL, ncK, nCons_ap, cnK, eCallN_ap, dropR, itK, eIt_ap, r1K, r2K, eR1_ap, eR2_ap, eLc_ap, hName_ap, hTup_ap, hNil_ap, hCons_ap, hcK_ap, peek, freeze, arg, peeks, peekA, dsOf, stAppend, stPop, stPopAt, stRev, okI, okB, okS, dAdd, dSub, dMulL, dDiv, dMod, dPow, dNeg, dLt, dLe, dGt, dGe, dIsN, dNotN, isNon, gLen, dLen, gInt, gAbs, gMin2, gMax2, gSum, gAll, gAny, gMin, gMax, gGcd, gList, gTuple, gStr, dIx, dSl, slots, atIx, backs, Dl.put, dTy, dEq_int, dEq_str, dNe_int, outT, back, kill, un1, nxtI_nx, nxtI_ct, nxrI_nx, nxrI_ct, nxrI_rt, lcB_t, lcB_f, lcT_ok, mDef_ap, mdR_nx, mdR_ex, mdR_rt, tyBool, tyInt, tyStr, tyTuple, tyList, List.getElem?_cons_zero, List.getElem?_cons_succ, List.getElem?_nil, List.set_cons_zero, List.set_cons_succ, List.set_nil, List.length_cons, List.length_nil, List.replicate_succ, List.replicate_zero, List.cons_append, List.nil_append, List.append_nil, ite_true, ite_false, if_true, if_false, Option.map_some, Option.map_none, reduceIte, List.nodup_nil, List.nodup_cons, List.not_mem_nil, not_false_eq_true, and_self, Option.bind_some, Option.getD_some, decide_true, decide_false, Bool.false_eq_true, Bool.true_eq_false, PySem.sizeLine_eq, k1]
  by_cases c : t3 = 1
  · obtain ⟨t5, v5, q5, a5, b5⟩ := take_spec v3 39 (by omega)
    simp (disch := omega) [bind_ok, bind_ex, bind_no, so_ok, so_ex, so_no, sSeq_ap, bS_nx, bS_rt, bS_ex, bS_bk, bS_ct, bS_no, sNil_ap, sBrk_ap, sCnt_ap, sRetN_ap, sRet_ap, sExpr_ap, kNx_ap, sSet_ap, asg_fz, asg_new, asg_at, setSl, sIf_ap, ifK_t, ifK_f, sRaise_ap, putK, sPut_ap, putAt, augK, tgK, sTg_ap, parK, sPar_ap, forK, sFor_ap, sWhile_ap, tryK, sTryM_ap, eVar_ap, eC_ap, e2b, e2_ap, e2a_ap, e1a, e1_ap, tb_ap, tbK_ap, trK, tr_ap, truth, bAnd_ap, bOr_ap, bNot_ap, andK_t, andK_f, orK_t, orK_f, notK_ap, bYes_ap, eAnd_ap, eOr_ap, eNot_ap, eandK_t, eandK_f, eorK_t, eorK_f, enotK_ap, eIf_ap, eifK_t, eifK_f, eCh_ap, ch1_ap, chA, chB_t, chB_f, chC, aNil_ap, aCons_ap, acK_ap, acM_some, acM_none, acL_ap, cbK, eCB_ap, tupK, lstK, eTup_ap, eLst_ap, mtK, eMt_ap, slC, eSl_ap, slA_ap, slB_ap, eo_none, eo_some, eoK_ap, eCall_ap, callM_ap, callR_fz, callR_new, callR_ex, nHere_ap, nhK_new, nhL_ap, ncL, ncK, nCons_ap, cnK, eCallN_ap, dropR, itK, eIt_ap, r1K, r2K, eR1_ap, eR2_ap, eLc_ap, hName_ap, hTup_ap, hNil_ap, hCons_ap, hcK_ap, peek, freeze, arg, peeks, peekA, dsOf, stAppend, stPop, stPopAt, stRev, okI, okB, okS, dAdd, dSub, dMulL, dDiv, dMod, dPow, dNeg, dLt, dLe, dGt, dGe, dIsN, dNotN, isNon, gLen, dLen, gInt, gAbs, gMin2, gMax2, gSum, gAll, gAny, gMin, gMax, gGcd, gList, gTuple, gStr, dIx, dSl, slots, atIx, backs, Dl.put, dTy, dEq_int, dEq_str, dNe_int, outT, back, kill, un1, nxtI_nx, nxtI_ct, nxrI_nx, nxrI_ct, nxrI_rt, lcB_t, lcB_f, lcT_ok, mDef_ap, mdR_nx, mdR_ex, mdR_rt, tyBool, tyInt, tyStr, tyTuple, tyList, List.getElem?_cons_zero, List.getElem?_cons_succ, List.getElem?_nil, List.set_cons_zero, List.set_cons_succ, List.set_nil, List.length_cons, List.length_nil, List.replicate_succ, List.replicate_zero, List.cons_append, List.nil_append, List.append_nil, ite_true, ite_false, if_true, if_false, Option.map_some, Option.map_none, reduceIte, List.nodup_nil, List.nodup_cons, List.not_mem_nil, not_false_eq_true, and_self, Option.bind_some, Option.getD_some, decide_true, decide_false, Bool.false_eq_true, Bool.true_eq_false, PySem.sizeLine_eq, c, q5]
    exact tail (1 + t5) v5 (by omega) (by omega)
  · simp (disch := omega) [bind_ok, bind_ex, bind_no, so_ok, so_ex, so_no, sSeq_ap, bS_nx, bS_rt, bS_ex, bS_bk, bS_ct, bS_no, sNil_ap, sBrk_ap, sCnt_ap, sRetN_ap, sRet_ap, sExpr_ap, kNx_ap, sSet_ap, asg_fz, asg_new, asg_at, setSl, sIf_ap, ifK_t, ifK_f, sRaise_ap, putK, sPut_ap, putAt, augK, tgK, sTg_ap, parK, sPar_ap, forK, sFor_ap, sWhile_ap, tryK, sTryM_ap, eVar_ap, eC_ap, e2b, e2_ap, e2a_ap, e1a, e1_ap, tb_ap, tbK_ap, trK, tr_ap, truth, bAnd_ap, bOr_ap, bNot_ap, andK_t, andK_f, orK_t, orK_f, notK_ap, bYes_ap, eAnd_ap, eOr_ap, eNot_ap, eandK_t, eandK_f, eorK_t, eorK_f, enotK_ap, eIf_ap, eifK_t, eifK_f, eCh_ap, ch1_ap, chA, chB_t, chB_f, chC, aNil_ap, aCons_ap, acK_ap, acM_some, acM_none, acL_ap, cbK, eCB_ap, tupK, lstK, eTup_ap, eLst_ap, mtK, eMt_ap, slC, eSl_ap, slA_ap, slB_ap, eo_none, eo_some, eoK_ap, eCall_ap, callM_ap, callR_fz, callR_new, callR_ex, nHere_ap, nhK_new, nhL_ap, ncL, ncK, nCons_ap, cnK, eCallN_ap, dropR, itK, eIt_ap, r1K, r2K, eR1_ap, eR2_ap, eLc_ap, hName_ap, hTup_ap, hNil_ap, hCons_ap, hcK_ap, peek, freeze, arg, peeks, peekA, dsOf, stAppend, stPop, stPopAt, stRev, okI, okB, okS, dAdd, dSub, dMulL, dDiv, dMod, dPow, dNeg, dLt, dLe, dGt, dGe, dIsN, dNotN, isNon, gLen, dLen, gInt, gAbs, gMin2, gMax2, gSum, gAll, gAny, gMin, gMax, gGcd, gList, gTuple, gStr, dIx, dSl, slots, atIx, backs, Dl.put, dTy, dEq_int, dEq_str, dNe_int, outT, back, kill, un1, nxtI_nx, nxtI_ct, nxrI_nx, nxrI_ct, nxrI_rt, lcB_t, lcB_f, lcT_ok, mDef_ap, mdR_nx, mdR_ex, mdR_rt, tyBool, tyInt, tyStr, tyTuple, tyList, List.getElem?_cons_zero, List.getElem?_cons_succ, List.getElem?_nil, List.set_cons_zero, List.set_cons_succ, List.set_nil, List.length_cons, List.length_nil, List.replicate_succ, List.replicate_zero, List.cons_append, List.nil_append, List.append_nil, ite_true, ite_false, if_true, if_false, Option.map_some, Option.map_none, reduceIte, List.nodup_nil, List.nodup_cons, List.not_mem_nil, not_false_eq_true, and_self, Option.bind_some, Option.getD_some, decide_true, decide_false, Bool.false_eq_true, Bool.true_eq_false, PySem.sizeLine_eq, c]
    exact tail (1 + t2) v3 (by omega) (by omega)
end K01
open PySem PySem.W PySem.Calls PyProof.Rows
set_option maxHeartbeats 0 in
theorem PySem.Challenge.cw_nosurebet_k01_check_word_holds : PySem.Challenge.rw_nosurebet_k01_check_word.Holds := by
  w_on; o_law
  refine HandSHeadRun.head_any (r := OpenLaw.row PySem.Challenge.rw_nosurebet_k01_check_word) (q := view (OpenLaw.row PySem.Challenge.rw_nosurebet_k01_check_word).prog [24]) (H := K01.hk) (ob := K01.ob) (M := 6000) (loose := K01.loose) (d := HandSHeadRun.topDef (OpenLaw.row PySem.Challenge.rw_nosurebet_k01_check_word).prog 24) (kwd := []) K01.ob_eq
    (by kernel_rfl) (fun s => by kernel_rfl) K01.run (by kernel_rfl) (by kernel_rfl) (by kernel_rfl) (by rfl) (by first | assumption | decide +kernel) (by decide +kernel) ⟨rfl, rfl, rfl, rfl, rfl, by decide +kernel⟩ ?hw ?hc
  case hw => w_witness2
  case hc =>
    refine Dl.law_end (l := PySem.Challenge.rw_nosurebet_k01_check_word) (k := 44) (m := K01.m_law) rfl (by kernel_rfl) ⟨rfl, by decide, by decide⟩ ?F K01.plain
    intro w mg fa h Y G hmg0
    obtain ⟨K, KX, c⟩ := Y
    have hmg : mg ("law" : PySem.Str) = some (.ref fa) := by
      have e : (HandSHeadRun.topDef (OpenLaw.row PySem.Challenge.rw_nosurebet_k01_check_word).prog 24).name = ("law" : PySem.Str) := by kernel_rfl
      rw [← e]
      exact hmg0
    obtain ⟨fd, hb, hF⟩ := K01.facts KX G hmg c
    exact ⟨K, fd, KX, hb, hF⟩
