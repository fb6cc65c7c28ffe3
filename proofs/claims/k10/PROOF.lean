import PyProof.Rows.All
import HandS.ForMost
import HandS.ForExc
import HandS.Wide
import HandS.TupAny
import HandS.IsInst
import HandS.AnyAll
import HandS.Style
import HandS.EndBits
import PySem.Challenge.RW_inflate_k10_what_is_a_shape
set_option Elab.async false
set_option linter.all false
set_option maxRecDepth 100000
namespace PF
open PySem PySem.Spec PyProof.Rows L2

/-! ### trees -/
inductive Tr where
  | non | bl (b : Bool) | int (i : Int) | str (x : Str) | tup (xs : List Tr) | lst (xs : List Tr) | ins (c : Nat) (fs : List Tr) | dct (ks : List Int) (vs : List Tr) | raw (a : Addr)
/-- outcomes -/
inductive Oc (α : Type) where
  | ok (a : α) | ex (c : Nat) | no
@[inline] def Oc.bind {α β : Type} : Oc α → (α → Oc β) → Oc β
  | .ok a, f => f a
  | .ex c, _ => .ex c
  | .no, _ => .no
instance : Monad Oc where
  pure := .ok
  bind := Oc.bind
@[simp] theorem Oc.ok_bind {α β : Type} (a : α) (f : α → Oc β) : (Oc.ok a >>= f) = f a := rfl
@[simp] theorem Oc.ex_bind {α β : Type} (c : Nat) (f : α → Oc β) : (Oc.ex c >>= f) = Oc.ex c := rfl
@[simp] theorem Oc.no_bind {α β : Type} (f : α → Oc β) : (Oc.no >>= f) = Oc.no := rfl
@[simp] theorem Oc.pure_eq {α : Type} (a : α) : (pure a : Oc α) = Oc.ok a := rfl
/-- results: a value; a new list of one's own; a list that stands at a name -/
inductive Rs where
  | im (t : Tr) | ow (xs : List Tr) | br (xs : List Tr)
def Rs.fz : Rs → Oc Tr
  | .im t => .ok t
  | .ow xs => .ok (.lst xs)
  | .br _ => .no
inductive Sl where
  | un | im (t : Tr) | ow (xs : List Tr)

structure Uni where
  K : PySem.W.Frag
  w : World
  cls : Nat → Addr
  flds : Nat → List Str
  exc : Nat → Addr

/-- a written dict with int keys -/
inductive IntE : List DictEntry → List Int → List V → Prop
  | nil : IntE [] [] []
  | cons {k : Int} {t : Tok} {u : Value} {v : V} {es : List DictEntry} {ks : List Int} {vs : List V} : RelV v u → IntE es ks vs → IntE (⟨hashInt k, .int k t, u⟩ :: es) (k :: ks) (v :: vs)
def KDi (U : Uni) (a : Addr) (ks : List Int) (vs : List V) : Prop := ∃ es n, U.K.lookup a = some ⟨.type "dict", none, .dict es n, #[]⟩ ∧ IntE es.toList ks vs

mutual
inductive Rep (U : Uni) (G : Hp) : V → Tr → Prop
  | non : Rep U G .non .non
  | bl (b : Bool) : Rep U G (.bl b) (.bl b)
  | int (i : Int) : Rep U G (.int i) (.int i)
  | str (x : Str) : Rep U G (.str x) (.str x)
  | tup {a : Addr} {vs : List V} {ts : List Tr} : SqT U.K G a vs → RepL U G vs ts → Rep U G (.ref a) (.tup ts)
  | lst {a : Addr} {vs : List V} {ts : List Tr} : SqL U.K G a vs → RepL U G vs ts → Rep U G (.ref a) (.lst ts)
  | ins {a dx : Addr} {c : Nat} {vs : List V} {ts : List Tr} : G a = some (.ins (U.cls c) dx ((U.flds c).zip vs)) → vs.length = (U.flds c).length → RepL U G vs ts → Rep U G (.ref a) (.ins c ts)
  | raw (a : Addr) : Rep U G (.ref a) (.raw a)
  | dct {a : Addr} {ks : List Int} {vs : List V} {ts : List Tr} : KDi U a ks vs → ks.length = vs.length → RepL U G vs ts → Rep U G (.ref a) (.dct ks ts)
inductive RepL (U : Uni) (G : Hp) : List V → List Tr → Prop
  | nil : RepL U G [] []
  | cons {v : V} {vs : List V} {t : Tr} {ts : List Tr} : Rep U G v t → RepL U G vs ts → RepL U G (v :: vs) (t :: ts)
end

theorem sqT_mono {K : PySem.W.Frag} {G G' : Hp} (g : Same G G') {a : Addr} {xs : List V} (h : SqT K G a xs) : SqT K G' a xs := by
  rcases h with (h | ⟨o, h⟩) | h
  · exact .inl (.inl (g _ _ h))
  · exact .inl (.inr ⟨o, g _ _ h⟩)
  · exact .inr h
theorem rd_mono {G G' : Hp} (g : Same G G') {a : Addr} {o : HO} (h : Rd G a o) : Rd G' a o := by
  rcases h with h | ⟨o, h⟩
  · exact .inl (g _ _ h)
  · exact .inr ⟨o, g _ _ h⟩
theorem sqL_mono {K : PySem.W.Frag} {G G' : Hp} (g : Same G G') {a : Addr} {xs : List V} (h : SqL K G a xs) : SqL K G' a xs := g.seq h
mutual
theorem Rep.mono {U : Uni} {G G' : Hp} (g : Same G G') : ∀ {v : V} {t : Tr}, Rep U G v t → Rep U G' v t
  | _, _, .non => .non
  | _, _, .bl b => .bl b
  | _, _, .int i => .int i
  | _, _, .str x => .str x
  | _, _, .raw a => .raw a
  | _, _, .tup h r => .tup (sqT_mono g h) (RepL.mono g r)
  | _, _, .lst h r => .lst (sqL_mono g h) (RepL.mono g r)
  | _, _, .ins h l r => .ins (g _ _ h) l (RepL.mono g r)
  | _, _, .dct h l r => .dct h l (RepL.mono g r)
theorem RepL.mono {U : Uni} {G G' : Hp} (g : Same G G') : ∀ {vs : List V} {ts : List Tr}, RepL U G vs ts → RepL U G' vs ts
  | _, _, .nil => .nil
  | _, _, .cons h r => .cons (Rep.mono g h) (RepL.mono g r)
end
theorem RepL.length {U : Uni} {G : Hp} : ∀ {vs : List V} {ts : List Tr}, RepL U G vs ts → vs.length = ts.length
  | _, _, .nil => rfl
  | _, _, .cons _ r => by rw [List.length_cons, List.length_cons, RepL.length r]
theorem RepL.get {U : Uni} {G : Hp} : ∀ {vs : List V} {ts : List Tr} {i : Nat} {t : Tr}, RepL U G vs ts → ts[i]? = some t → ∃ v, vs[i]? = some v ∧ Rep U G v t
  | _, _, _, _, .nil, h => by simp at h
  | _, _, 0, _, .cons r _, h => by simp at h; subst h; exact ⟨_, rfl, r⟩
  | _, _, i + 1, _, .cons _ r, h => by
    obtain ⟨v, h1, h2⟩ := RepL.get (i := i) r (by simpa using h)
    exact ⟨v, by simpa using h1, h2⟩
theorem RepL.get' {U : Uni} {G : Hp} : ∀ {vs : List V} {ts : List Tr} {i : Nat} {v : V}, RepL U G vs ts → vs[i]? = some v → ∃ t, ts[i]? = some t ∧ Rep U G v t
  | _, _, _, _, .nil, h => by simp at h
  | _, _, 0, _, .cons r _, h => by simp at h; subst h; exact ⟨_, rfl, r⟩
  | _, _, i + 1, _, .cons _ r, h => by
    obtain ⟨v, h1, h2⟩ := RepL.get' (i := i) r (by simpa using h)
    exact ⟨v, by simpa using h1, h2⟩
theorem RepL.append {U : Uni} {G : Hp} : ∀ {vs ws : List V} {ts us : List Tr}, RepL U G vs ts → RepL U G ws us → RepL U G (vs ++ ws) (ts ++ us)
  | _, _, _, _, .nil, s => s
  | _, _, _, _, .cons r t, s => .cons r (RepL.append t s)
theorem RepL.take {U : Uni} {G : Hp} : ∀ {vs : List V} {ts : List Tr} (n : Nat), RepL U G vs ts → RepL U G (vs.take n) (ts.take n)
  | _, _, 0, _ => .nil
  | _, _, _ + 1, .nil => .nil
  | _, _, n + 1, .cons r t => .cons r (RepL.take n t)
theorem RepL.drop {U : Uni} {G : Hp} : ∀ {vs : List V} {ts : List Tr} (n : Nat), RepL U G vs ts → RepL U G (vs.drop n) (ts.drop n)
  | _, _, 0, r => r
  | _, _, _ + 1, .nil => .nil
  | _, _, n + 1, .cons _ t => RepL.drop n t
theorem RepL.set {U : Uni} {G : Hp} {v : V} {t : Tr} (r : Rep U G v t) : ∀ {vs : List V} {ts : List Tr} (n : Nat), RepL U G vs ts → RepL U G (vs.set n v) (ts.set n t)
  | _, _, _, .nil => .nil
  | _, _, 0, .cons _ t => .cons r t
  | _, _, n + 1, .cons q t => .cons q (RepL.set r n t)
theorem RepL.reverse {U : Uni} {G : Hp} : ∀ {vs : List V} {ts : List Tr}, RepL U G vs ts → RepL U G vs.reverse ts.reverse
  | _, _, .nil => .nil
  | _, _, .cons r t => by
    rw [List.reverse_cons, List.reverse_cons]
    exact RepL.append (RepL.reverse t) (.cons r .nil)
theorem RepL.cut {U : Uni} {G : Hp} {vs : List V} {ts : List Tr} (r : RepL U G vs ts) (lo hi : Option Int) : RepL U G (cutV vs lo hi) ((ts.drop (HT.sIx ts.length 0 lo)).take (HT.sIx ts.length ts.length hi - HT.sIx ts.length 0 lo)) := by
  unfold cutV
  rw [r.length]
  exact (r.drop _).take _

/-! ### data of trees -/
mutual
def Tr.toD : Tr → Option PyData
  | .non => some .none
  | .bl b => some (.bool b)
  | .int i => some (.int i)
  | .str x => if PyData.strOk x then some (.str x) else none
  | .tup xs => (Tr.toDs xs).map .tuple
  | .lst xs => (Tr.toDs xs).map .list
  | .ins _ _ => none
  | .dct _ _ => none
  | .raw _ => none
def Tr.toDs : List Tr → Option (List PyData)
  | [] => some []
  | t :: ts => (Tr.toD t).bind fun d => (Tr.toDs ts).map fun ds => d :: ds
end
mutual
theorem Rep.dp {U : Uni} {G H : Hp} (g : Same G H) : ∀ {t : Tr} {v : V} {d : PyData}, Rep U G v t → t.toD = some d → Dp U.K H v d
  | _, _, _, .non, h => by simp only [Tr.toD, Option.some.injEq] at h; subst h; exact .non
  | _, _, _, .bl b, h => by simp only [Tr.toD, Option.some.injEq] at h; subst h; exact .bl b
  | _, _, _, .int i, h => by simp only [Tr.toD, Option.some.injEq] at h; subst h; exact .int i
  | _, _, _, .str x, h => by
    simp only [Tr.toD] at h
    split at h
    · cases h; exact .str x
    · cases h
  | _, _, _, .tup hs r, h => by
    simp only [Tr.toD, Option.map_eq_some_iff] at h
    obtain ⟨ds, h1, rfl⟩ := h
    exact .tup (sqT_mono g hs) (RepL.dp g r h1)
  | _, _, _, .lst hs r, h => by
    simp only [Tr.toD, Option.map_eq_some_iff] at h
    obtain ⟨ds, h1, rfl⟩ := h
    exact .lst (sqL_mono g hs) (RepL.dp g r h1)
  | _, _, _, .ins _ _ _, h => by simp only [Tr.toD] at h; cases h
  | _, _, _, .dct _ _ _, h => by simp only [Tr.toD] at h; cases h
  | _, _, _, .raw _, h => by simp only [Tr.toD] at h; cases h
theorem RepL.dp {U : Uni} {G H : Hp} (g : Same G H) : ∀ {ts : List Tr} {vs : List V} {ds : List PyData}, RepL U G vs ts → Tr.toDs ts = some ds → DpAll U.K H vs ds
  | _, _, _, .nil, h => by simp only [Tr.toDs, Option.some.injEq] at h; subst h; exact .nil
  | _, _, _, .cons r rr, h => by
    simp only [Tr.toDs, Option.bind_eq_some_iff, Option.map_eq_some_iff] at h
    obtain ⟨d, h1, ds, h2, rfl⟩ := h
    exact .cons (Rep.dp g r h1) (RepL.dp g rr h2)
end
/-- a == b -/
def Tr.eq (a b : Tr) : Oc Bool :=
  match a.toD, b.toD with
  | some d, some e => if SeqAt.shaped d && SeqAt.shaped e then .ok (PyData.eqv d e) else .no
  | _, _ => .no

/-! ### growing -/
structure Grow (G H G' H' : Hp) : Prop where
  gg : Same G G'
  gh : Same G' H'
  keep : ∀ a o, G a = none → H a = some o → H' a = some o
  new : ∀ a, G a = none → H a ≠ none → G' a = none
theorem Grow.refl {G H : Hp} (s : Same G H) : Grow G H G H := ⟨Same.refl _, s, fun _ _ _ h => h, fun _ h _ => h⟩
theorem Grow.same {G H G1 H1 : Hp} (s : Same G H) (a : Grow G H G1 H1) : Same H H1 := fun x o h => by
  cases e : G x with
  | none => exact a.keep x o e h
  | some u =>
    have e2 := s x u e
    rw [h] at e2
    cases e2
    exact a.gh x o (a.gg x o e)
theorem Grow.trans {G H G1 H1 G2 H2 : Hp} (a : Grow G H G1 H1) (b : Grow G1 H1 G2 H2) : Grow G H G2 H2 where
  gg := a.gg.trans b.gg
  gh := b.gh
  keep := fun x o hg hh => b.keep x o (a.new x hg (by rw [hh]; simp)) (a.keep x o hg hh)
  new := fun x hg hh => by
    cases e : H x with
    | none => exact absurd e hh
    | some o => exact b.new x (a.new x hg hh) (by rw [a.keep x o hg e]; simp)
/-- nothing goes -/
theorem Grow.there {G H G' H' : Hp} (s : Same G H) (g : Grow G H G' H') {a : Addr} (h : H' a = none) : H a = none := by
  cases e : H a with
  | none => rfl
  | some o =>
    cases e2 : G a with
    | none => rw [g.keep a o e2 e] at h; cases h
    | some o' => rw [g.gh a o' (g.gg a o' e2)] at h; cases h
/-- a new object, ghosted -/
theorem Grow.made {G H : Hp} (s : Same G H) {p : Addr} {o : HO} (hp : H p = none) : Grow G H (upd G p o) (upd H p o) where
  gg := fun b u e => by
    have : b ≠ p := fun z => by subst z; rw [s _ _ e] at hp; cases hp
    rw [upd_ne this]; exact e
  gh := fun b u e => by
    by_cases z : b = p
    · subst z; rw [upd_same] at e; rw [upd_same]; exact e
    · rw [upd_ne z] at e; rw [upd_ne z]; exact s _ _ e
  keep := fun a o _ h => by
    have : a ≠ p := fun z => by subst z; rw [h] at hp; cases hp
    rw [upd_ne this]; exact h
  new := fun a hg hh => by
    have : a ≠ p := fun z => by subst z; exact hh hp
    rw [upd_ne this]; exact hg
/-- a new object, not ghosted -/
theorem Grow.made0 {G H : Hp} (s : Same G H) {p : Addr} {o : HO} (hp : H p = none) : Grow G H G (upd H p o) where
  gg := Same.refl _
  gh := fun b u e => by
    have : b ≠ p := fun z => by subst z; rw [s _ _ e] at hp; cases hp
    rw [upd_ne this]; exact s _ _ e
  keep := fun a o _ h => by
    have : a ≠ p := fun z => by subst z; rw [h] at hp; cases hp
    rw [upd_ne this]; exact h
  new := fun a hg _ => hg
/-- ghost what stands new -/
theorem Grow.ghost {G H G' H' : Hp} (g : Grow G H G' H') {p : Addr} {o : HO} (h0 : H p = none) (h2 : H' p = some o) (h1 : G' p = none) : Grow G H (upd G' p o) H' where
  gg := fun b u e => by
    have : b ≠ p := fun z => by subst z; rw [g.gg _ _ e] at h1; cases h1
    rw [upd_ne this]; exact g.gg _ _ e
  gh := fun b u e => by
    by_cases z : b = p
    · subst z; rw [upd_same] at e; rw [h2]; exact e
    · rw [upd_ne z] at e; exact g.gh _ _ e
  keep := g.keep
  new := fun a hg hh => by
    have : a ≠ p := fun z => by subst z; exact hh h0
    rw [upd_ne this]; exact g.new a hg hh
theorem ghost_same {G : Hp} {p : Addr} {o : HO} (h : G p = none) : Same G (upd G p o) := fun b u e => by
  have : b ≠ p := fun z => by subst z; rw [e] at h; cases h
  rw [upd_ne this]; exact e

/-- what a result is: from H on -/
def RsOk (U : Uni) (B G' H' H : Hp) (v : V) : Rs → Prop
  | .im t => Rep U G' v t
  | .ow xs => ∃ p vs, v = .ref p ∧ H p = none ∧ G' p = none ∧ H' p = some (.lst vs) ∧ RepL U G' vs xs
  | .br xs => ∃ p vs, v = .ref p ∧ B p = none ∧ G' p = none ∧ H' p = some (.lst vs) ∧ RepL U G' vs xs
theorem RsOk.later {U : Uni} {B G H G1 H1 G2 H2 : Hp} {v : V} {r : Rs} (s : Same G H) (g1 : Grow G H G1 H1) (g : Grow G1 H1 G2 H2) (h : RsOk U B G1 H1 H v r) : RsOk U B G2 H2 H v r := by
  cases r with
  | im t => exact Rep.mono g.gg h
  | ow xs =>
    obtain ⟨p, vs, e, hp, hg, hh, r⟩ := h
    exact ⟨p, vs, e, hp, g.new p hg (by rw [hh]; simp), g.keep p _ hg hh, r.mono g.gg⟩
  | br xs =>
    obtain ⟨p, vs, e, hp, hg, hh, r⟩ := h
    exact ⟨p, vs, e, hp, g.new p hg (by rw [hh]; simp), g.keep p _ hg hh, r.mono g.gg⟩
/-- seen from an earlier heap -/
theorem RsOk.from {U : Uni} {B G H G1 H1 G2 H2 : Hp} {v : V} {r : Rs} (s : Same G H) (g1 : Grow G H G1 H1) (h : RsOk U B G2 H2 H1 v r) : RsOk U B G2 H2 H v r := by
  cases r with
  | im t => exact h
  | ow xs =>
    obtain ⟨p, vs, e, hp, hg, hh, r⟩ := h
    exact ⟨p, vs, e, g1.there s hp, hg, hh, r⟩
  | br xs => exact h

/-! ### the slots -/
def SlOk (U : Uni) (B G H : Hp) (x : Option (Option V)) : Sl → Prop
  | .un => True
  | .im t => ∃ v, x = some (some v) ∧ Rep U G v t
  | .ow xs => ∃ p vs, x = some (some (.ref p)) ∧ B p = none ∧ G p = none ∧ H p = some (.lst vs) ∧ RepL U G vs xs
structure EnvOk (U : Uni) (B G H : Hp) (env : List Sl) (σ : L2.St) : Prop where
  sub : Same G H
  old : ∀ a, H a = none → B a = none
  len : σ.length = env.length
  rep : ∀ (i : Nat) (s : Sl), env[i]? = some s → SlOk U B G H σ[i]? s
  sep : ∀ (i j : Nat) (xs ys : List Tr) (p : Addr), env[i]? = some (.ow xs) → env[j]? = some (.ow ys) → σ[i]? = some (some (V.ref p)) → σ[j]? = some (some (V.ref p)) → i = j
theorem SlOk.later {U : Uni} {B G H G1 H1 : Hp} {x : Option (Option V)} {s : Sl} (g : Grow G H G1 H1) (h : SlOk U B G H x s) : SlOk U B G1 H1 x s := by
  cases s with
  | un => trivial
  | im t => obtain ⟨v, e, r⟩ := h; exact ⟨v, e, r.mono g.gg⟩
  | ow xs =>
    obtain ⟨p, vs, e, b, hg, hh, r⟩ := h
    exact ⟨p, vs, e, b, g.new p hg (by rw [hh]; simp), g.keep p _ hg hh, r.mono g.gg⟩
theorem EnvOk.later {U : Uni} {B G H G1 H1 : Hp} {env : List Sl} {σ : L2.St} (h : EnvOk U B G H env σ) (g : Grow G H G1 H1) : EnvOk U B G1 H1 env σ :=
  ⟨g.gh, fun a e => h.old a (g.there h.sub e), h.len, fun i s e => (h.rep i s e).later g, h.sep⟩

/-! ### readings -/
def Post (U : Uni) (W : WX) (B : Hp) (o : Oc Rs) (G H : Hp) (σ : L2.St) (Q : VK) : Prop :=
  match o with
  | .no => False
  | .ex c => ∀ G' H', Grow G H G' H' → W (.ref (U.exc c)) none σ H'
  | .ok r => ∀ v G' H', Grow G H G' H' → RsOk U B G' H' H v r → Q v H'
def PostT (U : Uni) (W : WX) (o : Oc Tr) (G H : Hp) (σ : L2.St) (Q : V → Hp → Hp → Prop) : Prop :=
  match o with
  | .no => False
  | .ex c => ∀ G' H', Grow G H G' H' → W (.ref (U.exc c)) none σ H'
  | .ok t => ∀ v G' H', Grow G H G' H' → Rep U G' v t → Q v G' H'
def tR (U : Uni) (W : WX) (B : Hp) (r : List Sl → Oc Rs) : TE := fun σ H Q => ∃ G env, EnvOk U B G H env σ ∧ Post U W B (r env) G H σ Q
def tTr (U : Uni) (W : WX) (B : Hp) (r : List Sl → Oc Tr) : TE := fun σ H Q => ∃ G env, EnvOk U B G H env σ ∧ PostT U W (r env) G H σ fun v G' H' => Q v H'
def tBo (U : Uni) (W : WX) (B : Hp) (r : List Sl → Oc Bool) : TT := fun σ H Q => ∃ G env, EnvOk U B G H env σ ∧
  match r env with
  | .no => False
  | .ex c => ∀ G' H', Grow G H G' H' → W (.ref (U.exc c)) none σ H'
  | .ok b => ∀ G' H', Grow G H G' H' → Q b H'
def PostL (U : Uni) (W : WX) (o : Oc (List Tr)) (G H : Hp) (σ : L2.St) (Q : List V → Hp → Prop) : Prop :=
  match o with
  | .no => False
  | .ex c => ∀ G' H', Grow G H G' H' → W (.ref (U.exc c)) none σ H'
  | .ok ts => ∀ vs G' H', Grow G H G' H' → RepL U G' vs ts → Q vs H'
def tAr (U : Uni) (W : WX) (B : Hp) (r : List Sl → Oc (List Tr)) : TA := fun σ H Q => ∃ G env, EnvOk U B G H env σ ∧ PostL U W (r env) G H σ Q

theorem PE.weak {X : Cx} {e : Expr} {t t' : TE} (h : PE X e t) (hw : ∀ σ H Q, t' σ H Q → t σ H Q) : PE X e t' := ⟨fun pins s σ H Q I q => h.run pins s σ H Q I (hw _ _ _ q)⟩
theorem PT.weak {X : Cx} {e : Expr} {t t' : TT} (h : PT X e t) (hw : ∀ σ H Q, t' σ H Q → t σ H Q) : PT X e t' := ⟨fun pins s σ H Q I q => h.run pins s σ H Q I (hw _ _ _ q)⟩
theorem PW.weak {X : Cx} {e : Expr} {t t' : TT} (h : PW X e t) (hw : ∀ σ H Q, t' σ H Q → t σ H Q) : PW X e t' := ⟨fun whole pins s σ H Q I q => h.run whole pins s σ H Q I (hw _ _ _ q)⟩
theorem PA.weak {X : Cx} {es : List Expr} {t t' : TA} (h : PA X es t) (hw : ∀ σ H Q, t' σ H Q → t σ H Q) : PA X es t' := ⟨fun pos pins s σ H Q I q => h.run pos pins s σ H Q I (hw _ _ _ q)⟩
theorem PS.weak {X : Cx} {st : Stmt} {t t' : TS} (h : PS X st t) (hw : ∀ D σ H, t' D σ H → t D σ H) : PS X st t' := ⟨fun pins s σ H D I q => h.run pins s σ H D I (hw _ _ _ q)⟩
theorem PSs.weak {X : Cx} {st : List Stmt} {t t' : TS} (h : PSs X st t) (hw : ∀ D σ H, t' D σ H → t D σ H) : PSs X st t' := ⟨fun pins s σ H D I q => h.run pins s σ H D I (hw _ _ _ q)⟩

section
variable {U : Uni} {W : WX} {B : Hp}
/-- freezing -/
theorem tR_fz {r : List Sl → Oc Rs} {σ : L2.St} {H : Hp} {Q : VK} (h : tTr U W B (fun env => r env >>= Rs.fz) σ H Q) : tR U W B r σ H Q := by
  obtain ⟨G, env, I, h⟩ := h
  refine ⟨G, env, I, ?_⟩
  unfold Post
  have h : PostT U W (r env >>= Rs.fz) G H σ fun v G' H' => Q v H' := h
  cases e : r env with
  | no => rw [e] at h; exact h
  | ex c => rw [e] at h; exact h
  | ok x =>
    rw [e] at h
    intro v G' H' g k
    cases x with
    | im t => exact h v G' H' g k
    | ow xs =>
      obtain ⟨p, vs, rfl, hp, hg, hh, rr⟩ := k
      exact h _ _ _ (g.ghost hp hh hg) (.lst (.inl (.inl upd_same)) (rr.mono (ghost_same hg)))
    | br xs => exact False.elim h
theorem pe_fz {X : Cx} {e : Expr} {r : List Sl → Oc Rs} (h : PE X e (tR U W B r)) : PE X e (tTr U W B fun env => r env >>= Rs.fz) := PE.weak h fun _ _ _ q => tR_fz q
/-- a frozen reading, then more -/
theorem tTr_bind {r : List Sl → Oc Tr} {G H : Hp} {env : List Sl} {σ : L2.St} {Q : VK} (I : EnvOk U B G H env σ)
    (h : PostT U W (r env) G H σ fun v G' H' => Q v H') : tTr U W B r σ H Q := ⟨G, env, I, h⟩
end
end PF

namespace PF
open PySem PySem.Spec PyProof.Rows L2

/-! ### a small syntax -/
inductive Op where | add | sub | mul | fdiv | mod | pow | band | shr
  deriving DecidableEq
inductive CO where | eq | ne | lt | le | gt | ge
  deriving DecidableEq
inductive Bl where | len | abs | int | max2 | min2 | list | tuple | sum | min1 | max1 | all | any
  deriving DecidableEq
inductive Ty where | int | bool | tuple | list | str
  deriving DecidableEq
inductive Tg where | nm (i : Nat) | tp (is : List Nat)
mutual
inductive Ex where
  | lo (i : Nat) | non | bl (b : Bool) | int (i : Int) | str (x : Str) | gl (g : Nat)
  | bin (o : Op) (a b : Ex) | neg (a : Ex) | not (a : Ex)
  | cmp (o : CO) (a b : Ex) | isN (a : Ex) | notN (a : Ex) | isin (neg : Bool) (a b : Ex)
  | chain (o o' : CO) (a b c : Ex)
  | rev (a : Ex) | isB (n b : Bool) (a : Ex)
  | and (a b : Ex) | or (a b : Ex) | ite (c a b : Ex)
  | tup (es : List Ex) | lst (es : List Ex)
  | ix (a b : Ex) | sl (a lo hi : Ex)
  | call (f : Nat) (es : List Ex) | meth (f c : Nat) (o : Ex) (es : List Ex) | fld (c j : Nat) (o : Ex)
  | blt (b : Bl) (es : List Ex)
  | isi (a : Ex) (t : Ty)
  | lc (tg : Tg) (it : Ii) (cs : List Ex) (e : Ex) (own : List Nat)
inductive Ii where
  | ex (e : Ex) | rng1 (a : Ex) | rng2 (a b : Ex)
end
inductive Sm where
  | asg (tg : Tg) (e : Ex) | par (i j : Nat) (a b : Ex) | fre (i : Nat) | app (i : Nat) (e : Ex) | seti (i : Nat) (k e : Ex)
  | ret (e : Ex) | retN | iff (c : Ex) (a b : List Sm) | for_ (tg : Tg) (it : Ii) (b : List Sm) | whl (c : Ex) (b : List Sm)
  | pop (i : Nat) (e : Ex) | rvs (i : Nat) | clr (i : Nat) | swp (i : Nat) (k1 k2 e : Ex)
  | rse (c : Nat) | expr (e : Ex) | brk | cnt | pass

structure Ctx where
  call : Nat → List Tr → Oc Rs
  gl : Nat → Tr
  wf : Nat

/-! ### what it means -/
def isNonT : Tr → Bool
  | .non => true
  | _ => false
def Oc.noex {α : Type} : Oc α → Oc α
  | .ok a => .ok a
  | _ => .no
def Rs.see : Rs → Tr
  | .im t => t
  | .ow xs => .lst xs
  | .br xs => .lst xs
def oInt : Tr → Oc Int
  | .int i => .ok i
  | _ => .no
def oBool : Tr → Oc Bool
  | .bl b => .ok b
  | _ => .no
def mulOk (i j : Int) : Bool := decide (Builtin.Int.intBits i + Builtin.Int.intBits j ≤ 134217728)
def sizeOk (n : Nat) : Bool := decide (n ≤ 16777216)
def opI : Op → Int → Int → Oc Int
  | .add, i, j => .ok (i + j)
  | .sub, i, j => .ok (i - j)
  | .mul, i, j => if mulOk i j then .ok (i * j) else .no
  | .fdiv, i, j => if decide (0 < j) && decide (j.natAbs.log2 < 9000) then .ok (i / j) else .no
  | .mod, i, j => if decide (0 < j) then .ok (i % j) else .no
  | .pow, i, j => if decide (0 ≤ j) && decide (j ≤ 1000000) && decide (i.natAbs < 2 ^ 64) then .ok (i ^ j.toNat) else .no
  | .band, i, j => .ok (Builtin.bitAnd i j)
  | .shr, i, j => if decide (0 ≤ j) then .ok (i / 2 ^ j.toNat) else .no
def opE (o : Op) (a b : Rs) : Oc Rs :=
  match a.see, b.see with
  | .int i, .int j => (opI o i j) >>= fun k => .ok (.im (.int k))
  | .lst xs, .lst ys => if o = .add && sizeOk (xs.length + ys.length) then .ok (.ow (xs ++ ys)) else .no
  | .tup xs, .tup ys => if o = .add && sizeOk (xs.length + ys.length) && !xs.isEmpty then .ok (.im (.tup (xs ++ ys))) else .no
  | _, _ => .no
def cmpI : CO → Int → Int → Bool
  | .eq, i, j => decide (i = j)
  | .ne, i, j => !decide (i = j)
  | .lt, i, j => decide (i < j)
  | .le, i, j => decide (i ≤ j)
  | .gt, i, j => decide (j < i)
  | .ge, i, j => decide (j ≤ i)
def cmpE (o : CO) (a b : Tr) : Oc Bool :=
  match o with
  | .eq => a.eq b
  | .ne => (a.eq b) >>= fun x => .ok (!x)
  | _ => match a, b with
    | .int i, .int j => .ok (cmpI o i j)
    | _, _ => .no
def ixE (a b : Tr) : Oc Tr :=
  match a, b with
  | .tup xs, .int i => match atI xs i with
    | some t => .ok t
    | none => .no
  | .lst xs, .int i => match atI xs i with
    | some t => .ok t
    | none => .no
  | .dct ks vs, .int i => match (ks.zip vs).lookup i with
    | some t => .ok t
    | none => .no
  | _, _ => .no
def cutT (xs : List Tr) (lo hi : Option Int) : List Tr := (xs.drop (HT.sIx xs.length 0 lo)).take (HT.sIx xs.length xs.length hi - HT.sIx xs.length 0 lo)
def oPart : Tr → Oc (Option Int)
  | .non => .ok none
  | .int i => .ok (some i)
  | _ => .no
def slE (a : Tr) (lo hi : Option Int) : Oc Rs :=
  match a with
  | .lst xs => .ok (.ow (cutT xs lo hi))
  | .tup xs => .ok (.im (.tup (cutT xs lo hi)))
  | _ => .no
def revE : Tr → Oc Rs
  | .lst xs => .ok (.ow xs.reverse)
  | _ => .no
def isBE (n b : Bool) : Tr → Oc Rs
  | .bl k => .ok (.im (.bl (if n then !decide (k = b) else decide (k = b))))
  | _ => .no
def fldE (c j : Nat) : Tr → Oc Tr
  | .ins c' fs => if c = c' then match fs[j]? with
      | some t => .ok t
      | none => .no
    else .no
  | _ => .no
def asInts : List Tr → Oc (List Int)
  | [] => .ok []
  | t :: ts => oInt t >>= fun i => asInts ts >>= fun is => .ok (i :: is)
def asBools : List Tr → Oc (List Bool)
  | [] => .ok []
  | t :: ts => oBool t >>= fun i => asBools ts >>= fun is => .ok (i :: is)
def minL : List Int → Int
  | [] => 0
  | [x] => x
  | x :: xs => min x (minL xs)
def maxL : List Int → Int
  | [] => 0
  | [x] => x
  | x :: xs => max x (maxL xs)
def itemsOf : Tr → Oc (List Tr)
  | .lst xs => .ok xs
  | .tup xs => .ok xs
  | _ => .no
def bltE (b : Bl) (rs : List Rs) : Oc Rs :=
  match b, rs.map Rs.see with
  | .len, [t] => itemsOf t >>= fun xs => .ok (.im (.int (xs.length : Int)))
  | .abs, [.int i] => .ok (.im (.int (if i < 0 then -i else i)))
  | .int, [.int i] => .ok (.im (.int i))
  | .int, [.bl b] => .ok (.im (.int (if b then 1 else 0)))
  | .max2, [.int i, .int j] => .ok (.im (.int (if j > i then j else i)))
  | .min2, [.int i, .int j] => .ok (.im (.int (if j < i then j else i)))
  | .list, [t] => itemsOf t >>= fun xs => .ok (.ow xs)
  | .tuple, [t] => itemsOf t >>= fun xs => .ok (.im (.tup xs))
  | .sum, [.lst xs] => asInts xs >>= fun is => .ok (.im (.int is.sum))
  | .min1, [.lst xs] => asInts xs >>= fun is => if is.isEmpty then .no else .ok (.im (.int (minL is)))
  | .max1, [.lst xs] => asInts xs >>= fun is => if is.isEmpty then .no else .ok (.im (.int (maxL is)))
  | .all, [.lst xs] => asBools xs >>= fun is => .ok (.im (.bl (is.all id)))
  | .any, [.lst xs] => asBools xs >>= fun is => .ok (.im (.bl (is.any id)))
  | _, _ => .no
def isiE : Ty → Tr → Oc Bool
  | .int, .int _ => .ok true
  | .int, .bl _ => .ok true
  | .bool, .bl _ => .ok true
  | .tuple, .tup _ => .ok true
  | .list, .lst _ => .ok true
  | .str, .str _ => .ok true
  | _, .ins _ _ => .no
  | _, .dct _ _ => .no
  | _, .raw _ => .no
  | _, _ => .ok false
def Tr.flat : Tr → Bool
  | .non => true | .bl _ => true | .int _ => true | .str _ => true | _ => false
def eqFlat : Tr → Tr → Bool
  | .non, .non => true
  | .bl a, .bl b => a == b
  | .bl a, .int j => (if a then 1 else 0) == j
  | .int i, .bl b => i == (if b then 1 else 0)
  | .int i, .int j => i == j
  | .str x, .str y => x == y
  | _, _ => false
def isinE (neg : Bool) (a b : Tr) : Oc Bool :=
  itemsOf b >>= fun xs => if a.flat && xs.all Tr.flat then .ok (if neg then !(xs.any fun y => eqFlat y a) else xs.any fun y => eqFlat y a) else .no
def bindNm (env : List Sl) (i : Nat) (t : Tr) : Oc (List Sl) := if decide (i < env.length) then .ok (env.set i (.im t)) else .no
def bindTp : List Nat → List Tr → List Sl → Oc (List Sl)
  | [], [], env => .ok env
  | i :: is, t :: ts, env => bindNm env i t >>= fun env' => bindTp is ts env'
  | _, _, _ => .no
def bindTg : Tg → Tr → List Sl → Oc (List Sl)
  | .nm i, t, env => bindNm env i t
  | .tp is, .tup ts, env => if is.length = ts.length then bindTp is ts env else .no
  | _, _, _ => .no
def wipeE (env : List Sl) : List Nat → List Sl
  | [] => env
  | v :: vs => (wipeE env vs).set v .un
def lcGo (f : Tr → Oc (Option Tr)) : List Tr → Oc (List Tr)
  | [] => .ok []
  | x :: xs => f x >>= fun o => lcGo f xs >>= fun ys => .ok (match o with
    | some y => y :: ys
    | none => ys)
def rangeT (lo n : Int) : List Tr := (List.range n.toNat).map fun (k : Nat) => Tr.int (lo + (k : Int))
def smallI (i : Int) : Bool := decide (-(2 ^ 62) ≤ i) && decide (i < 2 ^ 62)
def slotR : Option Sl → Oc Rs
  | some (.im t) => .ok (.im t)
  | some (.ow xs) => .ok (.br xs)
  | _ => .no
/-- an answer of a call that another list's holder may keep -/
def Rs.atom : Rs → Bool
  | .im t => t.flat
  | _ => false
def Rs.isBr : Rs → Bool
  | .br _ => true
  | _ => false
def isIns (c : Nat) : Tr → Bool
  | .ins c' _ => c == c'
  | _ => false
def Ex.isNon : Ex → Bool
  | .non => true
  | _ => false
mutual
def ev (C : Ctx) : Ex → List Sl → Oc Rs
  | .lo i, env => slotR env[i]?
  | .non, _ => .ok (.im .non)
  | .bl b, _ => .ok (.im (.bl b))
  | .int i, _ => .ok (.im (.int i))
  | .str x, _ => .ok (.im (.str x))
  | .gl g, _ => .ok (.im (C.gl g))
  | .bin o a b, env => ev C a env >>= fun x => ev C b env >>= fun y => opE o x y
  | .neg a, env => ev C a env >>= fun x => oInt x.see >>= fun i => .ok (.im (.int (-i)))
  | .not a, env => ev C a env >>= fun x => oBool x.see >>= fun b => .ok (.im (.bl (!b)))
  | .cmp o a b, env => ev C a env >>= fun x => ev C b env >>= fun y => cmpE o x.see y.see >>= fun b => .ok (.im (.bl b))
  | .isN a, env => ev C a env >>= fun x => .ok (.im (.bl (isNonT x.see)))
  | .notN a, env => ev C a env >>= fun x => .ok (.im (.bl (!isNonT x.see)))
  | .isin n a b, env => ev C a env >>= fun x => ev C b env >>= fun y => isinE n x.see y.see >>= fun b => .ok (.im (.bl b))
  | .chain o o' a b c, env => ev C a env >>= fun x => ev C b env >>= fun y => cmpE o x.see y.see >>= fun k =>
      if k then ev C c env >>= fun z => cmpE o' y.see z.see >>= fun k' => .ok (.im (.bl k')) else .ok (.im (.bl false))
  | .rev a, env => ev C a env >>= fun x => revE x.see
  | .isB n b a, env => ev C a env >>= fun x => isBE n b x.see
  | .and a b, env => ev C a env >>= fun x => oBool x.see >>= fun k => if k then ev C b env else .ok (.im (.bl false))
  | .or a b, env => ev C a env >>= fun x => oBool x.see >>= fun k => if k then .ok (.im (.bl true)) else ev C b env
  | .ite c a b, env => ev C c env >>= fun x => oBool x.see >>= fun k => if k then ev C a env else ev C b env
  | .tup es, env => evs C es env >>= fun ts => if sizeOk ts.length then .ok (.im (.tup ts)) else .no
  | .lst es, env => evs C es env >>= fun ts => if sizeOk ts.length then .ok (.ow ts) else .no
  | .ix a b, env => ev C a env >>= fun x => ev C b env >>= fun y => ixE x.see y.see >>= fun t => .ok (.im t)
  | .sl a lo hi, env => ev C a env >>= fun x => (if lo.isNon then .ok none else ev C lo env >>= fun l => oInt l.see >>= fun i => .ok (some i)) >>= fun l' =>
      (if hi.isNon then .ok none else ev C hi env >>= fun l => oInt l.see >>= fun i => .ok (some i)) >>= fun h' => slE x.see l' h'
  | .call f es, env => evs C es env >>= fun ts => C.call f ts
  | .meth f c o es, env => ev C o env >>= Rs.fz >>= fun t => if isIns c t then evs C es env >>= fun ts => C.call f (t :: ts) else .no
  | .fld c j o, env => ev C o env >>= fun x => fldE c j x.see >>= fun t => .ok (.im t)
  | .blt b es, env => evb C es env >>= fun ts => bltE b ts
  | .isi a t, env => ev C a env >>= fun x => isiE t x.see >>= fun b => .ok (.im (.bl b))
  | .lc tg it cs e own, env => evIt C it env >>= fun xs => (lcGo (fun x => (bindTg tg x (wipeE env own) >>= fun env' => evc C cs env' >>= fun k =>
      if k then ev C e env' >>= Rs.fz >>= fun y => .ok (some y) else .ok none).noex) xs) >>= fun ys => if sizeOk (xs.length + 1) then .ok (.ow ys) else .no
def evs (C : Ctx) : List Ex → List Sl → Oc (List Tr)
  | [], _ => .ok []
  | e :: es, env => ev C e env >>= Rs.fz >>= fun t => evs C es env >>= fun ts => .ok (t :: ts)
/-- arguments that are looked at alone -/
def evb (C : Ctx) : List Ex → List Sl → Oc (List Rs)
  | [], _ => .ok []
  | e :: es, env => ev C e env >>= fun r => evb C es env >>= fun ts => .ok (r :: ts)
def evc (C : Ctx) : List Ex → List Sl → Oc Bool
  | [], _ => .ok true
  | e :: es, env => ev C e env >>= fun x => oBool x.see >>= fun k => if k then evc C es env else .ok false
def evIt (C : Ctx) : Ii → List Sl → Oc (List Tr)
  | .ex e, env => ev C e env >>= Rs.fz >>= itemsOf
  | .rng1 a, env => ev C a env >>= fun x => oInt x.see >>= fun n => if smallI n then .ok (rangeT 0 n) else .no
  | .rng2 a b, env => ev C a env >>= fun x => ev C b env >>= fun y => oInt x.see >>= fun lo => oInt y.see >>= fun n => if smallI lo && smallI n then .ok (rangeT lo (n - lo)) else .no
end

/-! ### statements -/
inductive Fl where
  | nx (env : List Sl) | rt (r : Rs) | bk (env : List Sl) | ct (env : List Sl)
def forGo (f : Tr → List Sl → Oc Fl) : List Tr → List Sl → Oc Fl
  | [], env => .ok (.nx env)
  | x :: xs, env => f x env >>= fun
    | .nx e => forGo f xs e
    | .ct e => forGo f xs e
    | .bk e => .ok (.nx e)
    | .rt r => .ok (.rt r)
def whlGo (c : List Sl → Oc Bool) (f : List Sl → Oc Fl) : Nat → List Sl → Oc Fl
  | 0, _ => .no
  | n + 1, env => c env >>= fun k => if k then f env >>= fun
      | .nx e => whlGo c f n e
      | .ct e => whlGo c f n e
      | .bk e => .ok (.nx e)
      | .rt r => .ok (.rt r)
    else .ok (.nx env)
/-- into a slot -/
def putR (i : Nat) (r : Rs) (env : List Sl) : Oc (List Sl) :=
  if decide (i < env.length) then match r with
    | .im t => .ok (env.set i (.im t))
    | .ow xs => .ok (env.set i (.ow xs))
    | .br _ => .no
  else .no
def asgR : Tg → Rs → List Sl → Oc (List Sl)
  | .nm i, r, env => putR i r env
  | .tp is, .im (.tup ts), env => if is.length = ts.length then bindTp is ts env else .no
  | _, _, _ => .no
def Rs.out : Rs → Rs
  | .br xs => .ow xs
  | r => r
def slotO (env : List Sl) (i : Nat) : Oc (List Tr) :=
  match env[i]? with
  | some (.ow xs) => .ok xs
  | _ => .no
def setT (xs : List Tr) (k : Int) (t : Tr) : Oc (List Tr) :=
  match ixN xs.length k with
  | some j => .ok (xs.set j t)
  | none => .no
def popT (xs : List Tr) : Tr → Oc (List Tr)
  | .int j => if smallI j && decide (0 ≤ j) && decide (j < xs.length) then .ok (xs.eraseIdx j.toNat) else .no
  | _ => .no
/-- one place of an own list set anew -/
def subO (rk : List Sl → Oc Rs) (i : Nat) (t : Tr) (env : List Sl) : Oc (List Sl) :=
  slotO env i >>= fun xs => (rk env).noex >>= fun z => oInt z.see >>= fun j => setT xs j t >>= fun ys => .ok (env.set i (.ow ys))
def swpO (rk1 rk2 : List Sl → Oc Rs) (i : Nat) (x : Rs) (env : List Sl) : Oc Fl :=
  match x with
  | .im (.tup [a, b]) => subO rk1 i a env >>= fun e1 => subO rk2 i b e1 >>= fun e2 => .ok (.nx e2)
  | _ => .no
mutual
def exec (C : Ctx) : Sm → List Sl → Oc Fl
  | .asg tg e, env => ev C e env >>= fun r => asgR tg r env >>= fun env' => .ok (.nx env')
  | .par i j a b, env => evs C [a, b] env >>= fun ts => bindTp [i, j] ts env >>= fun env' => .ok (.nx env')
  | .fre i, env => match env[i]? with
    | some (.ow xs) => .ok (.nx (env.set i (.im (.lst xs))))
    | _ => .ok (.nx env)
  | .app i e, env => slotO env i >>= fun xs => ev C e env >>= Rs.fz >>= fun t => if sizeOk (xs.length + 1) then .ok (.nx (env.set i (.ow (xs ++ [t])))) else .no
  | .seti i k e, env => slotO env i >>= fun xs => ev C e env >>= Rs.fz >>= fun t => ev C k env >>= fun r => oInt r.see >>= fun j => setT xs j t >>= fun ys => .ok (.nx (env.set i (.ow ys)))
  | .pop i e, env => slotO env i >>= fun xs => ev C e env >>= Rs.fz >>= fun t => popT xs t >>= fun ys => .ok (.nx (env.set i (.ow ys)))
  | .rvs i, env => slotO env i >>= fun xs => .ok (.nx (env.set i (.ow xs.reverse)))
  | .clr i, env => slotO env i >>= fun _ => .ok (.nx (env.set i (.ow [])))
  | .swp i k1 k2 e, env => ev C e env >>= fun x => swpO (ev C k1) (ev C k2) i x env
  | .ret e, env => ev C e env >>= fun r => .ok (.rt r.out)
  | .retN, _ => .ok (.rt (.im .non))
  | .iff c a b, env => ev C c env >>= fun x => oBool x.see >>= fun k => if k then execs C a env else execs C b env
  | .for_ tg it b, env => evIt C it env >>= fun xs => forGo (fun x e => bindTg tg x e >>= fun e' => execs C b e') xs env
  | .whl c b, env => whlGo (fun e => ev C c e >>= fun x => oBool x.see) (fun e => execs C b e) C.wf env
  | .rse c, _ => .ex c
  | .expr e, env => ev C e env >>= fun _ => .ok (.nx env)
  | .brk, env => .ok (.bk env)
  | .cnt, env => .ok (.ct env)
  | .pass, env => .ok (.nx env)
def execs (C : Ctx) : List Sm → List Sl → Oc Fl
  | [], env => .ok (.nx env)
  | s :: ss, env => exec C s env >>= fun
    | .nx e => execs C ss e
    | f => .ok f
end

/-! ### a whole program -/
structure Fn where
  np : Nat
  ns : Nat
  body : List Sm
def runFn (C : Ctx) (f : Fn) (ts : List Tr) : Oc Rs :=
  if ts.length = f.np then execs C f.body (ts.map Sl.im ++ List.replicate (f.ns - f.np) Sl.un) >>= fun
    | .rt r => .ok r.out
    | .nx _ => .ok (.im .non)
    | _ => .no
  else .no
/-- a def of the text, or a function of one's own (a class's making) -/
inductive Def where
  | fn (f : Fn) | nat (d : Nat) (g : List Tr → Oc Rs)
structure Pg where
  defs : Nat → Option Def
  gl : Nat → Tr
  wf : Nat
def callK (P : Pg) : Nat → Nat → List Tr → Oc Rs
  | 0, _, _ => .no
  | k + 1, i, ts => match P.defs i with
    | some (.fn f) => runFn ⟨callK P k, P.gl, P.wf⟩ f ts
    | some (.nat d g) => if d ≤ k + 1 then g ts >>= fun r => .ok r.out else .no
    | none => .no
def Pg.ctx (P : Pg) (k : Nat) : Ctx := ⟨callK P k, P.gl, P.wf⟩
end PF

namespace PF
open PySem PySem.Spec PyProof.Rows L2

section
variable {U : Uni} {W : WX} {B : Hp}
theorem RsOk.seen {G H H0 : Hp} {v : V} {r : Rs} (s : Same G H) (h : RsOk U B G H H0 v r) : Rep U H v r.see := by
  cases r with
  | im t => exact Rep.mono s h
  | ow xs =>
    obtain ⟨p, vs, rfl, _, _, hh, rr⟩ := h
    exact .lst (.inl (.inl hh)) (rr.mono s)
  | br xs =>
    obtain ⟨p, vs, rfl, _, _, hh, rr⟩ := h
    exact .lst (.inl (.inl hh)) (rr.mono s)
/-- the items of a list, of a tuple -/
theorem RsOk.list {G H H0 : Hp} {v : V} {r : Rs} {xs : List Tr} (s : Same G H) (h : RsOk U B G H H0 v r) (e : r.see = .lst xs) : ∃ a vs, v = .ref a ∧ SqL U.K H a vs ∧ RepL U G vs xs := by
  cases r with
  | im t =>
    have e : t = .lst xs := e
    subst e
    cases h with
    | lst h1 h2 => exact ⟨_, _, rfl, sqL_mono s h1, h2⟩
  | ow ys =>
    cases e
    obtain ⟨p, vs, rfl, _, _, hh, rr⟩ := h
    exact ⟨_, _, rfl, .inl (.inl hh), rr⟩
  | br ys =>
    cases e
    obtain ⟨p, vs, rfl, _, _, hh, rr⟩ := h
    exact ⟨_, _, rfl, .inl (.inl hh), rr⟩
theorem RsOk.tuple {G H H0 : Hp} {v : V} {r : Rs} {xs : List Tr} (s : Same G H) (h : RsOk U B G H H0 v r) (e : r.see = .tup xs) : r = .im (.tup xs) ∧ ∃ a vs, v = .ref a ∧ SqT U.K G a vs ∧ SqT U.K H a vs ∧ RepL U G vs xs := by
  cases r with
  | im t =>
    have e : t = .tup xs := e
    subst e
    refine ⟨rfl, ?_⟩
    cases h with
    | tup h1 h2 => exact ⟨_, _, rfl, h1, sqT_mono s h1, h2⟩
  | ow ys => cases e
  | br ys => cases e
theorem RsOk.int {G H H0 : Hp} {v : V} {r : Rs} {i : Int} (h : RsOk U B G H H0 v r) (e : r.see = .int i) : v = .int i := by
  cases r with
  | im t =>
    have e : t = .int i := e
    subst e
    cases h; rfl
  | ow ys => cases e
  | br ys => cases e
theorem RsOk.bl {G H H0 : Hp} {v : V} {r : Rs} {i : Bool} (h : RsOk U B G H H0 v r) (e : r.see = .bl i) : v = .bl i := by
  cases r with
  | im t =>
    have e : t = .bl i := e
    subst e
    cases h; rfl
  | ow ys => cases e
  | br ys => cases e
theorem oInt_ok {t : Tr} {i : Int} (h : oInt t = .ok i) : t = .int i := by
  cases t <;> simp [oInt] at h
  rw [h]
theorem oInt_ex {t : Tr} {c : Nat} : oInt t ≠ .ex c := by cases t <;> simp [oInt]
theorem oBool_ok {t : Tr} {i : Bool} (h : oBool t = .ok i) : t = .bl i := by
  cases t <;> simp [oBool] at h
  rw [h]
theorem oBool_ex {t : Tr} {c : Nat} : oBool t ≠ .ex c := by cases t <;> simp [oBool]

/-! ### readings joined -/
/-- one part -/
theorem tR_one {ra : List Sl → Oc Rs} {f : Rs → Oc Rs} {σ : L2.St} {H : Hp} {Q Q' : VK}
    (h : tR U W B (fun env => ra env >>= f) σ H Q)
    (hex : ∀ x c, f x ≠ .ex c)
    (hop : ∀ G H1 v x z, Same G H1 → RsOk U B G H1 H v x → f x = .ok z → (∀ u G' H', Grow G H1 G' H' → RsOk U B G' H' H1 u z → Q u H') → Q' v H1) : tR U W B ra σ H Q' := by
  obtain ⟨G, env, I, h⟩ := h
  refine ⟨G, env, I, ?_⟩
  have h : Post U W B (ra env >>= f) G H σ Q := h
  unfold Post
  cases e : ra env with
  | no => rw [e] at h; exact h
  | ex c => rw [e] at h; exact h
  | ok x =>
    rw [e, Oc.ok_bind] at h
    intro v G1 H1 g1 k1
    cases e2 : f x with
    | no => rw [e2] at h; exact h.elim
    | ex c => exact absurd e2 (hex x c)
    | ok z =>
      rw [e2] at h
      exact hop G1 H1 v x z g1.gh k1 e2 fun u G' H' g k => h u G' H' (g1.trans g) (k.from I.sub g1)
/-- one part, then a reading -/
theorem tR_then {ra : List Sl → Oc Rs} {f : Rs → List Sl → Oc Rs} {σ : L2.St} {H : Hp} {Q Q' : VK}
    (h : tR U W B (fun env => ra env >>= fun x => f x env) σ H Q)
    (hop : ∀ G H1 v x, Same G H1 → RsOk U B G H1 H v x → tR U W B (f x) σ H1 Q → Q' v H1) : tR U W B ra σ H Q' := by
  obtain ⟨G, env, I, h⟩ := h
  refine ⟨G, env, I, ?_⟩
  have h : Post U W B (ra env >>= fun x => f x env) G H σ Q := h
  unfold Post
  cases e : ra env with
  | no => rw [e] at h; exact h
  | ex c => rw [e] at h; exact h
  | ok x =>
    rw [e, Oc.ok_bind] at h
    intro v G1 H1 g1 k1
    refine hop G1 H1 v x g1.gh k1 ⟨G1, env, I.later g1, ?_⟩
    unfold Post at h ⊢
    cases e2 : f x env with
    | no => rw [e2] at h; exact h
    | ex c => rw [e2] at h; exact fun G' H' g => h G' H' (g1.trans g)
    | ok z => rw [e2] at h; exact fun u G' H' g k => h u G' H' (g1.trans g) (k.from I.sub g1)
/-- two parts -/
theorem tR_two {ra rb : List Sl → Oc Rs} {f : Rs → Rs → Oc Rs} {σ : L2.St} {H : Hp} {Q : VK} {R : V → V → Hp → Prop}
    (h : tR U W B (fun env => ra env >>= fun x => rb env >>= fun y => f x y) σ H Q)
    (hex : ∀ x y c, f x y ≠ .ex c)
    (hop : ∀ G H2 v w x y z, Same G H2 → RsOk U B G H2 H v x → RsOk U B G H2 H w y → f x y = .ok z → (∀ u G' H', Grow G H2 G' H' → RsOk U B G' H' H2 u z → Q u H') → R v w H2) :
    tR U W B ra σ H fun v H1 => tR U W B rb σ H1 fun w H2 => R v w H2 := by
  obtain ⟨G, env, I, h⟩ := h
  refine ⟨G, env, I, ?_⟩
  have h : Post U W B (ra env >>= fun x => rb env >>= fun y => f x y) G H σ Q := h
  unfold Post
  cases e : ra env with
  | no => rw [e] at h; exact h
  | ex c => rw [e] at h; exact h
  | ok x =>
    rw [e, Oc.ok_bind] at h
    intro v G1 H1 g1 k1
    refine ⟨G1, env, I.later g1, ?_⟩
    unfold Post at h ⊢
    cases e2 : rb env with
    | no => rw [e2] at h; exact h
    | ex c => rw [e2] at h; exact fun G' H' g => h G' H' (g1.trans g)
    | ok y =>
      rw [e2, Oc.ok_bind] at h
      intro w G2 H2 g2 k2
      have g12 := g1.trans g2
      cases e3 : f x y with
      | no => rw [e3] at h; exact h.elim
      | ex c => exact absurd e3 (hex x y c)
      | ok z =>
        rw [e3] at h
        exact hop G2 H2 v w x y z g2.gh (k1.later I.sub g1 g2) (k2.from I.sub g1) e3 fun u G' H' g k => h u G' H' (g12.trans g) (k.from I.sub g12)
/-- a truth of a reading -/
def asB (r : List Sl → Oc Rs) : List Sl → Oc Bool := fun env => r env >>= fun x => oBool x.see
theorem tBo_bl {r : List Sl → Oc Rs} {σ : L2.St} {H : Hp} {Q : Bool → Hp → Prop} (h : tBo U W B (asB r) σ H Q) : tR U W B r σ H fun x H' => ∃ k, x = .bl k ∧ Q k H' := by
  obtain ⟨G, env, I, h⟩ := h
  refine ⟨G, env, I, ?_⟩
  unfold asB at h
  unfold Post
  cases e : r env with
  | no => rw [e] at h; exact h
  | ex c => rw [e] at h; exact h
  | ok x =>
    rw [e, Oc.ok_bind] at h
    intro v G1 H1 g1 k1
    cases e2 : oBool x.see with
    | no => rw [e2] at h; exact h.elim
    | ex c => exact absurd e2 oBool_ex
    | ok k =>
      rw [e2] at h
      exact ⟨k, k1.bl (oBool_ok e2), h G1 H1 g1⟩

/-! ### expressions -/
variable {X : Cx}
theorem cb_lo {i : Nat} {x : Str} {pos : Pos} (hN : X.N[i]? = some x) (hv : Vis X.env.scope x) (hd : (x == ("__debug__" : Str)) = false) (hcd : (x == ("__classdict__" : Str)) = false) :
    PE X (.Name x pos) (tR U W B fun env => slotR env[i]?) := by
  refine PE.weak (pe_var hN hv hd hcd) fun σ H Q h => ?_
  obtain ⟨G, env, I, h⟩ := h
  have hr := I.rep i
  have h : Post U W B (slotR env[i]?) G H σ Q := h
  show ∃ v, σ[i]? = some (some v) ∧ Q v H
  cases e : env[i]? with
  | none => rw [e] at h; exact h.elim
  | some s =>
    have q := hr s e
    rw [e] at h
    cases s with
    | un => exact h.elim
    | im t =>
      obtain ⟨v, h1, h2⟩ := q
      exact ⟨v, h1, h v G H (Grow.refl I.sub) h2⟩
    | ow xs =>
      obtain ⟨p, vs, h1, h2, h3, h4, h5⟩ := q
      exact ⟨_, h1, h _ G H (Grow.refl I.sub) ⟨p, vs, rfl, h2, h3, h4, h5⟩⟩
theorem cb_ct {e : Expr} {v : V} {t : Tr} (h : PE X e (tC v)) (r : ∀ G, Rep U G v t) : PE X e (tR U W B fun _ => .ok (.im t)) :=
  PE.weak h fun σ H Q ⟨G, env, I, h⟩ => h v G H (Grow.refl I.sub) (r G)
theorem cb_un {op : UnaryOp} {a : Expr} {pos : Pos} {ra : List Sl → Oc Rs} (ha : PE X a (tR U W B ra)) : PE X (.UnaryOp .USub a pos) (tR U W B fun env => ra env >>= fun x => oInt x.see >>= fun i => .ok (.im (.int (-i)))) :=
  PE.weak (pe_un un_neg ha) fun σ H Q h => tR_one h (fun x c => by cases e : oInt x.see <;> simp [e] <;> exact fun z => oInt_ex (z ▸ e)) fun G H1 v x z s k e q => by
    cases e2 : oInt x.see with
    | no => rw [e2] at e; cases e
    | ex c => rw [e2] at e; cases e
    | ok i =>
      rw [e2] at e
      cases e
      exact ⟨i, k.int (oInt_ok e2), q _ G H1 (Grow.refl s) (Rep.int _)⟩
theorem cb_not {a : Expr} {pos : Pos} {ra : List Sl → Oc Rs} (ha : PE X a (tR U W B ra)) : PE X (.UnaryOp .Not a pos) (tR U W B fun env => ra env >>= fun x => oBool x.see >>= fun i => .ok (.im (.bl (!i)))) :=
  PE.weak (pe_not ha) fun σ H Q h => tR_one h (fun x c => by cases e : oBool x.see <;> simp [e] <;> exact fun z => oBool_ex (z ▸ e)) fun G H1 v x z s k e q => by
    cases e2 : oBool x.see with
    | no => rw [e2] at e; cases e
    | ex c => rw [e2] at e; cases e
    | ok i =>
      rw [e2] at e
      cases e
      exact ⟨i, k.bl (oBool_ok e2), q _ G H1 (Grow.refl s) (Rep.bl _)⟩
theorem cb_and {a b : Expr} {rest : List Expr} {pos : Pos} {ra rb : List Sl → Oc Rs} (ha : PE X a (tR U W B ra)) (hb : PE X (.BoolOp .And (b :: rest) pos) (tR U W B rb)) :
    PE X (.BoolOp .And (a :: b :: rest) pos) (tR U W B fun env => ra env >>= fun x => oBool x.see >>= fun k => if k then rb env else .ok (.im (.bl false))) :=
  PE.weak (pe_and ha hb) fun σ H Q h => tR_then (f := fun x env => oBool x.see >>= fun k => if k then rb env else .ok (.im (.bl false))) h fun G H1 v x s k q => by
    cases e2 : oBool x.see with
    | no => simp only [e2, Oc.no_bind] at q; obtain ⟨_, _, _, q⟩ := q; exact q.elim
    | ex c => exact absurd e2 oBool_ex
    | ok i =>
      simp only [e2, Oc.ok_bind] at q
      refine ⟨i, k.bl (oBool_ok e2), ?_⟩
      cases i with
      | true => exact q
      | false =>
        obtain ⟨G2, env, I, q⟩ := q
        exact q _ G2 H1 (Grow.refl I.sub) (Rep.bl _)
theorem cb_or {a b : Expr} {rest : List Expr} {pos : Pos} {ra rb : List Sl → Oc Rs} (ha : PE X a (tR U W B ra)) (hb : PE X (.BoolOp .Or (b :: rest) pos) (tR U W B rb)) :
    PE X (.BoolOp .Or (a :: b :: rest) pos) (tR U W B fun env => ra env >>= fun x => oBool x.see >>= fun k => if k then .ok (.im (.bl true)) else rb env) :=
  PE.weak (pe_or ha hb) fun σ H Q h => tR_then (f := fun x env => oBool x.see >>= fun k => if k then .ok (.im (.bl true)) else rb env) h fun G H1 v x s k q => by
    cases e2 : oBool x.see with
    | no => simp only [e2, Oc.no_bind] at q; obtain ⟨_, _, _, q⟩ := q; exact q.elim
    | ex c => exact absurd e2 oBool_ex
    | ok i =>
      simp only [e2, Oc.ok_bind] at q
      refine ⟨i, k.bl (oBool_ok e2), ?_⟩
      cases i with
      | false => exact q
      | true =>
        obtain ⟨G2, env, I, q⟩ := q
        exact q _ G2 H1 (Grow.refl I.sub) (Rep.bl _)
/-! tests -/
theorem cb_tval {e : Expr} {r : List Sl → Oc Rs} (h : PE X e (tR U W B r)) (he : ∀ whole, isTrue e X.env whole = (do let v ← whole; standAt e.pos; holding [v] (truthy v))) : PT X e (tBo U W B (asB r)) :=
  PT.weak (pt_val h he) fun σ H Q h => tBo_bl h
theorem tBo_then {ra : List Sl → Oc Bool} {f : Bool → List Sl → Oc Bool} {σ : L2.St} {H : Hp} {Q Q' : Bool → Hp → Prop}
    (h : tBo U W B (fun env => ra env >>= fun x => f x env) σ H Q)
    (hop : ∀ H1 x, tBo U W B (f x) σ H1 Q → Q' x H1) : tBo U W B ra σ H Q' := by
  obtain ⟨G, env, I, h⟩ := h
  refine ⟨G, env, I, ?_⟩
  dsimp only at h
  cases e : ra env with
  | no => rw [e] at h; exact h
  | ex c => rw [e] at h; exact h
  | ok x =>
    rw [e, Oc.ok_bind] at h
    intro G1 H1 g1
    refine hop H1 x ⟨G1, env, I.later g1, ?_⟩
    cases e2 : f x env with
    | no => rw [e2] at h; exact h
    | ex c => rw [e2] at h; exact fun G' H' g => h G' H' (g1.trans g)
    | ok z => rw [e2] at h; exact fun G' H' g => h G' H' (g1.trans g)
theorem tBo_pure {b : Bool} {σ : L2.St} {H : Hp} {Q : Bool → Hp → Prop} (h : tBo U W B (fun _ => .ok b) σ H Q) : Q b H := by
  obtain ⟨G, env, I, h⟩ := h
  exact h G H (Grow.refl I.sub)
theorem cb_tnot {a : Expr} {pos : Pos} {ra : List Sl → Oc Rs} (ha : PT X a (tBo U W B (asB ra))) :
    PT X (.UnaryOp .Not a pos) (tBo U W B (asB fun env => ra env >>= fun x => oBool x.see >>= fun i => .ok (.im (.bl (!i))))) :=
  PT.weak (pt_not ha) fun σ H Q h => by
    have h : tBo U W B (fun env => asB ra env >>= fun k => .ok (!k)) σ H Q := by
      obtain ⟨G, env, I, h⟩ := h
      refine ⟨G, env, I, ?_⟩
      unfold asB at h ⊢
      dsimp only at h ⊢
      cases e : ra env with
      | no => rw [e] at h; exact h
      | ex c => rw [e] at h; exact h
      | ok x =>
        rw [e, Oc.ok_bind] at h
        rw [Oc.ok_bind]
        cases e2 : oBool x.see with
        | no => rw [e2] at h; exact h
        | ex c => rw [e2] at h; exact h
        | ok k => rw [e2] at h; exact h
    exact tBo_then (f := fun k _ => .ok (!k)) h fun H1 x q => tBo_pure q
theorem cb_wand {a b : Expr} {rest : List Expr} {pos : Pos} {ra rb : List Sl → Oc Rs} (ha : PT X a (tBo U W B (asB ra))) (hb : PW X (.BoolOp .And (b :: rest) pos) (tBo U W B (asB rb))) :
    PW X (.BoolOp .And (a :: b :: rest) pos) (tBo U W B (asB fun env => ra env >>= fun x => oBool x.see >>= fun k => if k then rb env else .ok (.im (.bl false)))) :=
  PW.weak (pw_and ha hb) fun σ H Q h => by
    have h : tBo U W B (fun env => asB ra env >>= fun k => if k then asB rb env else .ok false) σ H Q := by
      obtain ⟨G, env, I, h⟩ := h
      refine ⟨G, env, I, ?_⟩
      unfold asB at h ⊢
      dsimp only at h ⊢
      cases e : ra env with
      | no => rw [e] at h; exact h
      | ex c => rw [e] at h; exact h
      | ok x =>
        rw [e, Oc.ok_bind] at h
        rw [Oc.ok_bind]
        cases e2 : oBool x.see with
        | no => rw [e2] at h; exact h
        | ex c => rw [e2] at h; exact h
        | ok k =>
          rw [e2, Oc.ok_bind] at h
          rw [Oc.ok_bind]
          cases k with
          | true => exact h
          | false => exact h
    refine tBo_then (f := fun k env => if k then asB rb env else .ok false) h fun H1 x q => ?_
    cases x with
    | true => exact q
    | false => exact tBo_pure q
theorem cb_wor {a b : Expr} {rest : List Expr} {pos : Pos} {ra rb : List Sl → Oc Rs} (ha : PT X a (tBo U W B (asB ra))) (hb : PW X (.BoolOp .Or (b :: rest) pos) (tBo U W B (asB rb))) :
    PW X (.BoolOp .Or (a :: b :: rest) pos) (tBo U W B (asB fun env => ra env >>= fun x => oBool x.see >>= fun k => if k then .ok (.im (.bl true)) else rb env)) :=
  PW.weak (pw_or ha hb) fun σ H Q h => by
    have h : tBo U W B (fun env => asB ra env >>= fun k => if k then .ok true else asB rb env) σ H Q := by
      obtain ⟨G, env, I, h⟩ := h
      refine ⟨G, env, I, ?_⟩
      unfold asB at h ⊢
      dsimp only at h ⊢
      cases e : ra env with
      | no => rw [e] at h; exact h
      | ex c => rw [e] at h; exact h
      | ok x =>
        rw [e, Oc.ok_bind] at h
        rw [Oc.ok_bind]
        cases e2 : oBool x.see with
        | no => rw [e2] at h; exact h
        | ex c => rw [e2] at h; exact h
        | ok k =>
          rw [e2, Oc.ok_bind] at h
          rw [Oc.ok_bind]
          cases k with
          | true => exact h
          | false => exact h
    refine tBo_then (f := fun k env => if k then .ok true else asB rb env) h fun H1 x q => ?_
    cases x with
    | false => exact q
    | true => exact tBo_pure q
theorem cb_ite {c a b : Expr} {pos : Pos} {rc ra rb : List Sl → Oc Rs} (hc : PT X c (tBo U W B (asB rc))) (ha : PE X a (tR U W B ra)) (hb : PE X b (tR U W B rb)) :
    PE X (.IfExp c a b pos) (tR U W B fun env => rc env >>= fun x => oBool x.see >>= fun k => if k then ra env else rb env) :=
  PE.weak (pe_ifExp hc ha hb) fun σ H Q h => by
    obtain ⟨G, env, I, h⟩ := h
    refine ⟨G, env, I, ?_⟩
    have h : Post U W B (rc env >>= fun x => oBool x.see >>= fun k => if k then ra env else rb env) G H σ Q := h
    unfold asB
    dsimp only
    cases e : rc env with
    | no => rw [e] at h; exact h
    | ex c => rw [e] at h; exact h
    | ok x =>
      rw [e, Oc.ok_bind] at h
      rw [Oc.ok_bind]
      cases e2 : oBool x.see with
      | no => rw [e2] at h; exact h
      | ex c => rw [e2] at h; exact h
      | ok k =>
        rw [e2, Oc.ok_bind] at h
        intro G1 H1 g1
        cases k with
        | true =>
          refine ⟨G1, env, I.later g1, ?_⟩
          have h : Post U W B (ra env) G H σ Q := h
          unfold Post at h ⊢
          cases e3 : ra env with
          | no => rw [e3] at h; exact h
          | ex c => rw [e3] at h; exact fun G' H' g => h G' H' (g1.trans g)
          | ok z => rw [e3] at h; exact fun u G' H' g k => h u G' H' (g1.trans g) (k.from I.sub g1)
        | false =>
          refine ⟨G1, env, I.later g1, ?_⟩
          have h : Post U W B (rb env) G H σ Q := h
          unfold Post at h ⊢
          cases e3 : rb env with
          | no => rw [e3] at h; exact h
          | ex c => rw [e3] at h; exact fun G' H' g => h G' H' (g1.trans g)
          | ok z => rw [e3] at h; exact fun u G' H' g k => h u G' H' (g1.trans g) (k.from I.sub g1)
end
end PF

namespace PF
open PySem PySem.Spec PyProof.Rows L2
theorem sizeOk_le {n : Nat} (h : sizeOk n = true) : n ≤ sizeLine := by
  rw [sizeLine_eq]
  exact of_decide_eq_true h
section
variable {U : Uni} {W : WX} {B : Hp} {X : Cx}

/-! ### operators -/
def opOf : Op → Operator
  | .add => .Add | .sub => .Sub | .mul => .Mult | .fdiv => .FloorDiv | .mod => .Mod | .pow => .Pow | .band => .BitAnd | .shr => .RShift
/-- a list and a list, wherever they stand -/
def rCatR (K : PySem.W.Frag) : R2 := fun x y H Q => ∃ l b xs zs, x = .ref l ∧ y = .ref b ∧ SqL K H l xs ∧ SqL K H b zs ∧ xs.length + zs.length ≤ sizeLine ∧ ∀ p, H p = none → Q (.ref p) (upd H p (.lst (xs ++ zs)))
theorem op_catR : OpR X (binaryOp .Add) (rCatR X.K) := by
  intro pins s σ H x y v u Q I rx ry h
  obtain ⟨l, b, xs, zs, rfl, rfl, hH, hB, hz, q⟩ := h
  cases rx
  cases ry
  obtain ⟨its, r, pl, z⟩ := I.list hH
  obtain ⟨its2, r2, pl2, z2⟩ := I.list hB
  have hl := r.length
  have hl2 := r2.length
  obtain ⟨⟨cls, dd, data, sl⟩, ho, hc, n, hd⟩ := pl.isList
  obtain ⟨⟨cls2, dd2, data2, sl2⟩, ho2, hc2, n2, hd2⟩ := pl2.isList
  simp only at hc hd hc2 hd2
  subst hc hd hc2 hd2
  refine concat_meets ⟨_, ho, rfl⟩ ⟨_, ho2, rfl⟩ noFill_list_add seq_list_add PySem.F.slot_list_add PySem.F.entry_list_add (PySem.F.args_list_add_2 _ _) (list_addW l b its.toArray its2.toArray n n2 dd dd2 sl sl2 (by simp only [List.size_toArray]; omega)) ⟨ho, ho2, ?_⟩
  have ea : its.toArray ++ its2.toArray = (its ++ its2).toArray := by simp
  rw [ea]
  exact ⟨.ref _, _, I.lnew (t' := s.toks) (r.append r2) (by rw [List.length_append]; omega), rfl, q _ I.fresh⟩
def rOpI (o : Op) : R2 := fun x y H Q => ∃ i j k, x = .int i ∧ y = .int j ∧ opI o i j = .ok k ∧ Q (.int k) H
def CMulL (i j : Int) : Prop := mulOk i j = true
theorem CMulL.ok {i j : Int} (h : CMulL i j) : IntMulOk i j := IntMulOk.of_le (Nat.le_refl _) (Nat.le_refl _) (of_decide_eq_true h)
theorem op_mulL : OpR X (binaryOp .Mult) (rI CMulL fun i j => .int (i * j)) := L2.opI fun _ _ _ _ _ _ _ hc q => mul_int q hc.ok
theorem op_int (o : Op) : OpR X (binaryOp (opOf o)) (rOpI o) := by
  intro pins s σ H x y v u Q I rx ry h
  obtain ⟨i, j, k, rfl, rfl, e, q⟩ := h
  cases o with
  | add => cases e; exact op_add pins s σ H _ _ v u Q I rx ry ⟨i, j, rfl, rfl, q⟩
  | sub => cases e; exact op_sub pins s σ H _ _ v u Q I rx ry ⟨i, j, rfl, rfl, q⟩
  | mul =>
    have e : (if mulOk i j then .ok (i * j) else .no) = Oc.ok k := e
    split at e
    · rename_i hc
      cases e
      exact op_mulL pins s σ H _ _ v u Q I rx ry ⟨i, j, rfl, rfl, hc, q⟩
    · cases e
  | fdiv =>
    have e : (if decide (0 < j) && decide (j.natAbs.log2 < 9000) then .ok (i / j) else .no) = Oc.ok k := e
    split at e
    · rename_i hc
      cases e
      rw [Bool.and_eq_true] at hc
      exact op_fdivW pins s σ H _ _ v u Q I rx ry ⟨i, j, rfl, rfl, ⟨of_decide_eq_true hc.1, of_decide_eq_true hc.2⟩, q⟩
    · cases e
  | mod =>
    have e : (if decide (0 < j) then .ok (i % j) else .no) = Oc.ok k := e
    split at e
    · rename_i hc
      cases e
      exact op_mod pins s σ H _ _ v u Q I rx ry ⟨i, j, rfl, rfl, of_decide_eq_true hc, q⟩
    · cases e
  | pow =>
    have e : (if decide (0 ≤ j) && decide (j ≤ 1000000) && decide (i.natAbs < 2 ^ 64) then .ok (i ^ j.toNat) else .no) = Oc.ok k := e
    split at e
    · rename_i hc
      cases e
      rw [Bool.and_eq_true, Bool.and_eq_true] at hc
      exact op_pow pins s σ H _ _ v u Q I rx ry ⟨i, j, rfl, rfl, ⟨of_decide_eq_true hc.1.1, of_decide_eq_true hc.1.2, of_decide_eq_true hc.2⟩, q⟩
    · cases e
  | band => cases e; exact op_and pins s σ H _ _ v u Q I rx ry ⟨i, j, rfl, rfl, q⟩
  | shr =>
    have e : (if decide (0 ≤ j) then .ok (i / 2 ^ j.toNat) else .no) = Oc.ok k := e
    split at e
    · rename_i hc
      cases e
      exact op_shr pins s σ H _ _ v u Q I rx ry ⟨i, j, rfl, rfl, of_decide_eq_true hc, q⟩
    · cases e
theorem opI_ex {o : Op} {i j : Int} {c : Nat} : opI o i j ≠ .ex c := by
  cases o <;> (try simp only [opI]) <;> (try split) <;> intro h <;> cases h
theorem opE_ex {o : Op} {a b : Rs} {c : Nat} : opE o a b ≠ .ex c := by
  unfold opE
  split
  · intro h
    rename_i i j _ _
    cases e : opI o i j with
    | ok k => rw [e] at h; cases h
    | ex c => exact opI_ex e
    | no => rw [e] at h; cases h
  · split <;> intro h <;> cases h
  · split <;> intro h <;> cases h
  · intro h; cases h
/-- what the add rules ask of -/
def rAll2 (K : PySem.W.Frag) (o : Op) : R2 := fun x y H Q => rOpI o x y H Q ∨ (o = .add ∧ rCatR K x y H Q) ∨ (o = .add ∧ rCatA K x y H Q)
theorem op_all (o : Op) : OpR X (binaryOp (opOf o)) (rAll2 X.K o) := by
  intro pins s σ H x y v u Q I rx ry h
  rcases h with h | ⟨rfl, h⟩ | ⟨rfl, h⟩
  · exact op_int o pins s σ H x y v u Q I rx ry h
  · exact op_catR pins s σ H x y v u Q I rx ry h
  · exact op_catA pins s σ H x y v u Q I rx ry h
theorem cb_bin {o : Op} {a b : Expr} {pos : Pos} {ra rb : List Sl → Oc Rs} (hK : X.K = U.K) (ha : PE X a (tR U W B ra)) (hb : PE X b (tR U W B rb)) :
    PE X (.BinOp a (opOf o) b pos) (tR U W B fun env => ra env >>= fun x => rb env >>= fun y => opE o x y) :=
  PE.weak (pe_op (op_all o) ha hb) fun σ H Q h => tR_two h (fun _ _ _ => opE_ex) fun G H2 v w x y z s kx ky e q => by
    unfold opE at e
    split at e
    · rename_i i j e1 e2
      cases e3 : opI o i j with
      | no => rw [e3] at e; cases e
      | ex c => rw [e3] at e; cases e
      | ok k =>
        rw [e3] at e
        cases e
        exact .inl ⟨i, j, k, kx.int e1, ky.int e2, e3, q _ G H2 (Grow.refl s) (Rep.int _)⟩
    · rename_i xs ys e1 e2
      split at e
      · rename_i hc
        cases e
        rw [Bool.and_eq_true] at hc
        obtain ⟨l, vs, rfl, hl, rl⟩ := kx.list s e1
        obtain ⟨b, ws, rfl, hb, rb⟩ := ky.list s e2
        refine .inr (.inl ⟨of_decide_eq_true hc.1, l, b, vs, ws, rfl, rfl, hK ▸ hl, hK ▸ hb, ?_, fun p hp => ?_⟩)
        · rw [rl.length, rb.length]; exact sizeOk_le hc.2
        · have hg : G p = none := by
            cases z : G p with
            | none => rfl
            | some o => rw [s p o z] at hp; cases hp
          exact q _ G _ (Grow.made0 s hp) ⟨p, _, rfl, hp, hg, upd_same, rl.append rb⟩
      · cases e
    · rename_i xs ys e1 e2
      split at e
      · rename_i hc
        cases e
        rw [Bool.and_eq_true, Bool.and_eq_true] at hc
        obtain ⟨_, l, vs, rfl, gl, hl, rl⟩ := kx.tuple s e1
        obtain ⟨_, b, ws, rfl, gb, hb, rb⟩ := ky.tuple s e2
        have hne : vs ≠ [] := fun z => by
          subst z
          cases rl
          simp at hc
        refine .inr (.inr ⟨of_decide_eq_true hc.1.1, l, b, vs, ws, rfl, rfl, ?_, ?_, ?_, fun z => absurd z hne, fun _ z => ?_, fun _ _ p hp => ?_⟩)
        · rw [hK]; exact hl
        · rw [hK]; exact hb
        · rw [rl.length, rb.length]; exact sizeOk_le hc.1.2
        · subst z
          cases rb
          rw [List.append_nil] at q
          exact q _ G H2 (Grow.refl s) (Rep.tup gl rl)
        · have g := Grow.made (o := .tup (vs ++ ws)) s hp
          exact q _ _ _ g (Rep.tup (.inl (.inl upd_same)) ((rl.append rb).mono g.gg))
      · cases e
    · cases e

/-! ### comparisons -/
def coOf : CO → CmpOp
  | .eq => .Eq | .ne => .NotEq | .lt => .Lt | .le => .LtE | .gt => .Gt | .ge => .GtE
theorem eq_ex {a b : Tr} {c : Nat} : a.eq b ≠ .ex c := by
  unfold Tr.eq
  split
  · split <;> intro h <;> cases h
  · intro h; cases h
theorem cmpE_ex {o : CO} {a b : Tr} {c : Nat} : cmpE o a b ≠ .ex c := by
  unfold cmpE
  split
  · exact eq_ex
  · intro h
    cases e : a.eq b with
    | ok k => rw [e] at h; cases h
    | ex c => exact eq_ex e
    | no => rw [e] at h; cases h
  · split <;> intro h <;> cases h
def rCmp (U : Uni) (o : CO) : R2 := fun x y H Q => ∃ a b k, Rep U H x a ∧ Rep U H y b ∧ cmpE o a b = .ok k ∧ Q (.bl k) H
theorem nomarkC (o : CO) (b : Expr) : behindInMarks (coOf o) b = false := by cases o <;> exact nomark _
theorem op_cmp (o : CO) (hK : X.K = U.K) (hu : X.A.units + 64 < cLine) : OpR X (compareOp (coOf o)) (rCmp U o) := by
  intro pins s σ H x y v u Q I rx ry h
  obtain ⟨a, b, k, ra, rb, e, q⟩ := h
  have deq : ∀ {k : Bool}, a.eq b = .ok k → ∃ d e, Dp X.K H x d ∧ Dp X.K H y e ∧ SeqAt.shaped d = true ∧ SeqAt.shaped e = true ∧ k = PyData.eqv d e := fun {k} h => by
    unfold Tr.eq at h
    split at h
    · rename_i d e h1 h2
      split at h
      · rename_i hs
        rw [Bool.and_eq_true] at hs
        cases h
        rw [hK]
        exact ⟨d, e, ra.dp (Same.refl _) h1, rb.dp (Same.refl _) h2, hs.1, hs.2, rfl⟩
      · cases h
    · cases h
  have int2 : ∀ {f : Int → Int → Bool}, (match a, b with | .int i, .int j => Oc.ok (f i j) | _, _ => Oc.no) = .ok k → ∃ i j, x = .int i ∧ y = .int j ∧ k = f i j := fun {f} h => by
    split at h
    · cases h; cases ra; cases rb; exact ⟨_, _, rfl, rfl, rfl⟩
    · cases h
  cases o with
  | eq =>
    obtain ⟨d, d', h1, h2, h3, h4, rfl⟩ := deq e
    exact op_eqD hu pins s σ H x y v u Q I rx ry ⟨d, d', h1, h2, h3, h4, q⟩
  | ne =>
    unfold cmpE at e
    dsimp only at e
    cases e2 : a.eq b with
    | no => rw [e2] at e; cases e
    | ex c => rw [e2] at e; cases e
    | ok k2 =>
      rw [e2] at e
      cases e
      obtain ⟨d, d', h1, h2, h3, h4, rfl⟩ := deq e2
      exact op_neD hu pins s σ H x y v u Q I rx ry ⟨d, d', h1, h2, h3, h4, q⟩
  | lt => obtain ⟨i, j, rfl, rfl, rfl⟩ := int2 (f := cmpI .lt) e; exact op_lt pins s σ H _ _ v u Q I rx ry ⟨i, j, rfl, rfl, q⟩
  | le => obtain ⟨i, j, rfl, rfl, rfl⟩ := int2 (f := cmpI .le) e; exact op_le pins s σ H _ _ v u Q I rx ry ⟨i, j, rfl, rfl, q⟩
  | gt => obtain ⟨i, j, rfl, rfl, rfl⟩ := int2 (f := cmpI .gt) e; exact op_gt pins s σ H _ _ v u Q I rx ry ⟨i, j, rfl, rfl, q⟩
  | ge => obtain ⟨i, j, rfl, rfl, rfl⟩ := int2 (f := cmpI .ge) e; exact op_ge pins s σ H _ _ v u Q I rx ry ⟨i, j, rfl, rfl, q⟩
/-- two parts and a truth -/
theorem tR_cmp {ra rb : List Sl → Oc Rs} {f : Tr → Tr → Oc Bool} {σ : L2.St} {H : Hp} {Q : VK} {r : R2} (hex : ∀ x y c, f x y ≠ .ex c)
    (hr : ∀ H x y a b k, Rep U H x a → Rep U H y b → f a b = .ok k → ∀ Q : VK, Q (.bl k) H → r x y H Q)
    (h : tR U W B (fun env => ra env >>= fun x => rb env >>= fun y => f x.see y.see >>= fun b => .ok (.im (.bl b))) σ H Q) : tOp r (tR U W B ra) (tR U W B rb) σ H Q :=
  tR_two h (fun x y c => by cases e : f x.see y.see <;> simp [e] <;> exact fun z => hex _ _ _ (z ▸ e)) fun G H2 v w x y z s kx ky e q => by
    cases e2 : f x.see y.see with
    | no => rw [e2] at e; cases e
    | ex c => rw [e2] at e; cases e
    | ok k =>
      rw [e2] at e
      cases e
      exact hr H2 v w _ _ k (kx.seen s) (ky.seen s) e2 Q (q _ G H2 (Grow.refl s) (Rep.bl _))
theorem cb_cmp {o : CO} {a b : Expr} {pos : Pos} {ra rb : List Sl → Oc Rs} (hK : X.K = U.K) (hu : X.A.units + 64 < cLine) (ha : PE X a (tR U W B ra)) (hb : PE X b (tR U W B rb)) :
    PE X (.Compare a [coOf o] [b] pos) (tR U W B fun env => ra env >>= fun x => rb env >>= fun y => cmpE o x.see y.see >>= fun b => .ok (.im (.bl b))) :=
  PE.weak (pe_cmpR (op_cmp o hK hu) ha hb (nomarkC o b)) fun σ H Q h => tR_cmp (fun _ _ _ => cmpE_ex) (fun H x y a b k r1 r2 e Q q => ⟨a, b, k, r1, r2, e, q⟩) h
theorem tTest_of {r : List Sl → Oc Rs} {t : TE} {σ : L2.St} {H : Hp} {Q : Bool → Hp → Prop} (h : tBo U W B (asB r) σ H Q) (ht : ∀ Q : VK, tR U W B r σ H Q → t σ H Q) : tTest t σ H Q := ht _ (tBo_bl h)
theorem cb_tcmp {o : CO} {a b : Expr} {pos : Pos} {ra rb : List Sl → Oc Rs} (hK : X.K = U.K) (hu : X.A.units + 64 < cLine) (ha : PE X a (tR U W B ra)) (hb : PE X b (tR U W B rb)) :
    PT X (.Compare a [coOf o] [b] pos) (tBo U W B (asB fun env => ra env >>= fun x => rb env >>= fun y => cmpE o x.see y.see >>= fun b => .ok (.im (.bl b)))) :=
  PT.weak (pt_cmpR (op_cmp o hK hu) ha hb (nomarkC o b)) fun σ H Q h => tTest_of h fun Q h => tR_cmp (fun _ _ _ => cmpE_ex) (fun H x y a b k r1 r2 e Q q => ⟨a, b, k, r1, r2, e, q⟩) h
def ordC : CO → Bool
  | .eq => false
  | .ne => false
  | _ => true
theorem cmp_ord {o : CO} {a b : Tr} {k : Bool} (ho : ordC o = true) (h : cmpE o a b = .ok k) : ∃ i j, a = .int i ∧ b = .int j := by
  cases o <;> first | cases ho | skip
  all_goals
    unfold cmpE at h
    dsimp only at h
    split at h
    · exact ⟨_, _, rfl, rfl⟩
    · cases h
theorem rep_int {H : Hp} {v : V} {i : Int} (h : Rep U H v (.int i)) : v = .int i := by cases h; rfl
theorem lastM (o o' : CO) (b c : Expr) : lastMarks [coOf o, coOf o'] [b, c] = false := by
  simp only [lastMarks]
  exact nomarkC o' c
theorem tR_chain {o o' : CO} (ho : ordC o = true) {ra rb rc : List Sl → Oc Rs} {σ : L2.St} {H : Hp} {Q : VK}
    (h : tR U W B (fun env => ra env >>= fun x => rb env >>= fun y => cmpE o x.see y.see >>= fun k => if k then rc env >>= fun z => cmpE o' y.see z.see >>= fun k' => .ok (.im (.bl k')) else .ok (.im (.bl false))) σ H Q) :
    tChain (rCmp U o) (rCmp U o') (tR U W B ra) (tR U W B rb) (tR U W B rc) σ H Q := by
  refine tR_then (f := fun x env => rb env >>= fun y => cmpE o x.see y.see >>= fun k => if k then rc env >>= fun z => cmpE o' y.see z.see >>= fun k' => .ok (.im (.bl k')) else .ok (.im (.bl false))) h fun G H1 v x s kx h => ?_
  have hx : ∀ i, x.see = .int i → v = .int i := fun i e => rep_int (e ▸ kx.seen s)
  refine tR_then (f := fun y env => cmpE o x.see y.see >>= fun k => if k then rc env >>= fun z => cmpE o' y.see z.see >>= fun k' => .ok (.im (.bl k')) else .ok (.im (.bl false))) h fun G2 H2 w y s2 ky h => ?_
  cases e : cmpE o x.see y.see with
  | no =>
    obtain ⟨_, _, _, q⟩ := h
    rw [e] at q
    exact q.elim
  | ex c => exact absurd e cmpE_ex
  | ok k =>
    obtain ⟨i, j, e1, e2⟩ := cmp_ord ho e
    obtain rfl := hx i e1
    obtain rfl : w = .int j := rep_int (e2 ▸ ky.seen s2)
    rw [e1, e2] at e
    refine ⟨.int i, .int j, k, .int i, .int j, e, k, rfl, ?_⟩
    rw [e1, e2, e] at h
    cases k with
    | false =>
      obtain ⟨G3, env, I, q⟩ := h
      exact q _ G3 H2 (Grow.refl I.sub) (Rep.bl _)
    | true =>
      refine tR_one (f := fun z => cmpE o' (.int j) z.see >>= fun k' => .ok (.im (.bl k'))) h (fun z c q => ?_) fun G3 H3 w2 z z' s3 kz e3 q => ?_
      · cases e4 : cmpE o' (.int j) z.see with
        | no => rw [e4] at q; cases q
        | ex c => exact absurd e4 cmpE_ex
        | ok k => rw [e4] at q; cases q
      · cases e4 : cmpE o' (.int j) z.see with
        | no => rw [e4] at e3; cases e3
        | ex c => exact absurd e4 cmpE_ex
        | ok k =>
          rw [e4] at e3
          cases e3
          exact ⟨.int j, z.see, k, .int j, kz.seen s3, e4, q _ G3 H3 (Grow.refl s3) (Rep.bl _)⟩
theorem cb_chain {o o' : CO} {a b c : Expr} {pos : Pos} {ra rb rc : List Sl → Oc Rs} (ho : ordC o = true) (hK : X.K = U.K) (hu : X.A.units + 64 < cLine) (ha : PE X a (tR U W B ra)) (hb : PE X b (tR U W B rb)) (hc : PE X c (tR U W B rc)) :
    PE X (.Compare a [coOf o, coOf o'] [b, c] pos) (tR U W B fun env => ra env >>= fun x => rb env >>= fun y => cmpE o x.see y.see >>= fun k => if k then rc env >>= fun z => cmpE o' y.see z.see >>= fun k' => .ok (.im (.bl k')) else .ok (.im (.bl false))) :=
  PE.weak (pe_chain (op_cmp o hK hu) (op_cmp o' hK hu) ha hb hc (lastM o o' b c)) fun σ H Q h => tR_chain ho h
theorem cb_tchain {o o' : CO} {a b c : Expr} {pos : Pos} {ra rb rc : List Sl → Oc Rs} (ho : ordC o = true) (hK : X.K = U.K) (hu : X.A.units + 64 < cLine) (ha : PE X a (tR U W B ra)) (hb : PE X b (tR U W B rb)) (hc : PE X c (tR U W B rc)) :
    PT X (.Compare a [coOf o, coOf o'] [b, c] pos) (tBo U W B (asB fun env => ra env >>= fun x => rb env >>= fun y => cmpE o x.see y.see >>= fun k => if k then rc env >>= fun z => cmpE o' y.see z.see >>= fun k' => .ok (.im (.bl k')) else .ok (.im (.bl false)))) :=
  PT.weak (pt_chain (op_cmp o hK hu) (op_cmp o' hK hu) ha hb hc (lastM o o' b c)) fun σ H Q h => tTest_of h fun Q h => tR_chain ho h
/-! is None -/
theorem rep_non {H : Hp} {x : V} {t : Tr} (r : Rep U H x t) : decide (x = .non) = isNonT t := by
  cases r <;> rfl
theorem tR_isN {ra : List Sl → Oc Rs} {g : Bool → Bool} {σ : L2.St} {H : Hp} {Q : VK}
    (h : tR U W B (fun env => ra env >>= fun x => .ok (.im (.bl (g (isNonT x.see))))) σ H Q) : tR U W B ra σ H fun x H1 => Q (.bl (g (decide (x = .non)))) H1 :=
  tR_one (f := fun x => .ok (.im (.bl (g (isNonT x.see))))) h (fun x c z => by cases z) fun G H1 v x z s k e q => by
    cases e
    have e := rep_non (k.seen s)
    rw [e]
    exact q _ G H1 (Grow.refl s) (Rep.bl _)
theorem cb_isN {a : Expr} {j : Nat} {pos p2 : Pos} {ra : List Sl → Oc Rs} (ha : PE X a (tR U W B ra)) :
    PE X (.Compare a [.Is] [.Constant .none j p2] pos) (tR U W B fun env => ra env >>= fun x => .ok (.im (.bl (isNonT x.see)))) :=
  PE.weak (pe_cmpR op_isN ha pe_non (nomark _)) fun σ H Q h => tR_one (f := fun x => .ok (.im (.bl (isNonT x.see)))) h (fun x c z => by cases z) fun G H1 v x z s k e q => by
    cases e
    refine ⟨rfl, ?_⟩
    rw [rep_non (k.seen s)]
    exact q _ G H1 (Grow.refl s) (Rep.bl _)
theorem cb_notN {a : Expr} {j : Nat} {pos p2 : Pos} {ra : List Sl → Oc Rs} (ha : PE X a (tR U W B ra)) :
    PE X (.Compare a [.IsNot] [.Constant .none j p2] pos) (tR U W B fun env => ra env >>= fun x => .ok (.im (.bl (!isNonT x.see)))) :=
  PE.weak (pe_cmpR op_notN ha pe_non (nomark _)) fun σ H Q h => tR_one (f := fun x => .ok (.im (.bl (!isNonT x.see)))) h (fun x c z => by cases z) fun G H1 v x z s k e q => by
    cases e
    refine ⟨rfl, ?_⟩
    rw [rep_non (k.seen s)]
    exact q _ G H1 (Grow.refl s) (Rep.bl _)
theorem cb_tisN {a : Expr} {j : Nat} {pos p2 : Pos} {ra : List Sl → Oc Rs} (ha : PE X a (tR U W B ra)) :
    PT X (.Compare a [.Is] [.Constant .none j p2] pos) (tBo U W B (asB fun env => ra env >>= fun x => .ok (.im (.bl (isNonT x.see))))) :=
  PT.weak (pt_cmpR op_isN ha pe_non (nomark _)) fun σ H Q h => tTest_of h fun Q h => tR_one (f := fun x => .ok (.im (.bl (isNonT x.see)))) h (fun x c z => by cases z) fun G H1 v x z s k e q => by
    cases e
    refine ⟨rfl, ?_⟩
    rw [rep_non (k.seen s)]
    exact q _ G H1 (Grow.refl s) (Rep.bl _)
theorem cb_tnotN {a : Expr} {j : Nat} {pos p2 : Pos} {ra : List Sl → Oc Rs} (ha : PE X a (tR U W B ra)) :
    PT X (.Compare a [.IsNot] [.Constant .none j p2] pos) (tBo U W B (asB fun env => ra env >>= fun x => .ok (.im (.bl (!isNonT x.see))))) :=
  PT.weak (pt_cmpR op_notN ha pe_non (nomark _)) fun σ H Q h => tTest_of h fun Q h => tR_one (f := fun x => .ok (.im (.bl (!isNonT x.see)))) h (fun x c z => by cases z) fun G H1 v x z s k e q => by
    cases e
    refine ⟨rfl, ?_⟩
    rw [rep_non (k.seen s)]
    exact q _ G H1 (Grow.refl s) (Rep.bl _)
/-! in -/
theorem itemsOf_ok {t : Tr} {xs : List Tr} (h : itemsOf t = .ok xs) : t = .lst xs ∨ t = .tup xs := by
  cases t <;> simp [itemsOf] at h
  · exact .inr (by rw [h])
  · exact .inl (by rw [h])
theorem itemsOf_ex {t : Tr} {c : Nat} : itemsOf t ≠ .ex c := by cases t <;> simp [itemsOf]
theorem rep_flat {H : Hp} {x : V} {t : Tr} (r : Rep U H x t) : t.flat = flatV x := by cases r <;> rfl
theorem repL_flat {H : Hp} : ∀ {xs : List V} {ts : List Tr}, RepL U H xs ts → ts.all Tr.flat = xs.all flatV
  | _, _, .nil => rfl
  | _, _, .cons r t => by rw [List.all_cons, List.all_cons, rep_flat r, repL_flat t]
theorem rep_eqF {H : Hp} {x y : V} {a b : Tr} (r : Rep U H x a) (q : Rep U H y b) : eqFlat a b = eqV x y := by
  cases r <;> cases q <;> rfl
theorem repL_any {H : Hp} {x : V} {a : Tr} (r : Rep U H x a) : ∀ {xs : List V} {ts : List Tr}, RepL U H xs ts → (ts.any fun y => eqFlat y a) = inV x xs
  | _, _, .nil => rfl
  | _, _, .cons q t => by
    have ih := repL_any r t
    unfold inV at ih ⊢
    rw [List.any_cons, List.any_cons, rep_eqF q r, ih]
theorem isinE_ex {n : Bool} {a b : Tr} {c : Nat} : isinE n a b ≠ .ex c := by
  unfold isinE
  intro h
  cases e : itemsOf b with
  | no => rw [e] at h; cases h
  | ex c => exact itemsOf_ex e
  | ok xs =>
    rw [e, Oc.ok_bind] at h
    split at h <;> cases h
theorem isin_rep {K : PySem.W.Frag} (hK : K = U.K) {n : Bool} {H : Hp} {x y : V} {a b : Tr} {k : Bool} (r1 : Rep U H x a) (r2 : Rep U H y b) (e : isinE n a b = .ok k) (Q : VK) (q : Q (.bl k) H) : rIn K n x y H Q := by
  unfold isinE at e
  cases e2 : itemsOf b with
  | no => rw [e2] at e; cases e
  | ex c => rw [e2] at e; cases e
  | ok xs =>
    rw [e2, Oc.ok_bind] at e
    split at e
    · rename_i hf
      rw [Bool.and_eq_true] at hf
      cases e
      have fin : ∀ {vs : List V}, RepL U H vs xs → flatV x = true ∧ vs.all flatV = true ∧ Q (.bl (if n then !inV x vs else inV x vs)) H := fun {vs} r => by
        refine ⟨by rw [← rep_flat r1]; exact hf.1, by rw [← repL_flat r]; exact hf.2, ?_⟩
        rw [← repL_any r1 r]
        exact q
      rcases itemsOf_ok e2 with rfl | rfl
      · cases r2 with
        | lst h1 h2 =>
          obtain ⟨f1, f2, f3⟩ := fin h2
          exact ⟨_, _, rfl, .inl (hK ▸ h1), f1, f2, f3⟩
      · cases r2 with
        | tup h1 h2 =>
          obtain ⟨f1, f2, f3⟩ := fin h2
          rw [hK]
          exact ⟨_, _, rfl, .inr h1, f1, f2, f3⟩
    · cases e
def inOf : Bool → CmpOp
  | false => .In
  | true => .NotIn
theorem op_isin (n : Bool) : OpR X (compareOp (inOf n)) (rIn X.K n) := by
  cases n with
  | false => exact op_in_seq
  | true => exact op_notIn_seq
theorem cb_isin {n : Bool} {a b : Expr} {pos : Pos} {ra rb : List Sl → Oc Rs} (hK : X.K = U.K) (hm : behindInMarks (inOf n) b = false) (ha : PE X a (tR U W B ra)) (hb : PE X b (tR U W B rb)) :
    PE X (.Compare a [inOf n] [b] pos) (tR U W B fun env => ra env >>= fun x => rb env >>= fun y => isinE n x.see y.see >>= fun b => .ok (.im (.bl b))) :=
  PE.weak (pe_cmpR (op_isin n) ha hb hm) fun σ H Q h => tR_cmp (fun _ _ _ => isinE_ex) (fun H x y a b k r1 r2 e Q q => isin_rep hK r1 r2 e Q q) h
theorem cb_tisin {n : Bool} {a b : Expr} {pos : Pos} {ra rb : List Sl → Oc Rs} (hK : X.K = U.K) (hm : behindInMarks (inOf n) b = false) (ha : PE X a (tR U W B ra)) (hb : PE X b (tR U W B rb)) :
    PT X (.Compare a [inOf n] [b] pos) (tBo U W B (asB fun env => ra env >>= fun x => rb env >>= fun y => isinE n x.see y.see >>= fun b => .ok (.im (.bl b)))) :=
  PT.weak (pt_cmpR (op_isin n) ha hb hm) fun σ H Q h => tTest_of h fun Q h => tR_cmp (fun _ _ _ => isinE_ex) (fun H x y a b k r1 r2 e Q q => isin_rep hK r1 r2 e Q q) h

/-! ### argument lists -/
theorem tAr_nil {σ : L2.St} {H : Hp} {Q : List V → Hp → Prop} (h : tAr U W B (fun _ => .ok []) σ H Q) : Q [] H := by
  obtain ⟨G, env, I, h⟩ := h
  exact h [] G H (Grow.refl I.sub) .nil
theorem tAr_cons {r : List Sl → Oc Rs} {rs : List Sl → Oc (List Tr)} {σ : L2.St} {H : Hp} {Q : List V → Hp → Prop}
    (h : tAr U W B (fun env => r env >>= Rs.fz >>= fun t => rs env >>= fun ts => .ok (t :: ts)) σ H Q) : tCons (tR U W B r) (tAr U W B rs) σ H Q := by
  obtain ⟨G, env, I, h⟩ := h
  have h : PostL U W (r env >>= Rs.fz >>= fun t => rs env >>= fun ts => .ok (t :: ts)) G H σ Q := h
  refine tR_fz ⟨G, env, I, ?_⟩
  show PostT U W (r env >>= Rs.fz) G H σ _
  unfold PostT
  cases e : (r env >>= Rs.fz) with
  | no => rw [e] at h; exact h
  | ex c => rw [e] at h; exact h
  | ok t =>
    rw [e, Oc.ok_bind] at h
    intro v G1 H1 g1 k1
    refine ⟨G1, env, I.later g1, ?_⟩
    unfold PostL at h ⊢
    cases e2 : rs env with
    | no => rw [e2] at h; exact h
    | ex c => rw [e2] at h; exact fun G' H' g => h G' H' (g1.trans g)
    | ok ts => rw [e2] at h; exact fun vs G2 H2 g2 k2 => h (v :: vs) G2 H2 (g1.trans g2) (.cons (k1.mono g2.gg) k2)
theorem cb_nil : PA X [] (tAr U W B fun _ => .ok []) := PA.weak pa_nil fun _ _ _ h => tAr_nil h
theorem cb_cons {e : Expr} {es : List Expr} {r : List Sl → Oc Rs} {rs : List Sl → Oc (List Tr)} (h1 : PE X e (tR U W B r)) (h2 : PA X es (tAr U W B rs)) (hs : starEach (e :: es) X.env = (false, eval e X.env) :: starEach es X.env) :
    PA X (e :: es) (tAr U W B fun env => r env >>= Rs.fz >>= fun t => rs env >>= fun ts => .ok (t :: ts)) := PA.weak (pa_cons h1 h2 hs) fun _ _ _ h => tAr_cons h
/-! arguments looked at -/
inductive RsL (U : Uni) (B G' H' H : Hp) : List V → List Rs → Prop
  | nil : RsL U B G' H' H [] []
  | cons {v : V} {vs : List V} {r : Rs} {rs : List Rs} : RsOk U B G' H' H v r → RsL U B G' H' H vs rs → RsL U B G' H' H (v :: vs) (r :: rs)
theorem RsL.from {G H G1 H1 G2 H2 : Hp} (s : Same G H) (g1 : Grow G H G1 H1) : ∀ {vs : List V} {rs : List Rs}, RsL U B G2 H2 H1 vs rs → RsL U B G2 H2 H vs rs
  | _, _, .nil => .nil
  | _, _, .cons a b => .cons (a.from s g1) (RsL.from s g1 b)
def tAb (U : Uni) (W : WX) (B : Hp) (r : List Sl → Oc (List Rs)) : TA := fun σ H Q => ∃ G env, EnvOk U B G H env σ ∧
  match r env with
  | .no => False
  | .ex c => ∀ G' H', Grow G H G' H' → W (.ref (U.exc c)) none σ H'
  | .ok ts => ∀ vs G' H', Grow G H G' H' → RsL U B G' H' H vs ts → Q vs H'
theorem tAb_nil {σ : L2.St} {H : Hp} {Q : List V → Hp → Prop} (h : tAb U W B (fun _ => .ok []) σ H Q) : Q [] H := by
  obtain ⟨G, env, I, h⟩ := h
  exact h [] G H (Grow.refl I.sub) .nil
theorem tAb_cons {r : List Sl → Oc Rs} {rs : List Sl → Oc (List Rs)} {σ : L2.St} {H : Hp} {Q : List V → Hp → Prop}
    (h : tAb U W B (fun env => r env >>= fun t => rs env >>= fun ts => .ok (t :: ts)) σ H Q) : tCons (tR U W B r) (tAb U W B rs) σ H Q := by
  obtain ⟨G, env, I, h⟩ := h
  dsimp only at h
  refine ⟨G, env, I, ?_⟩
  unfold Post
  cases e : r env with
  | no => rw [e] at h; exact h
  | ex c => rw [e] at h; exact h
  | ok t =>
    rw [e, Oc.ok_bind] at h
    intro v G1 H1 g1 k1
    refine ⟨G1, env, I.later g1, ?_⟩
    cases e2 : rs env with
    | no => rw [e2] at h; exact h
    | ex c => rw [e2] at h; exact fun G' H' g => h G' H' (g1.trans g)
    | ok ts => rw [e2] at h; exact fun vs G2 H2 g2 k2 => h (v :: vs) G2 H2 (g1.trans g2) (.cons (k1.later I.sub g1 g2) (k2.from I.sub g1))
theorem cb_bnil : PA X [] (tAb U W B fun _ => .ok []) := PA.weak pa_nil fun _ _ _ h => tAb_nil h
theorem cb_bcons {e : Expr} {es : List Expr} {r : List Sl → Oc Rs} {rs : List Sl → Oc (List Rs)} (h1 : PE X e (tR U W B r)) (h2 : PA X es (tAb U W B rs)) (hs : starEach (e :: es) X.env = (false, eval e X.env) :: starEach es X.env) :
    PA X (e :: es) (tAb U W B fun env => r env >>= fun t => rs env >>= fun ts => .ok (t :: ts)) := PA.weak (pa_cons h1 h2 hs) fun _ _ _ h => tAb_cons h

/-! ### displays -/
theorem tAr_disp {r : List Sl → Oc (List Tr)} {z : List Tr → Rs} {σ : L2.St} {H : Hp} {Q : VK} {t : List V → Hp → Prop}
    (h : tR U W B (fun env => r env >>= fun ts => if sizeOk ts.length then .ok (z ts) else .no) σ H Q)
    (hop : ∀ G H1 vs ts, Same G H1 → RepL U G vs ts → ts.length ≤ sizeLine → (∀ v G' H', Grow G H1 G' H' → RsOk U B G' H' H1 v (z ts) → Q v H') → t vs H1) : tAr U W B r σ H t := by
  obtain ⟨G, env, I, h⟩ := h
  have h : Post U W B (r env >>= fun ts => if sizeOk ts.length then .ok (z ts) else .no) G H σ Q := h
  refine ⟨G, env, I, ?_⟩
  unfold PostL
  cases e : r env with
  | no => rw [e] at h; exact h
  | ex c => rw [e] at h; exact h
  | ok ts =>
    rw [e, Oc.ok_bind] at h
    intro vs G1 H1 g1 k1
    split at h
    · rename_i hs
      exact hop G1 H1 vs ts g1.gh k1 (sizeOk_le hs) fun v G' H' g k => h v G' H' (g1.trans g) (k.from I.sub g1)
    · exact h.elim
theorem cb_tup {es : List Expr} {k : Nat} {pos : Pos} {rs : List Sl → Oc (List Tr)} (h : PA X es (tAr U W B rs)) :
    PE X (.Tuple es k pos) (tR U W B fun env => rs env >>= fun ts => if sizeOk ts.length then .ok (.im (.tup ts)) else .no) :=
  PE.weak (pe_tup h) fun σ H Q h => tAr_disp (z := fun ts => .im (.tup ts)) h fun G H1 vs ts s r hs q => ⟨by rw [r.length]; exact hs, fun p hp => by
    have g := Grow.made (o := .tup vs) s hp
    exact q _ _ _ g (Rep.tup (.inl (.inl upd_same)) (r.mono g.gg))⟩
theorem cb_lst {es : List Expr} {pos : Pos} {rs : List Sl → Oc (List Tr)} (h : PA X es (tAr U W B rs)) :
    PE X (.List es pos) (tR U W B fun env => rs env >>= fun ts => if sizeOk ts.length then .ok (.ow ts) else .no) :=
  PE.weak (pe_lst h) fun σ H Q h => tAr_disp (z := fun ts => .ow ts) h fun G H1 vs ts s r hs q => ⟨by rw [r.length]; exact hs, fun p hp => by
    have hg : G p = none := by
      cases z : G p with
      | none => rfl
      | some o => rw [s p o z] at hp; cases hp
    exact q _ _ _ (Grow.made0 s hp) ⟨p, vs, rfl, hp, hg, upd_same, r⟩⟩

/-! ### subscripts -/
theorem atI_rep {G : Hp} {vs : List V} {ts : List Tr} {i : Int} {t : Tr} (r : RepL U G vs ts) (h : atI ts i = some t) : ∃ v, atI vs i = some v ∧ Rep U G v t := by
  unfold atI at h ⊢
  rw [r.length]
  cases e : ixN ts.length i with
  | none => rw [e] at h; cases h
  | some j =>
    rw [e] at h
    exact r.get h
theorem zip_rep {G : Hp} : ∀ {ks : List Int} {vs : List V} {ts : List Tr} {i : Int} {t : Tr}, RepL U G vs ts → (ks.zip ts).lookup i = some t → ∃ v, (ks.zip vs).lookup i = some v ∧ Rep U G v t
  | [], _, _, _, _, _, h => by simp at h
  | k :: ks, _, _, _, _, .nil, h => by simp at h
  | k :: ks, _, _, i, t, .cons r rr, h => by
    rw [List.zip_cons_cons, List.lookup_cons] at h
    rw [List.zip_cons_cons, List.lookup_cons]
    cases hk : i == k with
    | true => rw [hk] at h; cases h; exact ⟨_, rfl, r⟩
    | false => rw [hk] at h; exact zip_rep rr h
def rIxD (U : Uni) : R2 := fun x y H Q => ∃ a ks vs i v, x = .ref a ∧ y = .int i ∧ KDi U a ks vs ∧ (ks.zip vs).lookup i = some v ∧ Q v H
def rIxA (U : Uni) (K : PySem.W.Frag) : R2 := fun x y H Q => rIxL K x y H Q ∨ rIxT K x y H Q ∨ rIxD U x y H Q
/-- a written dict may be subscripted -/
def DctOk (U : Uni) (X : Cx) : Prop := IxR X (rIxD U)
theorem ixE_ex {a b : Tr} {c : Nat} : ixE a b ≠ .ex c := by
  unfold ixE
  split <;> (try split) <;> intro h <;> cases h
theorem cb_ix {a b : Expr} {pos : Pos} {ra rb : List Sl → Oc Rs} (hK : X.K = U.K) (hd : DctOk U X) (hs : PlainIx b) (ha : PE X a (tR U W B ra)) (hb : PE X b (tR U W B rb)) :
    PE X (.Subscript a b pos) (tR U W B fun env => ra env >>= fun x => rb env >>= fun y => ixE x.see y.see >>= fun t => .ok (.im t)) :=
  PE.weak (pe_ix (r := rIxA U X.K) (ix_list.or (ix_tup.or hd)) ha hb hs) fun σ H Q h => tR_two h (fun x y c => by cases e : ixE x.see y.see <;> simp [e] <;> exact fun z => ixE_ex (z ▸ e)) fun G H2 v w x y z s kx ky e q => by
    cases e2 : ixE x.see y.see with
    | no => rw [e2] at e; cases e
    | ex c => rw [e2] at e; cases e
    | ok t =>
      rw [e2] at e
      cases e
      unfold ixE at e2
      split at e2
      · rename_i xs i e3 e4
        split at e2
        · rename_i t' e5
          cases e2
          obtain ⟨_, p, vs, rfl, hg, hh, r⟩ := kx.tuple s e3
          obtain ⟨v, h1, h2⟩ := atI_rep r e5
          refine .inr (.inl ⟨p, vs, i, v, rfl, ky.int e4, ?_, h1, q v G H2 (Grow.refl s) h2⟩)
          rw [hK]; exact hh
        · cases e2
      · rename_i xs i e3 e4
        split at e2
        · rename_i t' e5
          cases e2
          obtain ⟨p, vs, rfl, hh, r⟩ := kx.list s e3
          obtain ⟨v, h1, h2⟩ := atI_rep r e5
          exact .inl ⟨p, vs, i, v, rfl, ky.int e4, hK ▸ hh, h1, q v G H2 (Grow.refl s) h2⟩
        · cases e2
      · rename_i ks ts i e3 e4
        split at e2
        · rename_i t' e5
          cases e2
          cases x with
          | im t2 =>
            have e3 : t2 = .dct ks ts := e3
            subst e3
            cases kx with
            | dct h1 h2 h3 =>
              obtain ⟨v, h4, h5⟩ := zip_rep h3 e5
              exact .inr (.inr ⟨_, ks, _, i, v, rfl, ky.int e4, h1, h4, q v G H2 (Grow.refl s) h5⟩)
          | ow xs => cases e3
          | br xs => cases e3
        · cases e2
      · cases e2
end
end PF

namespace PF
open PySem PySem.Spec PyProof.Rows L2
section
variable {U : Uni} {W : WX} {B : Hp} {X : Cx}
theorem ghost_none {G H : Hp} (s : Same G H) {p : Addr} (hp : H p = none) : G p = none := by
  cases z : G p with
  | none => rfl
  | some o => rw [s p o z] at hp; cases hp
/-! ### slices -/
def tPo (U : Uni) (W : WX) (B : Hp) (r : List Sl → Oc (Option Int)) : TO := fun σ H Q => ∃ G env, EnvOk U B G H env σ ∧
  match r env with
  | .no => False
  | .ex c => ∀ G' H', Grow G H G' H' → W (.ref (U.exc c)) none σ H'
  | .ok o => ∀ G' H', Grow G H G' H' → Q o H'
theorem PO.weak {e : Option Expr} {t t' : TO} (h : PO X e t) (hw : ∀ σ H Q, t' σ H Q → t σ H Q) : PO X e t' := ⟨fun pins s σ H Q I q => h.run pins s σ H Q I (hw _ _ _ q)⟩
theorem cb_po0 : PO X none (tPo U W B fun _ => .ok none) := PO.weak po_none fun σ H Q ⟨G, env, I, h⟩ => h G H (Grow.refl I.sub)
theorem cb_po1 {e : Expr} {r : List Sl → Oc Rs} (h : PE X e (tR U W B r)) : PO X (some e) (tPo U W B fun env => r env >>= fun l => oInt l.see >>= fun i => .ok (some i)) :=
  PO.weak (po_some h) fun σ H Q ⟨G, env, I, h⟩ => by
    refine ⟨G, env, I, ?_⟩
    dsimp only at h
    unfold Post
    cases e : r env with
    | no => rw [e] at h; exact h
    | ex c => rw [e] at h; exact h
    | ok x =>
      rw [e, Oc.ok_bind] at h
      intro v G1 H1 g1 k1
      cases e2 : oInt x.see with
      | no => rw [e2] at h; exact h.elim
      | ex c => exact absurd e2 oInt_ex
      | ok i => rw [e2] at h; exact ⟨i, k1.int (oInt_ok e2), h G1 H1 g1⟩
def rSlB2 (K : PySem.W.Frag) : V → Option Int → Option Int → Hp → VK → Prop := fun x lo hi H Q => rSlL K x lo hi H Q ∨ rSlA K x lo hi H Q
theorem slE_ex {t : Tr} {l h : Option Int} {c : Nat} : slE t l h ≠ .ex c := by
  unfold slE
  split <;> intro h <;> cases h
theorem cb_sl {a : Expr} {lo hi : Option Expr} {pos p2 : Pos} {ra : List Sl → Oc Rs} {rl rh : List Sl → Oc (Option Int)} (hK : X.K = U.K) (ha : PE X a (tR U W B ra)) (hl : PO X lo (tPo U W B rl)) (hh : PO X hi (tPo U W B rh)) :
    PE X (.Subscript a (.Slice lo hi none p2) pos) (tR U W B fun env => ra env >>= fun x => rl env >>= fun l => rh env >>= fun h => slE x.see l h) :=
  PE.weak (pe_slice (r := rSlB2 X.K) (sl_list.or sl_tupA) ha hl hh) fun σ H Q ⟨G, env, I, h⟩ => by
    refine ⟨G, env, I, ?_⟩
    have h : Post U W B (ra env >>= fun x => rl env >>= fun l => rh env >>= fun h => slE x.see l h) G H σ Q := h
    unfold Post
    cases e : ra env with
    | no => rw [e] at h; exact h
    | ex c => rw [e] at h; exact h
    | ok x =>
      rw [e, Oc.ok_bind] at h
      intro v G1 H1 g1 k1
      refine ⟨G1, env, I.later g1, ?_⟩
      cases e2 : rl env with
      | no => rw [e2] at h; exact h
      | ex c => rw [e2] at h; exact fun G' H' g => h G' H' (g1.trans g)
      | ok l =>
        rw [e2, Oc.ok_bind] at h
        intro G2 H2 g2
        refine ⟨G2, env, I.later (g1.trans g2), ?_⟩
        cases e3 : rh env with
        | no => rw [e3] at h; exact h
        | ex c => rw [e3] at h; exact fun G' H' g => h G' H' ((g1.trans g2).trans g)
        | ok l2 =>
          rw [e3, Oc.ok_bind] at h
          intro G3 H3 g3
          have g13 := (g1.trans g2).trans g3
          have s := g3.gh
          have k := k1.later I.sub g1 (g2.trans g3)
          unfold slE at h
          split at h
          · rename_i xs e4
            obtain ⟨p, vs, rfl, hv, r⟩ := k.list s e4
            refine .inl ⟨p, vs, rfl, hK ▸ hv, fun q hq => ?_⟩
            exact h _ G3 _ (g13.trans (Grow.made0 s hq)) ⟨q, _, rfl, g13.there I.sub hq, ghost_none s hq, upd_same, r.cut l l2⟩
          · rename_i xs e4
            obtain ⟨_, p, vs, rfl, gv, hv, r⟩ := k.tuple s e4
            rw [← hK] at hv
            refine .inr ⟨p, vs, rfl, hv, fun hw => ?_, fun hw q hq => ?_⟩
            · have ec : cutT xs l l2 = xs := by
                unfold cutT
                rw [r.length] at hw
                rw [hw.1, hw.2]
                simp
              rw [ec] at h
              exact h _ G3 H3 g13 (Rep.tup gv r)
            · have g := Grow.made (o := .tup (cutV vs l l2)) s hq
              exact h _ _ _ (g13.trans g) (Rep.tup (.inl (.inl upd_same)) ((r.cut l l2).mono g.gg))
          · exact h.elim

theorem revE_ex {t : Tr} {c : Nat} : revE t ≠ .ex c := by
  unfold revE
  split <;> intro h <;> cases h
theorem cb_rev {a : Expr} {k : Nat} {p1 p2 p3 pos : Pos} {ra : List Sl → Oc Rs} (hK : X.K = U.K) (ha : PE X a (tR U W B ra)) :
    PE X (.Subscript a (.Slice none none (some (.UnaryOp .USub (.Constant (.int 1) k p1) p2)) p3) pos) (tR U W B fun env => ra env >>= fun x => revE x.see) :=
  PE.weak (pe_revL ha) fun σ H Q h => tR_one (f := fun x => revE x.see) h (fun x c => revE_ex) fun G H1 v x z s kx e q => by
    unfold revE at e
    split at e
    · rename_i xs e4
      cases e
      obtain ⟨p, vs, rfl, hv, r⟩ := kx.list s e4
      exact ⟨p, vs, rfl, hK ▸ hv, fun b hb => q _ G _ (Grow.made0 s hb) ⟨b, _, rfl, hb, ghost_none s hb, upd_same, r.reverse⟩⟩
    · cases e
theorem isBE_ex {n b : Bool} {t : Tr} {c : Nat} : isBE n b t ≠ .ex c := by
  unfold isBE
  split <;> intro h <;> cases h
theorem isBE_ok {n b : Bool} {t : Tr} {z : Rs} (h : isBE n b t = .ok z) : ∃ k, t = .bl k ∧ z = .im (.bl (if n then !decide (k = b) else decide (k = b))) := by
  unfold isBE at h
  split at h
  · rename_i k
    cases h
    exact ⟨k, rfl, rfl⟩
  · cases h
theorem cb_isB {a : Expr} {b : Bool} {j : Nat} {p2 pos : Pos} {ra : List Sl → Oc Rs} (ha : PE X a (tR U W B ra)) :
    PE X (.Compare a [.Is] [.Constant (.bool b) j p2] pos) (tR U W B fun env => ra env >>= fun x => isBE false b x.see) :=
  PE.weak (pe_cmpR op_isBl ha pe_bl (nomark _)) fun σ H Q h => tR_one (f := fun x => isBE false b x.see) h (fun x c => isBE_ex) fun G H1 v x z s kx e q => by
    obtain ⟨k, e4, rfl⟩ := isBE_ok e
    have e5 := kx.seen s
    rw [e4] at e5
    cases e5
    exact ⟨k, b, rfl, rfl, q _ G H1 (Grow.refl s) (Rep.bl _)⟩
theorem cb_isnB {a : Expr} {b : Bool} {j : Nat} {p2 pos : Pos} {ra : List Sl → Oc Rs} (ha : PE X a (tR U W B ra)) :
    PE X (.Compare a [.IsNot] [.Constant (.bool b) j p2] pos) (tR U W B fun env => ra env >>= fun x => isBE true b x.see) :=
  PE.weak (pe_cmpR op_notBl ha pe_bl (nomark _)) fun σ H Q h => tR_one (f := fun x => isBE true b x.see) h (fun x c => isBE_ex) fun G H1 v x z s kx e q => by
    obtain ⟨k, e4, rfl⟩ := isBE_ok e
    have e5 := kx.seen s
    rw [e4] at e5
    cases e5
    exact ⟨k, b, rfl, rfl, q _ G H1 (Grow.refl s) (Rep.bl _)⟩
theorem cb_tisB {a : Expr} {b : Bool} {j : Nat} {p2 pos : Pos} {ra : List Sl → Oc Rs} (ha : PE X a (tR U W B ra)) :
    PT X (.Compare a [.Is] [.Constant (.bool b) j p2] pos) (tBo U W B (asB fun env => ra env >>= fun x => isBE false b x.see)) :=
  PT.weak (pt_cmpR op_isBl ha pe_bl (nomark _)) fun σ H Q h => tTest_of h fun Q h => tR_one (f := fun x => isBE false b x.see) h (fun x c => isBE_ex) fun G H1 v x z s kx e q => by
    obtain ⟨k, e4, rfl⟩ := isBE_ok e
    have e5 := kx.seen s
    rw [e4] at e5
    cases e5
    exact ⟨k, b, rfl, rfl, q _ G H1 (Grow.refl s) (Rep.bl _)⟩
theorem cb_tisnB {a : Expr} {b : Bool} {j : Nat} {p2 pos : Pos} {ra : List Sl → Oc Rs} (ha : PE X a (tR U W B ra)) :
    PT X (.Compare a [.IsNot] [.Constant (.bool b) j p2] pos) (tBo U W B (asB fun env => ra env >>= fun x => isBE true b x.see)) :=
  PT.weak (pt_cmpR op_notBl ha pe_bl (nomark _)) fun σ H Q h => tTest_of h fun Q h => tR_one (f := fun x => isBE true b x.see) h (fun x c => isBE_ex) fun G H1 v x z s kx e q => by
    obtain ⟨k, e4, rfl⟩ := isBE_ok e
    have e5 := kx.seen s
    rw [e4] at e5
    cases e5
    exact ⟨k, b, rfl, rfl, q _ G H1 (Grow.refl s) (Rep.bl _)⟩
/-! ### calls -/
def CallP (U : Uni) (C : Ctx) (f : Nat) : Sp := fun vs H Q E => ∃ G ts, Same G H ∧ RepL U G vs ts ∧
  match C.call f ts with
  | .no => False
  | .ex c => ∀ G' H', Grow G H G' H' → E (.ref (U.exc c)) none H'
  | .ok r => r.isBr = false ∧ ∀ v G' H', Grow G H G' H' → RsOk U H G' H' H v r → Q v H'
theorem RsOk.base {G H H0 B' : Hp} {v : V} {r : Rs} (hb : r.isBr = false) (h : RsOk U B G H H0 v r) : RsOk U B' G H H0 v r := by
  cases r with
  | im t => exact h
  | ow xs => exact h
  | br xs => cases hb
def NoBr (C : Ctx) : Prop := ∀ f ts r, C.call f ts = .ok r → r.isBr = false
theorem post_call {C : Ctx} (nb : NoBr C) {f : Nat} {vs : List V} {ts : List Tr} {G H : Hp} {σ : L2.St} {Q : VK} (s : Same G H) (r : RepL U G vs ts) (h : Post U W B (C.call f ts) G H σ Q) : CallP U C f vs H Q (WE W σ) := by
  refine ⟨G, ts, s, r, ?_⟩
  unfold Post at h
  cases e : C.call f ts with
  | no => rw [e] at h; exact h
  | ex c => rw [e] at h; exact h
  | ok z =>
    rw [e] at h
    have nb := nb f ts z e
    exact ⟨nb, fun v G' H' g k => h v G' H' g (k.base nb)⟩
/-- what a value may be called as -/
def Callable (U : Uni) (C : Ctx) (W : WX) (X : Cx) (f : Nat) (u : Value) : Prop := PySem.W.keepIn X.K u = true ∧
  ∀ (pins : List (Addr × Obj)) (s : Shared) (σ : L2.St) (H : Hp) (us : List Value) (vs : List V) (Q : VK), Inv X pins σ H s → Vals vs us → CallP U C f vs H Q (WE W σ) → wpAny (model X.prog X.w) X.A (call u us) (EP X pins σ Q) X.xe s
/-- no star -/
def nostar : Expr → Bool
  | .Starred _ _ => false
  | _ => true
theorem star_cons {e : Expr} {es : List Expr} {env : Env} (h : nostar e = true) : starEach (e :: es) env = (false, eval e env) :: starEach es env := by
  cases e <;> first | rfl | cases h
theorem star_any : ∀ {es : List Expr} {env : Env} {pos : Pos}, es.all nostar = true → (backTo pos (starEach es env)).any (·.1) = false
  | [], _, _, _ => rfl
  | e :: es, env, pos, h => by
    rw [List.all_cons, Bool.and_eq_true] at h
    rw [star_cons h.1]
    have ih := star_any (es := es) (env := env) (pos := pos) h.2
    show (false || (backTo pos (starEach es env)).any (·.1)) = false
    rw [ih]
    rfl
theorem tAr_call {C : Ctx} (nb : NoBr C) {f : Nat} {rs : List Sl → Oc (List Tr)} {σ : L2.St} {H : Hp} {Q : VK} (h : tR U W B (fun env => rs env >>= fun ts => C.call f ts) σ H Q) : tAr U W B rs σ H fun vs H1 => CallP U C f vs H1 Q (WE W σ) := by
  obtain ⟨G, env, I, h⟩ := h
  refine ⟨G, env, I, ?_⟩
  have h : Post U W B (rs env >>= fun ts => C.call f ts) G H σ Q := h
  unfold PostL
  cases e : rs env with
  | no => rw [e] at h; exact h
  | ex c => rw [e] at h; exact h
  | ok ts =>
    rw [e, Oc.ok_bind] at h
    intro vs G1 H1 g1 r
    refine post_call (B := B) nb g1.gh r ?_
    unfold Post at h ⊢
    cases e2 : C.call f ts with
    | no => rw [e2] at h; exact h
    | ex c => rw [e2] at h; exact fun G' H' g => h G' H' (g1.trans g)
    | ok z => rw [e2] at h; exact fun v G' H' g k => h v G' H' (g1.trans g) (k.from I.sub g1)
theorem cb_call {C : Ctx} (nb : NoBr C) {f : Nat} {x : Str} {u : Value} {p pos : Pos} {e : Expr} {es : List Expr} {rs : List Sl → Oc (List Tr)} (hg : Gl X x) (hdb : (x == ("__debug__" : Str)) = false) (hm : X.mg x = some u) (hc : Callable U C W X f u)
    (hst : (e :: es).all nostar = true) (ha : PA X (e :: es) (tAr U W B rs)) : PE X (.Call (.Name x p) (e :: es) [] pos) (tR U W B fun env => rs env >>= fun ts => C.call f ts) := by
  refine ⟨fun pins s σ H Q I h => ?_⟩
  have h := tAr_call nb h
  refine wpAny_Call_Name_kw (ld_glob I hg hm ?_ hdb)
  rw [List.all_cons, Bool.and_eq_true] at hst
  exact PySem.W.callWith_K (first := []) (h₀ := X.base) I.ok.mod.kin hc.1 (thn (ha.run pos pins s σ H _ I h) fun us s1 ⟨vs, H1, I1, r, q⟩ => ⟨I1.kIn, hc.2 pins s1 σ H1 us vs Q I1 r q⟩) (star_cons hst.1) (star_any hst.2)
theorem cb_call0 {C : Ctx} (nb : NoBr C) {f : Nat} {x : Str} {u : Value} {p pos : Pos} (hg : Gl X x) (hdb : (x == ("__debug__" : Str)) = false) (hm : X.mg x = some u) (hc : Callable U C W X f u) :
    PE X (.Call (.Name x p) [] [] pos) (tR U W B fun env => (.ok [] : Oc (List Tr)) >>= fun ts => C.call f ts) := by
  refine ⟨fun pins s σ H Q I h => ?_⟩
  obtain ⟨G, env, I2, h⟩ := h
  refine wpAny_Call_Name_kw (ld_glob I hg hm ?_ hdb)
  exact PySem.W.callWith_K0 (first := []) I.kIn hc.1 (hc.2 pins s σ H [] [] Q I .nil (post_call (B := B) nb I2.sub .nil h))

/-! ### methods -/
structure MethOk (U : Uni) (X : Cx) (c : Nat) (m : Str) (fa : Addr) : Prop where
  cl : Cls X.K (U.cls c)
  me : Meth X.K (U.cls c) m fa
  no : m ∉ U.flds c
theorem lookup_zip_none {m : Str} : ∀ {ns : List Str} {vs : List V}, m ∉ ns → (ns.zip vs).lookup m = none
  | [], _, _ => by simp
  | n :: ns, [], _ => by simp
  | n :: ns, v :: vs, h => by
    rw [List.zip_cons_cons, List.lookup_cons]
    rw [List.mem_cons, not_or] at h
    rw [show (m == n) = false from beq_eq_false_iff_ne.mpr h.1]
    exact lookup_zip_none h.2
theorem lookup_zip_at {f : Str} : ∀ {ns : List Str} {vs : List V} {j : Nat} {v : V}, ns.Nodup → ns[j]? = some f → vs[j]? = some v → (ns.zip vs).lookup f = some v
  | [], _, _, _, _, h, _ => by simp at h
  | n :: ns, [], _, _, _, _, h => by simp at h
  | n :: ns, v :: vs, 0, w, _, h1, h2 => by
    simp at h1 h2
    subst h1 h2
    simp [List.lookup_cons]
  | n :: ns, v :: vs, j + 1, w, nd, h1, h2 => by
    rw [List.nodup_cons] at nd
    have h1 : ns[j]? = some f := by simpa using h1
    have h2 : vs[j]? = some w := by simpa using h2
    have hne : f ≠ n := fun z => nd.1 (z ▸ List.mem_of_getElem? h1)
    rw [List.zip_cons_cons, List.lookup_cons, show (f == n) = false from beq_eq_false_iff_ne.mpr hne]
    exact lookup_zip_at nd.2 h1 h2
/-- a receiver -/
theorem tR_recv {C : Ctx} (nb : NoBr C) {f c : Nat} {ro : List Sl → Oc Rs} {rs : List Sl → Oc (List Tr)} {σ : L2.St} {H : Hp} {Q : VK}
    (h : tR U W B (fun env => ro env >>= Rs.fz >>= fun t => if isIns c t then rs env >>= fun ts => C.call f (t :: ts) else .no) σ H Q) :
    tR U W B ro σ H fun x H1 => ∃ a dx vs, x = .ref a ∧ H1 a = some (.ins (U.cls c) dx ((U.flds c).zip vs)) ∧ tAr U W B rs σ H1 fun ws H2 => CallP U C f (.ref a :: ws) H2 Q (WE W σ) := by
  obtain ⟨G, env, I, h⟩ := h
  have h : Post U W B (ro env >>= Rs.fz >>= fun t => if isIns c t then rs env >>= fun ts => C.call f (t :: ts) else .no) G H σ Q := h
  refine tR_fz ⟨G, env, I, ?_⟩
  show PostT U W (ro env >>= Rs.fz) G H σ _
  unfold PostT
  cases e : (ro env >>= Rs.fz) with
  | no => rw [e] at h; exact h
  | ex c => rw [e] at h; exact h
  | ok t =>
    rw [e, Oc.ok_bind] at h
    intro v G1 H1 g1 k1
    split at h
    · rename_i hi
      cases t <;> first | cases hi | skip
      rename_i c' fs
      have hc : c = c' := by simpa [isIns] using hi
      subst hc
      have k1' := k1
      cases k1 with
      | ins h1 h2 h3 =>
        refine ⟨_, _, _, rfl, g1.gh _ _ h1, G1, env, I.later g1, ?_⟩
        unfold PostL
        cases e2 : rs env with
        | no => rw [e2] at h; exact h
        | ex c => rw [e2] at h; exact fun G' H' g => h G' H' (g1.trans g)
        | ok ts =>
          rw [e2, Oc.ok_bind] at h
          intro ws G2 H2 g2 r
          refine post_call (B := B) nb g2.gh (.cons (k1'.mono g2.gg) r) ?_
          have g12 := g1.trans g2
          unfold Post at h ⊢
          cases e3 : C.call f (.ins c fs :: ts) with
          | no => rw [e3] at h; exact h
          | ex c => rw [e3] at h; exact fun G' H' g => h G' H' (g12.trans g)
          | ok z => rw [e3] at h; exact fun v G' H' g k => h v G' H' (g12.trans g) (k.from I.sub g12)
    · exact h.elim
/-- not super() -/
def plainRecv : Expr → Bool
  | .Call (.Name _ _) [] [] _ => false
  | _ => true
theorem base_plain {o : Expr} {m : Str} {env : Env} {w : Sem Value} (h : plainRecv o = true) : attributeBase o m env w = w := by
  unfold attributeBase
  split
  · cases h
  · rfl
theorem meth_form {o : Expr} {m : Str} {apos pos : Pos} {args : List Expr} {env : Env} (ho : plainRecv o = true) (hp : (apos.endLine == pos.line) = true) (hs : args.all nostar = true) (hl : decide (args.length < 30) = true) :
    eval (.Call (.Attribute o m apos) args [] pos) env = (do
      let ov ← eval o env
      standAt apos.atName
      let (f, first) ← holding [ov] (getMethod ov m (do return (← importBound o env).getD true))
      callWith pos f first (backTo pos (starEach args env)) (backToKw pos (keywordEach [] env))) := by
  have hst : ∀ (es : List Expr), es.all nostar = true → (backTo pos (starEach es env)).all (fun x => !x.1) = true := by
    intro es h
    induction es with
    | nil => rfl
    | cons e es ih =>
      rw [List.all_cons, Bool.and_eq_true] at h
      rw [star_cons h.1]
      exact ih h.2
  have hf : methodCallForm (args.length + 0) (backTo pos (starEach args env)) (backToKw pos (keywordEach [] env)) = true := by
    unfold methodCallForm
    rw [hst args hs, show backToKw pos (keywordEach [] env) = [] from rfl]
    simpa using of_decide_eq_true hl
  show (do
    let ov ← attributeBase o m env (eval o env)
    standAt apos.atName
    methodCall o m apos pos env ov (args.length + 0) (backTo pos (starEach args env)) (backToKw pos (keywordEach [] env))) = _
  rw [base_plain ho]
  unfold methodCall
  rw [hf]
  have hpos : methodCallPos true o env apos pos = pure pos := by
    unfold methodCallPos
    rw [hp]
    rfl
  rw [hpos]
  rfl
theorem cb_meth {C : Ctx} (nb : NoBr C) {f c : Nat} {m : Str} {fa : Addr} {o e : Expr} {es : List Expr} {apos pos : Pos} {ro : List Sl → Oc Rs} {rs : List Sl → Oc (List Tr)} (mo : MethOk U X c m fa) (hc : Callable U C W X f (.ref fa))
    (ho : plainRecv o = true) (hp : (apos.endLine == pos.line) = true) (hl : decide ((e :: es).length < 30) = true)
    (hst : (e :: es).all nostar = true) (he : PE X o (tR U W B ro)) (ha : PA X (e :: es) (tAr U W B rs)) :
    PE X (.Call (.Attribute o m apos) (e :: es) [] pos) (tR U W B fun env => ro env >>= Rs.fz >>= fun t => if isIns c t then rs env >>= fun ts => C.call f (t :: ts) else .no) := by
  refine ⟨fun pins s σ H Q I h => ?_⟩
  have h := tR_recv nb h
  have hst' := hst
  rw [List.all_cons, Bool.and_eq_true] at hst'
  refine PySem.W.methodCall_KW (thn (he.run pins s σ H _ I h) fun u s1 ⟨x, H1, I1, rx, a, dx, vs, ex, ea, q⟩ => ?_) (meth_form ho hp hst hl)
  subst ex
  obtain rfl : u = Value.ref a := rx
  refine getmeth_ok I1 ea mo.cl mo.me (lookup_zip_none mo.no) ?_
  exact PySem.W.callWith_K (first := [.ref a]) (h₀ := X.base) I.ok.mod.kin hc.1 (thn (ha.run pos pins s1 σ H1 _ I1 q) fun us s2 ⟨vs, H2, I2, r, q2⟩ => ⟨I2.kIn, hc.2 pins s2 σ H2 (.ref a :: us) (.ref a :: vs) Q I2 (.cons rfl r) q2⟩) (star_cons hst'.1) (star_any hst'.2)
theorem cb_meth0 {C : Ctx} (nb : NoBr C) {f c : Nat} {m : Str} {fa : Addr} {o : Expr} {apos pos : Pos} {ro : List Sl → Oc Rs} (mo : MethOk U X c m fa) (hc : Callable U C W X f (.ref fa))
    (ho : plainRecv o = true) (hp : (apos.endLine == pos.line) = true) (he : PE X o (tR U W B ro)) :
    PE X (.Call (.Attribute o m apos) [] [] pos) (tR U W B fun env => ro env >>= Rs.fz >>= fun t => if isIns c t then (.ok [] : Oc (List Tr)) >>= fun ts => C.call f (t :: ts) else .no) := by
  refine ⟨fun pins s σ H Q I h => ?_⟩
  have h := tR_recv (rs := fun _ => .ok []) nb h
  refine PySem.W.methodCall_KW (thn (he.run pins s σ H _ I h) fun u s1 ⟨x, H1, I1, rx, a, dx, vs, ex, ea, q⟩ => ?_) (meth_form ho hp rfl rfl)
  subst ex
  obtain rfl : u = Value.ref a := rx
  refine getmeth_ok I1 ea mo.cl mo.me (lookup_zip_none mo.no) ?_
  exact PySem.W.callWith_K0 (first := [.ref a]) I1.kIn hc.1 (hc.2 pins s1 σ H1 [.ref a] [.ref a] Q I1 (.cons rfl .nil) (tAr_nil q))
/-! fields -/
structure FldOk (U : Uni) (X : Cx) (c j : Nat) (f : Str) : Prop where
  cl : Cls X.K (U.cls c)
  na : NoAttr X.K (U.cls c) f
  at_ : (U.flds c)[j]? = some f
  nd : (U.flds c).Nodup
theorem fldE_ex {c j : Nat} {t : Tr} {d : Nat} : fldE c j t ≠ .ex d := by
  unfold fldE
  split
  · split
    · split <;> intro h <;> cases h
    · intro h; cases h
  · intro h; cases h
theorem cb_fld {c j : Nat} {f : Str} {o : Expr} {pos : Pos} {ro : List Sl → Oc Rs} (fo : FldOk U X c j f) (ho : plainRecv o = true) (he : PE X o (tR U W B ro)) :
    PE X (.Attribute o f pos) (tR U W B fun env => ro env >>= fun x => fldE c j x.see >>= fun t => .ok (.im t)) :=
  PE.weak (pe_fld he (base_plain ho)) fun σ H Q h => tR_one h (fun x d => by cases e : fldE c j x.see <;> simp [e] <;> exact fun z => fldE_ex (z ▸ e)) fun G H1 v x z s k e q => by
    cases e2 : fldE c j x.see with
    | no => rw [e2] at e; cases e
    | ex c => rw [e2] at e; cases e
    | ok t =>
      rw [e2] at e
      cases e
      unfold fldE at e2
      split at e2
      · rename_i c' fs e3
        split at e2
        · rename_i hc
          subst hc
          split at e2
          · rename_i t' e4
            cases e2
            cases x with
            | im t2 =>
              have e3 : t2 = .ins c fs := e3
              subst e3
              cases k with
              | ins h1 h2 h3 =>
                obtain ⟨w, h4, h5⟩ := h3.get e4
                exact ⟨_, _, _, _, w, rfl, s _ _ h1, fo.cl, fo.na, lookup_zip_at fo.nd fo.at_ h4, q w G H1 (Grow.refl s) h5⟩
            | ow xs => cases e3
            | br xs => cases e3
          · cases e2
        · cases e2
      · cases e2
end
end PF

namespace PF
open PySem PySem.Spec PyProof.Rows L2
section
variable {U : Uni} {W : WX} {B : Hp} {X : Cx}
/-! ### built-ins -/
def blName : Bl → Str
  | .len => "len" | .abs => "abs" | .int => "int" | .max2 => "max" | .min2 => "min" | .list => "list" | .tuple => "tuple" | .sum => "sum" | .min1 => "min" | .max1 => "max" | .all => "all" | .any => "any"
def blVal : Bl → Value
  | .len => .builtin "len" | .abs => .builtin "abs" | .int => .type "int" | .max2 => .builtin "max" | .min2 => .builtin "min" | .list => .type "list" | .tuple => .type "tuple" | .sum => .builtin "sum" | .min1 => .builtin "min" | .max1 => .builtin "max"
  | .all => .builtin "all" | .any => .builtin "any"
/-- by values: the arguments are a built-in's -/
def rBl (U : Uni) (B : Hp) (b : Bl) : List V → Hp → VK → Prop := fun vs H Q => ∃ G H0 rs z, Same G H ∧ RsL U B G H H0 vs rs ∧ bltE b rs = .ok z ∧ ∀ v G' H', Grow G H G' H' → RsOk U B G' H' H v z → Q v H'
theorem asInts_rep {H : Hp} : ∀ {vs : List V} {ts : List Tr} {ns : List Int}, RepL U H vs ts → asInts ts = .ok ns → vs = ns.map V.int
  | _, _, _, .nil, h => by cases h; rfl
  | _, _, ns, .cons (t := t) r rr, h => by
    unfold asInts at h
    cases e : oInt t with
    | no => rw [e] at h; cases h
    | ex c => rw [e] at h; cases h
    | ok i =>
      rw [e, Oc.ok_bind] at h
      rename_i vs' v ts'
      cases e2 : asInts ts' with
      | no => rw [e2] at h; cases h
      | ex c => rw [e2] at h; cases h
      | ok is =>
        rw [e2] at h
        cases h
        have e' := oInt_ok e
        subst e'
        cases r
        rw [List.map_cons, asInts_rep rr e2]
theorem asBools_rep {H : Hp} : ∀ {vs : List V} {ts : List Tr} {ns : List Bool}, RepL U H vs ts → asBools ts = .ok ns → vs = ns.map V.bl
  | _, _, _, .nil, h => by cases h; rfl
  | _, _, ns, .cons (t := t) r rr, h => by
    unfold asBools at h
    cases e : oBool t with
    | no => rw [e] at h; cases h
    | ex c => rw [e] at h; cases h
    | ok i =>
      rw [e, Oc.ok_bind] at h
      rename_i vs' v ts'
      cases e2 : asBools ts' with
      | no => rw [e2] at h; cases h
      | ex c => rw [e2] at h; cases h
      | ok is =>
        rw [e2] at h
        cases h
        have e' := oBool_ok e
        subst e'
        cases r
        rw [List.map_cons, asBools_rep rr e2]
theorem asInts_ex : ∀ {ts : List Tr} {c : Nat}, asInts ts ≠ .ex c
  | [], _, h => by cases h
  | t :: ts, c, h => by
    unfold asInts at h
    cases e : oInt t with
    | no => rw [e] at h; cases h
    | ex c => exact oInt_ex e
    | ok i =>
      rw [e, Oc.ok_bind] at h
      cases e2 : asInts ts with
      | no => rw [e2] at h; cases h
      | ex c => exact asInts_ex e2
      | ok is => rw [e2] at h; cases h
theorem asBools_ex : ∀ {ts : List Tr} {c : Nat}, asBools ts ≠ .ex c
  | [], _, h => by cases h
  | t :: ts, c, h => by
    unfold asBools at h
    cases e : oBool t with
    | no => rw [e] at h; cases h
    | ex c => exact oBool_ex e
    | ok i =>
      rw [e, Oc.ok_bind] at h
      cases e2 : asBools ts with
      | no => rw [e2] at h; cases h
      | ex c => exact asBools_ex e2
      | ok is => rw [e2] at h; cases h
theorem minL_le : ∀ {ns : List Int} {y : Int}, y ∈ ns → minL ns ≤ y
  | [x], y, h => by simp at h; subst h; exact Int.le_refl _
  | x :: z :: r, y, h => by
    have ih := fun y h => minL_le (ns := z :: r) (y := y) h
    show min x (minL (z :: r)) ≤ y
    rcases List.mem_cons.mp h with rfl | h
    · exact Int.min_le_left _ _
    · exact Int.le_trans (Int.min_le_right _ _) (ih y h)
theorem minL_in : ∀ {ns : List Int}, ns ≠ [] → minL ns ∈ ns
  | [x], _ => by simp [minL]
  | x :: z :: r, _ => by
    have ih := minL_in (ns := z :: r) (by simp)
    show min x (minL (z :: r)) ∈ _
    rcases Int.le_total x (minL (z :: r)) with q | q
    · rw [Int.min_eq_left q]; exact List.mem_cons_self
    · rw [Int.min_eq_right q]; exact List.mem_cons_of_mem _ ih
theorem maxL_ge : ∀ {ns : List Int} {y : Int}, y ∈ ns → y ≤ maxL ns
  | [x], y, h => by simp at h; subst h; exact Int.le_refl _
  | x :: z :: r, y, h => by
    have ih := fun y h => maxL_ge (ns := z :: r) (y := y) h
    show y ≤ max x (maxL (z :: r))
    rcases List.mem_cons.mp h with rfl | h
    · exact Int.le_max_left _ _
    · exact Int.le_trans (ih y h) (Int.le_max_right _ _)
theorem maxL_in : ∀ {ns : List Int}, ns ≠ [] → maxL ns ∈ ns
  | [x], _ => by simp [maxL]
  | x :: z :: r, _ => by
    have ih := maxL_in (ns := z :: r) (by simp)
    show max x (maxL (z :: r)) ∈ _
    rcases Int.le_total x (maxL (z :: r)) with q | q
    · rw [Int.max_eq_right q]; exact List.mem_cons_of_mem _ ih
    · rw [Int.max_eq_left q]; exact List.mem_cons_self
theorem RsL.one {G H H0 : Hp} {vs : List V} {r : Rs} (h : RsL U B G H H0 vs [r]) : ∃ v, vs = [v] ∧ RsOk U B G H H0 v r := by
  cases h with
  | cons a b => cases b; exact ⟨_, rfl, a⟩
theorem RsL.two {G H H0 : Hp} {vs : List V} {r r' : Rs} (h : RsL U B G H H0 vs [r, r']) : ∃ v w, vs = [v, w] ∧ RsOk U B G H H0 v r ∧ RsOk U B G H H0 w r' := by
  cases h with
  | cons a b =>
    cases b with
    | cons c d => cases d; exact ⟨_, _, rfl, a, c⟩
theorem map1 {rs : List Rs} {t : Tr} (h : rs.map Rs.see = [t]) : ∃ r, rs = [r] ∧ r.see = t := by
  match rs, h with
  | [r], h => exact ⟨r, rfl, by simpa using h⟩
theorem map2 {rs : List Rs} {t u : Tr} (h : rs.map Rs.see = [t, u]) : ∃ r r', rs = [r, r'] ∧ r.see = t ∧ r'.see = u := by
  match rs, h with
  | [r, r'], h => exact ⟨r, r', rfl, by simpa using h⟩
theorem bltE_ex {b : Bl} {rs : List Rs} {c : Nat} : bltE b rs ≠ .ex c := by
  unfold bltE
  split <;> intro h
  all_goals first
    | (cases h; done)
    | (rename_i t _
       cases e : itemsOf t with
       | no => rw [e] at h; cases h
       | ex c => exact itemsOf_ex e
       | ok i => rw [e] at h; cases h)
    | (rename_i xs _
       cases e : asInts xs with
       | no => rw [e] at h; cases h
       | ex c => exact asInts_ex e
       | ok i => rw [e, Oc.ok_bind] at h; first | (cases h; done) | (split at h <;> cases h))
    | (rename_i xs _
       cases e : asBools xs with
       | no => rw [e] at h; cases h
       | ex c => exact asBools_ex e
       | ok i => rw [e, Oc.ok_bind] at h; cases h)
theorem seen_items {G H H0 : Hp} {v : V} {r : Rs} {t : Tr} {xs : List Tr} (s : Same G H) (k : RsOk U B G H H0 v r) (e : r.see = t) (h : itemsOf t = .ok xs) :
    ∃ a vs, v = .ref a ∧ RepL U G vs xs ∧ ((SqL U.K H a vs ∧ t = .lst xs) ∨ (SqT U.K G a vs ∧ SqT U.K H a vs ∧ t = .tup xs)) := by
  rcases itemsOf_ok h with rfl | rfl
  · obtain ⟨a, vs, rfl, h1, h2⟩ := k.list s e
    exact ⟨a, vs, rfl, h2, .inl ⟨h1, rfl⟩⟩
  · obtain ⟨_, a, vs, rfl, h0, h1, h2⟩ := k.tuple s e
    exact ⟨a, vs, rfl, h2, .inr ⟨h0, h1, rfl⟩⟩
theorem seen_lst {G H H0 : Hp} {v : V} {r : Rs} {xs : List Tr} (s : Same G H) (k : RsOk U B G H H0 v r) (e : r.see = .lst xs) : ∃ a vs, v = .ref a ∧ RepL U G vs xs ∧ SqL U.K H a vs := by
  obtain ⟨a, vs, rfl, h1, h2⟩ := k.list s e
  exact ⟨a, vs, rfl, h2, h1⟩
theorem call_bl (b : Bl) (hc : X.calm = true) (hK : X.K = U.K) : CallR X (blVal b) (rBl U B b) := by
  intro pins s σ H vs us Q I r h
  obtain ⟨G, H0, rs, z, sm, k, e, q⟩ := h
  unfold bltE at e
  split at e
  · -- len
    rename_i t e1
    obtain ⟨r1, rfl, e0⟩ := map1 e1
    obtain ⟨v, rfl, k1⟩ := k.one
    cases e2 : itemsOf t with
    | no => rw [e2] at e; cases e
    | ex c => rw [e2] at e; cases e
    | ok xs =>
      rw [e2, Oc.ok_bind] at e
      cases e
      obtain ⟨a, ws, rfl, rr, hh⟩ := seen_items sm k1 e0 e2
      refine call_len_seq pins s σ H _ us Q I r ⟨a, ws, rfl, ?_, ?_⟩
      · rw [hK]
        rcases hh with ⟨hh, _⟩ | ⟨_, hh, _⟩
        · exact .inl hh
        · exact .inr hh
      · rw [rr.length]
        exact q _ G H (Grow.refl sm) (Rep.int _)
  · rename_i i e1
    obtain ⟨r1, rfl, e0⟩ := map1 e1
    obtain ⟨v, rfl, k1⟩ := k.one
    cases e
    rw [k1.int e0] at r
    exact call_abs pins s σ H _ us Q I r ⟨i, rfl, q _ G H (Grow.refl sm) (Rep.int _)⟩
  · rename_i i e1
    obtain ⟨r1, rfl, e0⟩ := map1 e1
    obtain ⟨v, rfl, k1⟩ := k.one
    cases e
    rw [k1.int e0] at r
    exact call_int1 pins s σ H _ us Q I r (.inl ⟨i, rfl, q _ G H (Grow.refl sm) (Rep.int _)⟩)
  · rename_i i e1
    obtain ⟨r1, rfl, e0⟩ := map1 e1
    obtain ⟨v, rfl, k1⟩ := k.one
    cases e
    rw [k1.bl e0] at r
    exact call_int1 pins s σ H _ us Q I r (.inr ⟨i, rfl, q _ G H (Grow.refl sm) (Rep.int _)⟩)
  · rename_i i j e1
    obtain ⟨r1, r2, rfl, e0, e2⟩ := map2 e1
    obtain ⟨v, w, rfl, k1, k2⟩ := k.two
    cases e
    rw [k1.int e0, k2.int e2] at r
    exact call_max2 hc pins s σ H _ us Q I r ⟨i, j, rfl, q _ G H (Grow.refl sm) (Rep.int _)⟩
  · rename_i i j e1
    obtain ⟨r1, r2, rfl, e0, e2⟩ := map2 e1
    obtain ⟨v, w, rfl, k1, k2⟩ := k.two
    cases e
    rw [k1.int e0, k2.int e2] at r
    exact call_min2 hc pins s σ H _ us Q I r ⟨i, j, rfl, q _ G H (Grow.refl sm) (Rep.int _)⟩
  · -- list
    rename_i t e1
    obtain ⟨r1, rfl, e0⟩ := map1 e1
    obtain ⟨v, rfl, k1⟩ := k.one
    cases e2 : itemsOf t with
    | no => rw [e2] at e; cases e
    | ex c => rw [e2] at e; cases e
    | ok xs =>
      rw [e2, Oc.ok_bind] at e
      cases e
      obtain ⟨a, ws, rfl, rr, hh⟩ := seen_items sm k1 e0 e2
      refine call_list_of pins s σ H _ us Q I r ⟨a, ws, rfl, ?_, fun p hp => ?_⟩
      · rw [hK]
        rcases hh with ⟨hh, _⟩ | ⟨_, hh, _⟩
        · exact .inl hh
        · exact .inr hh
      · exact q _ G _ (Grow.made0 sm hp) ⟨p, _, rfl, hp, ghost_none sm hp, upd_same, rr⟩
  · -- tuple
    rename_i t e1
    obtain ⟨r1, rfl, e0⟩ := map1 e1
    obtain ⟨v, rfl, k1⟩ := k.one
    cases e2 : itemsOf t with
    | no => rw [e2] at e; cases e
    | ex c => rw [e2] at e; cases e
    | ok xs =>
      rw [e2, Oc.ok_bind] at e
      cases e
      obtain ⟨a, ws, rfl, rr, hh⟩ := seen_items sm k1 e0 e2
      refine call_tuple_of pins s σ H _ us Q I r ⟨a, ws, rfl, ?_⟩
      rw [hK]
      rcases hh with ⟨hh, _⟩ | ⟨hg, hh, _⟩
      · refine .inl ⟨hh, fun p hp => ?_⟩
        have g := Grow.made (o := .tup ws) sm hp
        exact q _ _ _ g (Rep.tup (.inl (.inl upd_same)) (rr.mono g.gg))
      · exact .inr ⟨hh, q _ G H (Grow.refl sm) (Rep.tup hg rr)⟩
  · -- sum
    rename_i xs e1
    obtain ⟨r1, rfl, e0⟩ := map1 e1
    obtain ⟨v, rfl, k1⟩ := k.one
    cases e2 : asInts xs with
    | no => rw [e2] at e; cases e
    | ex c => rw [e2] at e; cases e
    | ok ns =>
      rw [e2, Oc.ok_bind] at e
      cases e
      obtain ⟨a, ws, rfl, rr, hh⟩ := seen_lst sm k1 e0
      have ew := asInts_rep rr e2
      subst ew
      rw [← hK] at hh
      exact cr_sum hc pins s σ H _ us Q I r ⟨a, ns, rfl, hh, q _ G H (Grow.refl sm) (Rep.int _)⟩
  · -- min
    rename_i xs e1
    obtain ⟨r1, rfl, e0⟩ := map1 e1
    obtain ⟨v, rfl, k1⟩ := k.one
    cases e2 : asInts xs with
    | no => rw [e2] at e; cases e
    | ex c => rw [e2] at e; cases e
    | ok ns =>
      rw [e2, Oc.ok_bind] at e
      split at e
      · cases e
      · rename_i hne
        cases e
        obtain ⟨a, ws, rfl, rr, hh⟩ := seen_lst sm k1 e0
        have ew := asInts_rep rr e2
        subst ew
        rw [← hK] at hh
        have hn : ns ≠ [] := fun z => hne (by rw [z]; rfl)
        refine cr_min hc pins s σ H _ us Q I r ⟨a, ns, rfl, hh, List.length_pos_iff.mpr hn, fun m h1 h2 => ?_⟩
        have em : m = minL ns := Int.le_antisymm (h2 _ (minL_in hn)) (minL_le h1)
        rw [em]
        exact q _ G H (Grow.refl sm) (Rep.int _)
  · -- max
    rename_i xs e1
    obtain ⟨r1, rfl, e0⟩ := map1 e1
    obtain ⟨v, rfl, k1⟩ := k.one
    cases e2 : asInts xs with
    | no => rw [e2] at e; cases e
    | ex c => rw [e2] at e; cases e
    | ok ns =>
      rw [e2, Oc.ok_bind] at e
      split at e
      · cases e
      · rename_i hne
        cases e
        obtain ⟨a, ws, rfl, rr, hh⟩ := seen_lst sm k1 e0
        have ew := asInts_rep rr e2
        subst ew
        rw [← hK] at hh
        have hn : ns ≠ [] := fun z => hne (by rw [z]; rfl)
        refine cr_max hc pins s σ H _ us Q I r ⟨a, ns, rfl, hh, List.length_pos_iff.mpr hn, fun m h1 h2 => ?_⟩
        have em : m = maxL ns := Int.le_antisymm (maxL_ge h1) (h2 _ (maxL_in hn))
        rw [em]
        exact q _ G H (Grow.refl sm) (Rep.int _)
  · -- all
    rename_i xs e1
    obtain ⟨r1, rfl, e0⟩ := map1 e1
    obtain ⟨v, rfl, k1⟩ := k.one
    cases e2 : asBools xs with
    | no => rw [e2] at e; cases e
    | ex c => rw [e2] at e; cases e
    | ok ns =>
      rw [e2, Oc.ok_bind] at e
      cases e
      obtain ⟨a, ws, rfl, rr, hh⟩ := seen_lst sm k1 e0
      have ew := asBools_rep rr e2
      subst ew
      rw [← hK] at hh
      exact cr_all hc pins s σ H _ us Q I r ⟨a, ns, rfl, hh, q _ G H (Grow.refl sm) (Rep.bl _)⟩
  · -- any
    rename_i xs e1
    obtain ⟨r1, rfl, e0⟩ := map1 e1
    obtain ⟨v, rfl, k1⟩ := k.one
    cases e2 : asBools xs with
    | no => rw [e2] at e; cases e
    | ex c => rw [e2] at e; cases e
    | ok ns =>
      rw [e2, Oc.ok_bind] at e
      cases e
      obtain ⟨a, ws, rfl, rr, hh⟩ := seen_lst sm k1 e0
      have ew := asBools_rep rr e2
      subst ew
      rw [← hK] at hh
      exact cr_any hc pins s σ H _ us Q I r ⟨a, ns, rfl, hh, q _ G H (Grow.refl sm) (Rep.bl _)⟩
  · cases e
theorem tAb_bl {b : Bl} {rs : List Sl → Oc (List Rs)} {σ : L2.St} {H : Hp} {Q : VK} (h : tR U W B (fun env => rs env >>= fun ts => bltE b ts) σ H Q) : tAb U W B rs σ H fun vs H1 => rBl U B b vs H1 Q := by
  obtain ⟨G, env, I, h⟩ := h
  have h : Post U W B (rs env >>= fun ts => bltE b ts) G H σ Q := h
  refine ⟨G, env, I, ?_⟩
  cases e : rs env with
  | no => rw [e] at h; exact h
  | ex c => rw [e] at h; exact h
  | ok ts =>
    rw [e, Oc.ok_bind] at h
    intro vs G1 H1 g1 k
    cases e2 : bltE b ts with
    | no => rw [e2] at h; exact h.elim
    | ex c => exact absurd e2 bltE_ex
    | ok z =>
      rw [e2] at h
      exact ⟨G1, H, ts, z, g1.gh, k, e2, fun v G' H' g q => h v G' H' (g1.trans g) (q.from I.sub g1)⟩
theorem boot_bl (b : Bl) : bootBuiltins (blName b) = some (blVal b) := by cases b <;> decide +kernel
theorem cb_blt {b : Bl} {p pos : Pos} {e : Expr} {es : List Expr} {rs : List Sl → Oc (List Rs)} (hc : X.calm = true) (hK : X.K = U.K) (hg : Gl X (blName b)) (hm : X.mg (blName b) = none) (hst : (e :: es).all nostar = true) (ha : PA X (e :: es) (tAb U W B rs)) :
    PE X (.Call (.Name (blName b) p) (e :: es) [] pos) (tR U W B fun env => rs env >>= fun ts => bltE b ts) := by
  refine PE.weak (t := tCB (rBl U B b) (tAb U W B rs)) ?_ fun σ H Q h => tAb_bl h
  rw [List.all_cons, Bool.and_eq_true] at hst
  refine ⟨fun pins s σ H Q I h => ?_⟩
  have hn : blName b ≠ "__name__" := by cases b <;> decide
  have hd : (blName b == ("__debug__" : Str)) = false := by cases b <;> decide
  have hb := boot_bl b
  have hcall := call_bl (U := U) (B := B) b hc hK
  have cs : (∃ id, blVal b = .builtin id) ∨ (∃ T, blVal b = .type T) := by cases b <;> first | exact .inl ⟨_, rfl⟩ | exact .inr ⟨_, rfl⟩
  rcases cs with ⟨id, e2⟩ | ⟨T, e2⟩
  · rw [e2] at hb hcall
    refine wpAny_Call_Name_kw (ld_blt I hg hm hb ?_ hn hd)
    exact PyProof.Rows.callWith_builtin1 (thn (ha.run pos pins s σ H _ I h) fun us s1 ⟨vs, H1, I1, r1, q1⟩ => hcall pins s1 σ H1 vs us Q I1 r1 q1) (star_cons hst.1) (star_any hst.2)
  · rw [e2] at hb hcall
    refine wpAny_Call_Name_kw (ld_blt I hg hm hb ?_ hn hd)
    exact PyProof.Rows.callWith_type1 (thn (ha.run pos pins s σ H _ I h) fun us s1 ⟨vs, H1, I1, r1, q1⟩ => hcall pins s1 σ H1 vs us Q I1 r1 q1) (star_cons hst.1) (star_any hst.2)
end
end PF

namespace PF
open PySem PySem.Spec PyProof.Rows L2
section
variable {U : Uni} {W : WX} {B : Hp} {X : Cx}
/-! ### isinstance -/
def tyName : Ty → String
  | .int => "int" | .bool => "bool" | .tuple => "tuple" | .list => "list" | .str => "str"
def tyStr : Ty → Str
  | .int => "int" | .bool => "bool" | .tuple => "tuple" | .list => "list" | .str => "str"
theorem boot_ty (t : Ty) : bootBuiltins (tyStr t) = some (.type (tyName t)) := by cases t <;> decide +kernel
theorem isiE_ex {t : Ty} {a : Tr} {c : Nat} : isiE t a ≠ .ex c := by
  cases t <;> cases a <;> (intro h; cases h)
theorem sqT_tyx {K : PySem.W.Frag} {H : Hp} {a : Addr} {xs : List V} (h : SqT K H a xs) : TyX K H (.ref a) (.type "tuple") := by
  rcases h with (h | ⟨o, h⟩) | ⟨o, its, n, h1, h2, _⟩
  · exact .base (.tup h)
  · exact .fTuple h
  · exact .kTuple h1 h2
theorem rd_tyx {K : PySem.W.Frag} {H : Hp} {a : Addr} {xs : List V} (h : SqL K H a xs) : TyX K H (.ref a) (.type "list") := by
  rcases h with (h | ⟨o, h⟩) | ⟨o, its, n, h1, h2, _⟩
  · exact .base (.lst h)
  · exact .base (.frz h)
  · exact .kList h1 h2
theorem isi_rep {K : PySem.W.Frag} (hK : K = U.K) {H : Hp} {v : V} {a : Tr} {t : Ty} {b : Bool} (r : Rep U H v a) (e : isiE t a = .ok b) : ∃ tv, TyX K H v tv ∧ PySem.W.kitOne K tv (.type (tyName t)) = some b := by
  cases r with
  | non => refine ⟨_, .base .non, ?_⟩; cases t <;> cases e <;> exact kit_ty (by decide +kernel)
  | bl k => refine ⟨_, .base (.bl k), ?_⟩; cases t <;> cases e <;> exact kit_ty (by decide +kernel)
  | int i => refine ⟨_, .base (.int i), ?_⟩; cases t <;> cases e <;> exact kit_ty (by decide +kernel)
  | str x => refine ⟨_, .base (.str x), ?_⟩; cases t <;> cases e <;> exact kit_ty (by decide +kernel)
  | tup h1 h2 => rw [← hK] at h1; refine ⟨_, sqT_tyx h1, ?_⟩; cases t <;> cases e <;> exact kit_ty (by decide +kernel)
  | lst h1 h2 => rw [← hK] at h1; refine ⟨_, rd_tyx h1, ?_⟩; cases t <;> cases e <;> exact kit_ty (by decide +kernel)
  | ins h1 h2 h3 => cases t <;> cases e
  | dct h1 h2 h3 => cases t <;> cases e
  | raw a => cases t <;> cases e
theorem cb_isi {t : Ty} {p p2 pos : Pos} {e : Expr} {r : List Sl → Oc Rs} (hK : X.K = U.K) (hg : Gl X "isinstance") (hm : X.mg "isinstance" = none) (hg2 : Gl X (tyStr t)) (hm2 : X.mg (tyStr t) = none) (hst : nostar e = true) (he : PE X e (tR U W B r)) :
    PE X (.Call (.Name "isinstance" p) [e, .Name (tyStr t) p2] [] pos) (tR U W B fun env => r env >>= fun x => isiE t x.see >>= fun b => .ok (.im (.bl b))) := by
  have h2 : PE X (.Name (tyStr t) p2) (tC (.ty (tyName t))) := by
    have hn : tyStr t ≠ "__name__" := by cases t <;> decide
    have hd : (tyStr t == ("__debug__" : Str)) = false := by cases t <;> decide
    exact pe_bltn hg2 hm2 (boot_ty t) rfl hn hd
  refine PE.weak (pe_callB call_isi hg hm (by decide +kernel) (pa_cons he (pa_cons h2 pa_nil rfl) (star_cons hst)) (by decide) (by decide) (star_cons hst) rfl) fun σ H Q h => tR_one h (fun x c => by cases e : isiE t x.see <;> simp [e] <;> exact fun z => isiE_ex (z ▸ e)) fun G H1 v x z s k e q => by
    cases e2 : isiE t x.see with
    | no => rw [e2] at e; cases e
    | ex c => rw [e2] at e; cases e
    | ok b =>
      rw [e2] at e
      cases e
      obtain ⟨tv, h3, h4⟩ := isi_rep hK (k.seen s) e2
      exact ⟨v, .ty (tyName t), tv, .type (tyName t), b, rfl, .ty _, h3, h4, q _ G H1 (Grow.refl s) (Rep.bl _)⟩

/-! ### what is walked -/
def ItOk (U : Uni) (J : It) (xs : List Tr) (G0 : Hp) : Prop := ∀ i G H, Same G0 G → Same G H →
  (∀ t, xs[i]? = some t → J.go i H ∧ ∀ x H', J.yld i H x H' → ∃ G', Grow G H G' H' ∧ Rep U G' x t) ∧ (xs.length ≤ i → J.stop i H)
theorem ItOk.later {J : It} {xs : List Tr} {G G' : Hp} (h : ItOk U J xs G) (s : Same G G') : ItOk U J xs G' := fun i G1 H s1 s2 => h i G1 H (s.trans s1) s2
def tIt (U : Uni) (W : WX) (B : Hp) (r : List Sl → Oc (List Tr)) : TI := fun σ H R => ∃ G env, EnvOk U B G H env σ ∧
  match r env with
  | .no => False
  | .ex c => ∀ G' H', Grow G H G' H' → W (.ref (U.exc c)) none σ H'
  | .ok xs => ∀ J G' H', Grow G H G' H' → ItOk U J xs G' → R J H'
theorem PI.weak {tg iter : Expr} {t t' : TI} (h : PI X tg iter t) (hw : ∀ σ H R, t' σ H R → t σ H R) : PI X tg iter t' := ⟨fun pins s σ H R I q => h.run pins s σ H R I (hw _ _ _ q)⟩
/-- a list or a tuple -/
def iSeq (K : PySem.W.Frag) (tl : TE) : TI := fun σ H R => tl σ H fun x H1 => ∃ a, x = .ref a ∧ (((∃ xs, SqL K H1 a xs) ∧ R (Itl K a) H1) ∨ ((∃ xs, SqT K H1 a xs) ∧ R (Itt K a) H1))
theorem pi_seq {tg l : Expr} {tl : TE} (hl : PE X l tl) : PI X tg l (iSeq X.K tl) := by
  refine ⟨fun pins s σ H R I h => ?_⟩
  refine thn (hl.run pins s σ H _ I h) fun v s1 ⟨x, H1, I1, r1, q1⟩ => ?_
  obtain ⟨a, e, q⟩ := q1
  subst e
  cases r1
  rcases q with ⟨⟨xs, hq⟩, q⟩ | ⟨⟨xs, hq⟩, q⟩
  · obtain ⟨its, rv, p, hz⟩ := I1.list hq
    refine wpAny_pyIter_list p.isList ?_
    refine ⟨s1.heap.objs.size, [s1.heap.objs.size], _, _, H1, rfl, I1.kept (t' := s1.toks) fun b o e => Heap.get?_push_of_some _ e, turn_list a _, ⟨_, Heap.get?_push_size _ rfl, rfl, rfl⟩, fun b hb => ?_, q⟩
    have e : b = s1.heap.objs.size := by simpa using hb
    subst e
    exact I1.fpOk (Nat.le_refl _) (I1.hok.fresh (Nat.le_refl _))
  · obtain ⟨its, rv, p, hz⟩ := I1.tuple hq
    refine wpAny_pyIter_tuple (show s1.heap.IsTuple a its.toArray from p) ?_
    refine ⟨s1.heap.objs.size, [s1.heap.objs.size], _, _, H1, rfl, I1.kept (t' := s1.toks) fun b o e => Heap.get?_push_of_some _ e, turn_tuple a _, ⟨_, Heap.get?_push_size _ rfl, rfl, rfl⟩, fun b hb => ?_, q⟩
    have e : b = s1.heap.objs.size := by simpa using hb
    subst e
    exact I1.fpOk (Nat.le_refl _) (I1.hok.fresh (Nat.le_refl _))
theorem itl_ok {K : PySem.W.Frag} {a : Addr} {vs : List V} {xs : List Tr} {G : Hp} (h : SqL K G a vs) (r : RepL U G vs xs) : ItOk U (Itl K a) xs G := fun i G1 H s1 s2 => by
  have hq : SqL K H a vs := sqL_mono s2 (sqL_mono s1 h)
  refine ⟨fun t ht => ?_, fun hl => ⟨vs, hq, by rw [r.length]; exact hl⟩⟩
  obtain ⟨v, h1, h2⟩ := r.get ht
  refine ⟨⟨vs, v, hq, h1⟩, fun x H' y => ?_⟩
  obtain ⟨rfl, y⟩ := y
  have e := y vs hq
  rw [h1] at e
  cases e
  exact ⟨G1, Grow.refl s2, h2.mono s1⟩
theorem itt_ok {K : PySem.W.Frag} {a : Addr} {vs : List V} {xs : List Tr} {G : Hp} (h : SqT K G a vs) (r : RepL U G vs xs) : ItOk U (Itt K a) xs G := fun i G1 H s1 s2 => by
  have hq : SqT K H a vs := sqT_mono s2 (sqT_mono s1 h)
  refine ⟨fun t ht => ?_, fun hl => ⟨vs, hq, by rw [r.length]; exact hl⟩⟩
  obtain ⟨v, h1, h2⟩ := r.get ht
  refine ⟨⟨vs, v, hq, h1⟩, fun x H' y => ?_⟩
  obtain ⟨rfl, y⟩ := y
  have e := y vs hq
  rw [h1] at e
  cases e
  exact ⟨G1, Grow.refl s2, h2.mono s1⟩
theorem itr_ok {lo n : Int} {G : Hp} : ItOk U (Itr lo n.toNat) (rangeT lo n) G := fun i G1 H s1 s2 => by
  refine ⟨fun t ht => ?_, fun hl => ?_⟩
  · unfold rangeT at ht
    rw [List.getElem?_map, Option.map_eq_some_iff] at ht
    obtain ⟨k, h1, rfl⟩ := ht
    have hk : i < n.toNat ∧ k = i := by
      by_cases hi : i < n.toNat
      · rw [List.getElem?_range hi] at h1
        cases h1
        exact ⟨hi, rfl⟩
      · rw [List.getElem?_eq_none (by rw [List.length_range]; omega)] at h1
        cases h1
    obtain ⟨h2, rfl⟩ := hk
    refine ⟨h2, fun x H' y => ?_⟩
    obtain ⟨rfl, rfl⟩ := y
    exact ⟨G1, Grow.refl s2, Rep.int _⟩
  · show n.toNat ≤ i
    unfold rangeT at hl
    rw [List.length_map, List.length_range] at hl
    exact hl
theorem cb_iter {tg e : Expr} {r : List Sl → Oc Rs} (hK : X.K = U.K) (he : PE X e (tR U W B r)) : PI X tg e (tIt U W B fun env => r env >>= Rs.fz >>= itemsOf) :=
  PI.weak (pi_seq he) fun σ H R ⟨G, env, I, h⟩ => by
    refine tR_fz ⟨G, env, I, ?_⟩
    show PostT U W (r env >>= Rs.fz) G H σ _
    dsimp only at h
    unfold PostT
    cases e : (r env >>= Rs.fz) with
    | no => rw [e] at h; exact h
    | ex c => rw [e] at h; exact h
    | ok t =>
      rw [e, Oc.ok_bind] at h
      intro v G1 H1 g1 k1
      cases e2 : itemsOf t with
      | no => rw [e2] at h; exact h.elim
      | ex c => exact absurd e2 itemsOf_ex
      | ok xs =>
        rw [e2] at h
        rcases itemsOf_ok e2 with rfl | rfl
        · cases k1 with
          | lst h1 h2 =>
            rw [← hK] at h1
            exact ⟨_, rfl, .inl ⟨⟨_, sqL_mono g1.gh h1⟩, h _ G1 H1 g1 (itl_ok h1 h2)⟩⟩
        · cases k1 with
          | tup h1 h2 =>
            rw [← hK] at h1
            exact ⟨_, rfl, .inr ⟨⟨_, sqT_mono g1.gh h1⟩, h _ G1 H1 g1 (itt_ok h1 h2)⟩⟩
theorem smallI_ok {i : Int} (h : smallI i = true) : -(2 ^ 62) ≤ i ∧ i < 2 ^ 62 := by
  unfold smallI at h
  rw [Bool.and_eq_true] at h
  exact ⟨of_decide_eq_true h.1, of_decide_eq_true h.2⟩
theorem cb_rng1 {tg a : Expr} {p pos : Pos} {r : List Sl → Oc Rs} (hg : Gl X "range") (hm : X.mg "range" = none) (hst : nostar a = true) (he : PE X a (tR U W B r)) :
    PI X tg (.Call (.Name "range" p) [a] [] pos) (tIt U W B fun env => r env >>= fun x => oInt x.see >>= fun n => if smallI n then .ok (rangeT 0 n) else .no) :=
  PI.weak (pi_range1 hg hm (pa_cons he pa_nil (star_cons hst)) (star_cons hst)) fun σ H R ⟨G, env, I, h⟩ => by
    refine ⟨G, env, I, ?_⟩
    dsimp only at h
    unfold Post
    cases e : r env with
    | no => rw [e] at h; exact h
    | ex c => rw [e] at h; exact h
    | ok x =>
      rw [e, Oc.ok_bind] at h
      intro v G1 H1 g1 k1
      cases e2 : oInt x.see with
      | no => rw [e2] at h; exact h.elim
      | ex c => exact absurd e2 oInt_ex
      | ok n =>
        rw [e2, Oc.ok_bind] at h
        by_cases hs : smallI n = true
        · rw [if_pos hs] at h
          obtain ⟨s1, s2⟩ := smallI_ok hs
          rw [k1.int (oInt_ok e2)]
          exact ⟨n, rfl, s1, s2, h _ G1 H1 g1 itr_ok⟩
        · rw [if_neg hs] at h
          exact h.elim
theorem cb_rng2 {tg a b : Expr} {p pos : Pos} {ra rb : List Sl → Oc Rs} (hg : Gl X "range") (hm : X.mg "range" = none) (ha : nostar a = true) (hb : nostar b = true) (h1 : PE X a (tR U W B ra)) (h2 : PE X b (tR U W B rb)) :
    PI X tg (.Call (.Name "range" p) [a, b] [] pos) (tIt U W B fun env => ra env >>= fun x => rb env >>= fun y => oInt x.see >>= fun lo => oInt y.see >>= fun n => if smallI lo && smallI n then .ok (rangeT lo (n - lo)) else .no) :=
  PI.weak (pi_range2 hg hm (pa_cons h1 (pa_cons h2 pa_nil (star_cons hb)) (star_cons ha)) (by rw [star_cons ha, star_cons hb]; rfl) (star_cons hb)) fun σ H R ⟨G, env, I, h⟩ => by
    refine ⟨G, env, I, ?_⟩
    dsimp only at h
    unfold Post
    cases e : ra env with
    | no => rw [e] at h; exact h
    | ex c => rw [e] at h; exact h
    | ok x =>
      rw [e, Oc.ok_bind] at h
      intro v G1 H1 g1 k1
      refine ⟨G1, env, I.later g1, ?_⟩
      unfold Post
      cases e2 : rb env with
      | no => rw [e2] at h; exact h
      | ex c => rw [e2] at h; exact fun G' H' g => h G' H' (g1.trans g)
      | ok y =>
        rw [e2, Oc.ok_bind] at h
        intro w G2 H2 g2 k2
        cases e3 : oInt x.see with
        | no => rw [e3] at h; exact h.elim
        | ex c => exact absurd e3 oInt_ex
        | ok lo =>
          rw [e3, Oc.ok_bind] at h
          cases e4 : oInt y.see with
          | no => rw [e4] at h; exact h.elim
          | ex c => exact absurd e4 oInt_ex
          | ok n =>
            rw [e4, Oc.ok_bind] at h
            by_cases hs : (smallI lo && smallI n) = true
            · rw [if_pos hs] at h
              rw [Bool.and_eq_true] at hs
              obtain ⟨s1, s2⟩ := smallI_ok hs.1
              obtain ⟨s3, s4⟩ := smallI_ok hs.2
              rw [k1.int (oInt_ok e3), k2.int (oInt_ok e4)]
              exact ⟨lo, n, rfl, ⟨s1, s2, s3, s4⟩, h _ G2 H2 (g1.trans g2) itr_ok⟩
            · rw [if_neg hs] at h
              exact h.elim

/-! ### targets -/
/-- only these slots have changed -/
def SetOn (is : List Nat) (σ σ' : L2.St) : Prop := σ'.length = σ.length ∧ ∀ j, j ∉ is → σ'[j]? = σ[j]?
def tTg (U : Uni) (B : Hp) (is : List Nat) (b : Tr → List Sl → Oc (List Sl)) : TG := fun v σ H Q => ∃ G env t, EnvOk U B G H env σ ∧ Rep U G v t ∧
  match b t env with
  | .ok env' => ∀ σ', SetOn is σ σ' → EnvOk U B G H env' σ' → Q σ' H
  | _ => False
theorem EnvOk.set {G H : Hp} {env : List Sl} {σ : L2.St} {i : Nat} {v : V} {t : Tr} (I : EnvOk U B G H env σ) (r : Rep U G v t) : EnvOk U B G H (env.set i (.im t)) (σ.set i (some v)) := by
  refine ⟨I.sub, I.old, by rw [List.length_set, List.length_set]; exact I.len, fun j s h => ?_, fun j k xs ys p h1 h2 h3 h4 => ?_⟩
  · by_cases hj : i = j
    · subst hj
      by_cases hl : i < env.length
      · rw [List.getElem?_set_self hl] at h
        cases h
        exact ⟨v, by rw [List.getElem?_set_self (by rw [I.len]; exact hl)], r⟩
      · rw [List.getElem?_eq_none (by rw [List.length_set]; omega)] at h
        cases h
    · rw [List.getElem?_set_ne hj] at h ⊢
      exact I.rep j s h
  · have n1 : i ≠ j := fun e => by
      subst e
      by_cases hl : i < env.length
      · rw [List.getElem?_set_self hl] at h1; cases h1
      · rw [List.getElem?_eq_none (by rw [List.length_set]; omega)] at h1; cases h1
    have n2 : i ≠ k := fun e => by
      subst e
      by_cases hl : i < env.length
      · rw [List.getElem?_set_self hl] at h2; cases h2
      · rw [List.getElem?_eq_none (by rw [List.length_set]; omega)] at h2; cases h2
    rw [List.getElem?_set_ne n1] at h1 h3
    rw [List.getElem?_set_ne n2] at h2 h4
    exact I.sep j k xs ys p h1 h2 h3 h4
theorem setOn_one {σ : L2.St} {i : Nat} {v : Option V} : SetOn [i] σ (σ.set i v) := by
  refine ⟨List.length_set, fun j hj => ?_⟩
  rw [List.getElem?_set_ne]
  intro e
  exact hj (by rw [e]; exact List.mem_singleton.mpr rfl)
theorem bindNm_ok {env env' : List Sl} {i : Nat} {t : Tr} (h : bindNm env i t = .ok env') : env' = env.set i (.im t) := by
  unfold bindNm at h
  split at h
  · cases h; rfl
  · cases h
theorem PG.weak {tg : Expr} {t t' : TG} (h : PG X tg t) (hw : ∀ v σ H Q, t' v σ H Q → t v σ H Q) : PG X tg t' := ⟨fun pins s σ H v u Q I r q => h.run pins s σ H v u Q I r (hw _ _ _ _ q)⟩
theorem cb_gnm {i : Nat} {x : Str} {pos : Pos} (hN : X.N.Nodup) (hi : X.N[i]? = some x) (hx : Loc X.env.scope x) (hf : X.fn x = true ∨ X.env.scope.names.lookup x = some .local) : PG X (.Name x pos) (tTg U B [i] (bindTg (.nm i))) :=
  PG.weak (pg_name hN hi hx hf) fun v σ H Q ⟨G, env, t, I, r, h⟩ => by
    cases e : bindTg (.nm i) t env with
    | no => rw [e] at h; exact h.elim
    | ex c => rw [e] at h; exact h.elim
    | ok env' =>
      rw [e] at h
      have e' := bindNm_ok e
      subst e'
      exact h _ setOn_one (I.set r)
/-- several names -/
def gNms : List Nat → TGs
  | [] => gNil
  | i :: is => gCons (gName i) (gNms is)
theorem gNms_run : ∀ {is : List Nat} {ts : List Tr} {vs : List V} {G H : Hp} {env env' : List Sl} {σ : L2.St} {Q : L2.St → Hp → Prop}, EnvOk U B G H env σ → RepL U G vs ts → bindTp is ts env = .ok env' →
    (∀ σ', SetOn is σ σ' → EnvOk U B G H env' σ' → Q σ' H) → gNms is vs σ H Q
  | [], _, _, G, H, env, env', σ, Q, I, .nil, h, q => by
    cases h
    exact ⟨rfl, q σ ⟨rfl, fun _ _ => rfl⟩ I⟩
  | [], _, _, _, _, _, _, _, _, _, .cons _ _, h, _ => by cases h
  | i :: is, _, _, _, _, _, _, _, _, _, .nil, h, _ => by cases h
  | i :: is, _, _, G, H, env, env', σ, Q, I, .cons (v := v) (t := t) (vs := vs) (ts := ts) r rr, h, q => by
    unfold bindTp at h
    cases e : bindNm env i t with
    | no => rw [e] at h; cases h
    | ex c => rw [e] at h; cases h
    | ok env1 =>
      rw [e, Oc.ok_bind] at h
      have e' := bindNm_ok e
      subst e'
      refine ⟨v, vs, rfl, gNms_run (I.set r) rr h fun σ' so I' => q σ' ⟨?_, fun j hj => ?_⟩ I'⟩
      · rw [so.1, List.length_set]
      · rw [List.mem_cons, not_or] at hj
        rw [so.2 j hj.2, List.getElem?_set_ne (fun z => hj.1 z.symm)]
/-- the names of a tuple target stand at their places -/
def nmsOk (N : List Str) (loc : Str → Bool) : List Expr → List Nat → Bool
  | [], [] => true
  | .Name x _ :: es, i :: is => decide (N[i]? = some x) && loc x && nmsOk N loc es is
  | _, _ => false
theorem nms_len {loc : Str → Bool} : ∀ {es : List Expr} {is : List Nat}, nmsOk X.N loc es is = true → (assignEach es X.env).length = is.length ∧ (assignEach es X.env).findIdx? (·.1) = none
  | [], [], _ => ⟨rfl, rfl⟩
  | .Name x p :: es, i :: is, h => by
    unfold nmsOk at h
    rw [Bool.and_eq_true] at h
    obtain ⟨h1, h2⟩ := nms_len h.2
    refine ⟨by show (assignEach es X.env).length + 1 = is.length + 1; rw [h1], ?_⟩
    show (((false, assign (.Name x p) X.env) :: assignEach es X.env).findIdx? (·.1)) = none
    rw [List.findIdx?_cons]
    simp [h2]
theorem cb_nms {loc : Str → Bool} (hN : X.N.Nodup) (hl : ∀ x, loc x = true → Loc X.env.scope x ∧ (X.fn x = true ∨ X.env.scope.names.lookup x = some .local)) : ∀ {es : List Expr} {is : List Nat}, nmsOk X.N loc es is = true → PGs X es (gNms is)
  | [], [], _ => pgs_nil
  | .Name x p :: es, i :: is, h => by
    unfold nmsOk at h
    rw [Bool.and_eq_true, Bool.and_eq_true] at h
    obtain ⟨h1, h2⟩ := hl x h.1.2
    exact pgs_cons (pg_name hN (of_decide_eq_true h.1.1) h1 h2) (cb_nms hN hl h.2) rfl
theorem cb_gtp {loc : Str → Bool} {es : List Expr} {is : List Nat} {k : Nat} {pos : Pos} (hK : X.K = U.K) (hc : X.calm = true) (hN : X.N.Nodup) (hl : ∀ x, loc x = true → Loc X.env.scope x ∧ (X.fn x = true ∨ X.env.scope.names.lookup x = some .local)) (h : nmsOk X.N loc es is = true) :
    PG X (.Tuple es k pos) (tTg U B is (bindTg (.tp is))) :=
  PG.weak (pg_tup (n := is.length) hc (cb_nms hN hl h) (nms_len h).1 (nms_len h).2) fun v σ H Q ⟨G, env, t, I, r, h⟩ => by
    cases r with
    | @tup _ _ ts h1 h2 =>
      have h : match (if is.length = ts.length then bindTp is ts env else .no : Oc (List Sl)) with
        | .ok env' => ∀ σ', SetOn is σ σ' → EnvOk U B G H env' σ' → Q σ' H
        | _ => False := h
      split at h
      · rename_i env' he
        split at he
        · rename_i hl
          rw [← hK] at h1
          exact ⟨_, _, rfl, sqT_mono I.sub h1, by rw [h2.length, hl], gNms_run I h2 he h⟩
        · cases he
      · exact h.elim
    | _ => exact h.elim

/-! ### comprehensions -/
theorem wipe_get {σ : L2.St} : ∀ {vs : List Nat} {j : Nat}, j ∉ vs → (wipe σ vs)[j]? = σ[j]?
  | [], _, _ => rfl
  | v :: vs, j, h => by
    rw [List.mem_cons, not_or] at h
    unfold wipe
    rw [List.getElem?_set_ne (fun z => h.1 z.symm)]
    exact wipe_get h.2
theorem wipe_in {σ : L2.St} : ∀ {vs : List Nat} {j : Nat}, j ∈ vs → j < σ.length → (wipe σ vs)[j]? = some none
  | v :: vs, j, h, hl => by
    unfold wipe
    by_cases e : v = j
    · subst e
      rw [List.getElem?_set_self (by rw [wipe_length]; exact hl)]
    · rw [List.getElem?_set_ne e]
      exact wipe_in ((List.mem_cons.mp h).resolve_left fun z => e z.symm) hl
theorem wipe_same {σ σ' : L2.St} {vs is : List Nat} (h : SetOn is (wipe σ vs) σ') (hs : ∀ i ∈ is, i ∈ vs) : wipe σ' vs = wipe σ vs := by
  apply List.ext_getElem?
  intro j
  have hl : σ'.length = σ.length := h.1.trans (wipe_length σ vs)
  by_cases hj : j ∈ vs
  · by_cases hk : j < σ.length
    · rw [wipe_in hj (by rw [hl]; exact hk), wipe_in hj hk]
    · rw [List.getElem?_eq_none (by rw [wipe_length, hl]; omega), List.getElem?_eq_none (by rw [wipe_length]; omega)]
  · rw [wipe_get hj, wipe_get hj, h.2 j (fun z => hj (hs j z)), wipe_get hj]
theorem wipeE_len (env : List Sl) : ∀ vs : List Nat, (wipeE env vs).length = env.length
  | [] => rfl
  | v :: vs => by unfold wipeE; rw [List.length_set, wipeE_len env vs]
theorem wipeE_get {env : List Sl} : ∀ {vs : List Nat} {j : Nat} {s : Sl}, (wipeE env vs)[j]? = some s → s = .un ∨ (j ∉ vs ∧ env[j]? = some s)
  | [], _, _, h => .inr ⟨by simp, h⟩
  | v :: vs, j, s, h => by
    unfold wipeE at h
    by_cases e : v = j
    · subst e
      by_cases hl : v < (wipeE env vs).length
      · rw [List.getElem?_set_self hl] at h; cases h; exact .inl rfl
      · rw [List.getElem?_eq_none (by rw [List.length_set]; omega)] at h; cases h
    · rw [List.getElem?_set_ne e] at h
      rcases wipeE_get h with q | ⟨q1, q2⟩
      · exact .inl q
      · exact .inr ⟨by rw [List.mem_cons, not_or]; exact ⟨fun z => e z.symm, q1⟩, q2⟩
theorem EnvOk.wipe {G H : Hp} {env : List Sl} {σ : L2.St} (I : EnvOk U B G H env σ) (vs : List Nat) : EnvOk U B G H (wipeE env vs) (wipe σ vs) := by
  refine ⟨I.sub, I.old, by rw [wipe_length, wipeE_len]; exact I.len, fun i s h => ?_, fun i j xs ys p h1 h2 h3 h4 => ?_⟩
  · rcases wipeE_get h with rfl | ⟨n, h⟩
    · trivial
    · rw [wipe_get n]; exact I.rep i s h
  · rcases wipeE_get h1 with q | ⟨n1, h1⟩
    · cases q
    · rcases wipeE_get h2 with q | ⟨n2, h2⟩
      · cases q
      · rw [wipe_get n1] at h3
        rw [wipe_get n2] at h4
        exact I.sep i j xs ys p h1 h2 h3 h4
/-- one turn of a comprehension -/
def lcTurn (b : Tr → List Sl → Oc (List Sl)) (rc : List Sl → Oc Bool) (re : List Sl → Oc Rs) (env : List Sl) (x : Tr) : Oc (Option Tr) :=
  (b x env >>= fun env' => rc env' >>= fun k => if k then re env' >>= Rs.fz >>= fun y => .ok (some y) else .ok none).noex
theorem noex_ok {α : Type} {o : Oc α} {a : α} (h : o.noex = .ok a) : o = .ok a := by
  cases o <;> first | exact h | cases h
theorem lcGo_cons {f : Tr → Oc (Option Tr)} {x : Tr} {xs ys : List Tr} (h : lcGo f (x :: xs) = .ok ys) : ∃ o zs, f x = .ok o ∧ lcGo f xs = .ok zs ∧ ys = o.toList ++ zs := by
  unfold lcGo at h
  cases e : f x with
  | no => rw [e] at h; cases h
  | ex c => rw [e] at h; cases h
  | ok o =>
    rw [e, Oc.ok_bind] at h
    cases e2 : lcGo f xs with
    | no => rw [e2] at h; cases h
    | ex c => rw [e2] at h; cases h
    | ok zs =>
      rw [e2] at h
      cases h
      refine ⟨o, zs, rfl, rfl, ?_⟩
      cases o <;> rfl
theorem lcGo_len {f : Tr → Oc (Option Tr)} : ∀ {xs ys : List Tr}, lcGo f xs = .ok ys → ys.length ≤ xs.length
  | [], ys, h => by cases h; exact Nat.le_refl _
  | x :: xs, ys, h => by
    obtain ⟨o, zs, _, h2, rfl⟩ := lcGo_cons h
    have ih := lcGo_len h2
    cases o with
    | none => show zs.length ≤ xs.length + 1; omega
    | some y => show zs.length + 1 ≤ xs.length + 1; omega
theorem lcGo_ex {b : Tr → List Sl → Oc (List Sl)} {rc : List Sl → Oc Bool} {re : List Sl → Oc Rs} {env : List Sl} : ∀ {xs : List Tr} {c : Nat}, lcGo (lcTurn b rc re env) xs ≠ .ex c
  | [], _, h => by cases h
  | x :: xs, c, h => by
    unfold lcGo at h
    cases e : lcTurn b rc re env x with
    | no => rw [e] at h; cases h
    | ex c =>
      unfold lcTurn Oc.noex at e
      split at e <;> cases e
    | ok o =>
      rw [e, Oc.ok_bind] at h
      cases e2 : lcGo (lcTurn b rc re env) xs with
      | no => rw [e2] at h; cases h
      | ex c => exact lcGo_ex e2
      | ok zs => rw [e2] at h; cases h
abbrev W0 : WX := fun _ _ _ _ => False
theorem lc_run {ri : List Sl → Oc (List Tr)} {b : Tr → List Sl → Oc (List Sl)} {is own : List Nat} {rc : List Sl → Oc Bool} {re : List Sl → Oc Rs} {σ : L2.St} {H : Hp} {Q : VK} (hs : ∀ i ∈ is, i ∈ own)
    (h : tR U W B (fun env => ri env >>= fun xs => lcGo (lcTurn b rc re (wipeE env own)) xs >>= fun ys => if sizeOk (xs.length + 1) then .ok (.ow ys) else .no) σ H Q) :
    tLc (tIt U W B ri) (tTg U B is b) (tBo U W0 B rc) (tR U W0 B re) own σ H Q := by
  obtain ⟨G, env, I, h⟩ := h
  have h : Post U W B (ri env >>= fun xs => lcGo (lcTurn b rc re (wipeE env own)) xs >>= fun ys => if sizeOk (xs.length + 1) then .ok (.ow ys) else .no) G H σ Q := h
  refine ⟨G, env, I, ?_⟩
  cases e : ri env with
  | no => rw [e] at h; exact h
  | ex c => rw [e] at h; exact h
  | ok xs =>
    rw [e, Oc.ok_bind] at h
    intro J G1 H1 g1 ok
    cases e2 : lcGo (lcTurn b rc re (wipeE env own)) xs with
    | no => rw [e2] at h; exact h.elim
    | ex c => exact absurd e2 lcGo_ex
    | ok ys =>
      rw [e2, Oc.ok_bind] at h
      split at h
      · rename_i hsz
        have hsz := sizeOk_le hsz
        intro D hD
        refine ⟨fun i m H2 => ∃ G2 acc as zs, m = xs.length - i ∧ i ≤ xs.length ∧ Grow G1 H1 G2 H2 ∧ G2 D = none ∧ H2 D = some (.lst acc) ∧ RepL U G2 acc as ∧ as.length ≤ i ∧ lcGo (lcTurn b rc re (wipeE env own)) (xs.drop i) = .ok zs ∧ ys = as ++ zs,
          ⟨xs.length, G1, [], [], ys, rfl, Nat.zero_le _, Grow.made0 g1.gh hD, ghost_none g1.gh hD, upd_same, .nil, Nat.le_refl _, e2, rfl⟩, ?_⟩
        rintro i m H2 ⟨G2, acc, as, zs, rfl, hi, g2, gD, hDa, rA, hla, ez, ey⟩
        have g12 := g1.trans g2
        obtain ⟨hgo, hstop⟩ := ok i G2 H2 g2.gg g2.gh
        by_cases hlt : i < xs.length
        · have hx : xs[i]? = some xs[i] := List.getElem?_eq_getElem hlt
          obtain ⟨hg, hy⟩ := hgo _ hx
          rw [List.drop_eq_getElem_cons hlt] at ez
          obtain ⟨o, zs', ef, ez', ezs⟩ := lcGo_cons ez
          have ef := noex_ok ef
          refine .inr ⟨hg, fun H3 => ∃ G3 acc' as', Grow G1 H1 G3 H3 ∧ G3 D = none ∧ H3 D = some (.lst acc') ∧ RepL U G3 acc' as' ∧ as'.length ≤ i + 1 ∧ ys = as' ++ zs', fun H3 hN => ?_, fun x H3 y => ?_⟩
          · obtain ⟨G3, acc', as', g3, gD3, hD3, r3, hl3, ey3⟩ := hN
            exact ⟨xs.length - (i + 1), by omega, G3, acc', as', zs', rfl, hlt, g3, gD3, hD3, r3, hl3, ez', ey3⟩
          · obtain ⟨G3, g3, r3⟩ := hy x H3 y
            have g13 := g2.trans g3
            have gD3 : G3 D = none := g3.new D gD (by rw [hDa]; simp)
            have hD3 : H3 D = some (.lst acc) := g3.keep D _ gD hDa
            refine ⟨G3, wipeE env own, xs[i], ((I.later g12).later g3).wipe own, r3, ?_⟩
            cases eb : b xs[i] (wipeE env own) with
            | no => rw [eb] at ef; cases ef
            | ex c => rw [eb] at ef; cases ef
            | ok env' =>
              rw [eb, Oc.ok_bind] at ef
              intro σ' so I'
              refine ⟨wipe_same so hs, G3, env', I', ?_⟩
              cases ec : rc env' with
              | no => rw [ec] at ef; cases ef
              | ex c => rw [ec] at ef; cases ef
              | ok k =>
                rw [ec, Oc.ok_bind] at ef
                intro G4 H4 g4
                have gD4 : G4 D = none := g4.new D gD3 (by rw [hD3]; simp)
                have hD4 : H4 D = some (.lst acc) := g4.keep D _ gD3 hD3
                cases k with
                | false =>
                  cases ef
                  show ∃ G3 acc' as', _
                  exact ⟨G4, acc, as, g13.trans g4, gD4, hD4, (rA.mono g3.gg).mono g4.gg, by omega, by rw [ey, ezs]; rfl⟩
                | true =>
                  show tR U W0 B re σ' H4 _
                  refine tR_fz ⟨G4, env', I'.later g4, ?_⟩
                  show PostT U W0 (re env' >>= Rs.fz) G4 H4 σ' _
                  unfold PostT
                  have ef : ((re env' >>= Rs.fz) >>= fun y => Oc.ok (some y)) = .ok o := ef
                  cases ee : (re env' >>= Rs.fz) with
                  | no => rw [ee] at ef; cases ef
                  | ex c => rw [ee] at ef; cases ef
                  | ok t =>
                    rw [ee] at ef
                    cases ef
                    intro v G5 H5 g5 r5
                    have gD5 : G5 D = none := g5.new D gD4 (by rw [hD4]; simp)
                    have hD5 : H5 D = some (.lst acc) := g5.keep D _ gD4 hD4
                    have gA := (g13.trans g4).trans g5
                    have rA5 : RepL U G5 acc as := ((rA.mono g3.gg).mono g4.gg).mono g5.gg
                    refine ⟨acc, hD5, ?_, G5, acc ++ [v], as ++ [t], ?_, gD5, upd_same, rA5.append (.cons r5 .nil), by rw [List.length_append]; simp; omega, by rw [ey, ezs]; simp⟩
                    · rw [rA.length]; omega
                    · refine ⟨gA.gg, fun c o hc => ?_, fun c o hc hh => ?_, gA.new⟩
                      · have : c ≠ D := fun z => by subst z; rw [gD5] at hc; cases hc
                        rw [upd_ne this]; exact gA.gh c o hc
                      · have : c ≠ D := fun z => by subst z; rw [hD] at hh; cases hh
                        rw [upd_ne this]; exact gA.keep c o hc hh
        · have ei : i = xs.length := by omega
          subst ei
          refine .inl ⟨hstop (Nat.le_refl _), ?_⟩
          rw [List.drop_length] at ez
          cases ez
          rw [List.append_nil] at ey
          subst ey
          exact h _ G2 H2 g12 ⟨D, acc, rfl, g1.there I.sub hD, gD, hDa, rA⟩
      · exact h.elim
end
end PF

namespace PF
open PySem PySem.Spec PyProof.Rows L2 PySem.HandSPX
/-! ### the look at a text -/
structure SE where
  N : List Str
  sc : Scope
  fn : Str → Bool
structure PSt where
  fnN : List (Str × Nat)
  mtN : List (Str × Nat × Nat)
  glN : List (Str × Nat)
  fldN : List (Str × Nat × Nat)
  blN : List Str
  excN : List (Str × Nat)
def SE.comp (S : SE) (scope : Scope) : SE := ⟨S.N, relS scope S.sc, fun x => scope.names.lookup x == some .cell⟩
def visB (S : SE) (x : Str) : Bool := match S.sc.names.lookup x with
  | some .local => true | some .cell => true | some .free => true | _ => false
def locB (S : SE) (x : Str) : Bool := match S.sc.names.lookup x with
  | some .local => true | some .cell => S.fn x | _ => false
def notDbg (x : Str) : Bool := !(x == ("__debug__" : Str)) && !(x == ("__classdict__" : Str))
def okLoc (S : SE) (x : Str) (i : Nat) : Bool := decide (S.N[i]? = some x) && visB S x && notDbg x
def okGl (S : SE) (x : Str) : Bool := (match S.sc.names.lookup x with
  | some .globalImplicit => true | _ => false) && notDbg x
def okBl (P : PSt) (S : SE) (x : Str) : Bool := okGl S x && decide (x ∈ P.blN)
def all2 {α β : Type} (f : α → β → Bool) : List α → List β → Bool
  | [], [] => true
  | a :: as, b :: bs => f a b && all2 f as bs
  | _, _ => false
def opIs (o : Op) : Operator → Bool
  | .Add => decide (o = .add) | .Sub => decide (o = .sub) | .Mult => decide (o = .mul) | .FloorDiv => decide (o = .fdiv) | .Mod => decide (o = .mod) | .Pow => decide (o = .pow) | .BitAnd => decide (o = .band) | .RShift => decide (o = .shr) | _ => false
theorem opIs_ok {o : Op} {op : Operator} (h : opIs o op = true) : op = opOf o := by
  cases op <;> first | (have := of_decide_eq_true h; subst this; rfl) | cases h
def coIs (o : CO) : CmpOp → Bool
  | .Eq => decide (o = .eq) | .NotEq => decide (o = .ne) | .Lt => decide (o = .lt) | .LtE => decide (o = .le) | .Gt => decide (o = .gt) | .GtE => decide (o = .ge) | _ => false
theorem coIs_ok {o : CO} {op : CmpOp} (h : coIs o op = true) : op = coOf o := by
  cases op <;> first | (have := of_decide_eq_true h; subst this; rfl) | cases h
def notSlice : Expr → Bool
  | .Slice .. => false
  | _ => true
theorem plainIx_of {b : Expr} (h : notSlice b = true) : PlainIx b := by
  intro o i
  cases b <;> first | rfl | cases h
def notSet : Expr → Bool
  | .Set .. => false
  | _ => true
theorem notSet_fold {e : Expr} (h : notSet e = true) (env : Env) : ∀ x, foldedSetIterable e env x = pure x := by
  intro x
  cases e <;> first | rfl | cases h
theorem notSet_mark {e : Expr} {op : CmpOp} (h : notSet e = true) : behindInMarks op e = false := by
  cases e <;> first | rfl | cases h
def chkTg (S : SE) (tg : Expr) : Tg → Bool
  | .nm i => match tg with
    | .Name x _ => decide (S.N[i]? = some x) && locB S x
    | _ => false
  | .tp is => match tg with
    | .Tuple es _ _ => nmsOk S.N (locB S) es is
    | _ => false
def tgIs : Tg → List Nat
  | .nm i => [i]
  | .tp is => is
def isEmptyL {α : Type} : List α → Bool
  | [] => true
  | _ => false
def chkE (P : PSt) : Nat → SE → Expr → Ex → Bool
  | 0, _, _, _ => false
  | n + 1, S, e, x => match x with
    | .lo i => match e with
      | .Name id _ => okLoc S id i
      | _ => false
    | .gl g => match e with
      | .Name id _ => okGl S id && decide (P.glN.lookup id = some g)
      | _ => false
    | .non => match e with
      | .Constant .none _ _ => true
      | _ => false
    | .bl b => match e with
      | .Constant (.bool c) _ _ => b == c
      | _ => false
    | .int i => match e with
      | .Constant (.int j) _ _ => decide (i = j)
      | _ => false
    | .str s => match e with
      | .Constant (.str t) _ _ => decide (s = t)
      | _ => false
    | .bin o a' b' => match e with
      | .BinOp a op b _ => opIs o op && chkE P n S a a' && chkE P n S b b'
      | _ => false
    | .neg a' => match e with
      | .UnaryOp .USub a _ => chkE P n S a a'
      | _ => false
    | .not a' => match e with
      | .UnaryOp .Not a _ => chkE P n S a a'
      | _ => false
    | .cmp o a' b' => match e with
      | .Compare a [op] [b] _ => coIs o op && chkE P n S a a' && chkE P n S b b'
      | _ => false
    | .isN a' => match e with
      | .Compare a [.Is] [.Constant .none _ _] _ => chkE P n S a a'
      | _ => false
    | .notN a' => match e with
      | .Compare a [.IsNot] [.Constant .none _ _] _ => chkE P n S a a'
      | _ => false
    | .isin neg a' b' => match e with
      | .Compare a [op] [b] _ => (match op with | .In => !neg | .NotIn => neg | _ => false) && notSet b && chkE P n S a a' && chkE P n S b b'
      | _ => false
    | .rev a' => match e with
      | .Subscript a (.Slice none none (some (.UnaryOp .USub (.Constant (.int 1) _ _) _)) _) _ => chkE P n S a a'
      | _ => false
    | .isB g b a' => match e with
      | .Compare a [.Is] [.Constant (.bool c) _ _] _ => !g && b == c && chkE P n S a a'
      | .Compare a [.IsNot] [.Constant (.bool c) _ _] _ => g && b == c && chkE P n S a a'
      | _ => false
    | .chain o o' a' b' c' => match e with
      | .Compare a [op, op'] [b, c] _ => ordC o && coIs o op && coIs o' op' && chkE P n S a a' && chkE P n S b b' && chkE P n S c c'
      | _ => false
    | .and a' b' => match e with
      | .BoolOp .And (a :: b :: r) pos => chkE P n S a a' && (if isEmptyL r then chkE P n S b b' else chkE P n S (.BoolOp .And (b :: r) pos) b')
      | _ => false
    | .or a' b' => match e with
      | .BoolOp .Or (a :: b :: r) pos => chkE P n S a a' && (if isEmptyL r then chkE P n S b b' else chkE P n S (.BoolOp .Or (b :: r) pos) b')
      | _ => false
    | .ite c' a' b' => match e with
      | .IfExp c a b _ => chkE P n S c c' && chkE P n S a a' && chkE P n S b b'
      | _ => false
    | .tup es' => match e with
      | .Tuple es _ _ => es.all nostar && all2 (chkE P n S) es es'
      | _ => false
    | .lst es' => match e with
      | .List es _ => es.all nostar && all2 (chkE P n S) es es'
      | _ => false
    | .ix a' b' => match e with
      | .Subscript a b _ => notSlice b && chkE P n S a a' && chkE P n S b b'
      | _ => false
    | .sl a' lo' hi' => match e with
      | .Subscript a (.Slice lo hi none _) _ => chkE P n S a a' &&
          (match lo with | none => lo'.isNon | some l => !lo'.isNon && chkE P n S l lo') &&
          (match hi with | none => hi'.isNon | some l => !hi'.isNon && chkE P n S l hi')
      | _ => false
    | .call f es' => match e with
      | .Call (.Name id _) es [] _ => okGl S id && decide (P.fnN.lookup id = some f) && es.all nostar && all2 (chkE P n S) es es'
      | _ => false
    | .meth f c o' es' => match e with
      | .Call (.Attribute o m apos) es [] pos => decide (P.mtN.lookup m = some (f, c)) && plainRecv o && (apos.endLine == pos.line) && decide (es.length < 30) && es.all nostar && chkE P n S o o' && all2 (chkE P n S) es es'
      | _ => false
    | .fld c j o' => match e with
      | .Attribute o m _ => decide (P.fldN.lookup m = some (c, j)) && plainRecv o && chkE P n S o o'
      | _ => false
    | .blt b es' => match e with
      | .Call (.Name id _) (a :: es) [] _ => decide (id = blName b) && okBl P S id && (a :: es).all nostar && all2 (chkE P n S) (a :: es) es'
      | _ => false
    | .isi a' t => match e with
      | .Call (.Name id _) [a, .Name ty _] [] _ => decide (id = "isinstance") && decide (ty = tyStr t) && okBl P S id && okBl P S ty && nostar a && chkE P n S a a'
      | _ => false
    | .lc tg' it' cs' e' own => match e with
      | .ListComp elt [⟨tg, iter, ifs, 0⟩] scope _ =>
        chkTg (S.comp scope) tg tg' && (tgIs tg').all (fun i => decide (i ∈ own)) && notSet iter &&
        (match it' with
          | .ex x' => chkE P n S iter x'
          | .rng1 a' => (match iter with
            | .Call (.Name id _) [a] [] _ => decide (id = "range") && okBl P S id && nostar a && chkE P n S a a'
            | _ => false)
          | .rng2 a' b' => (match iter with
            | .Call (.Name id _) [a, b] [] _ => decide (id = "range") && okBl P S id && nostar a && nostar b && chkE P n S a a' && chkE P n S b b'
            | _ => false)) &&
        decide (ifs.length ≤ 1) && all2 (chkE P n (S.comp scope)) ifs cs' && chkE P n (S.comp scope) elt e' &&
        blkC S.N S.sc scope (own.map fun i => (S.N.getD i (Str.ofString ""), i))
      | _ => false
def chkIt (P : PSt) (n : Nat) (S : SE) (iter : Expr) : Ii → Bool
  | .ex x' => chkE P n S iter x'
  | .rng1 a' => (match iter with
    | .Call (.Name id _) [a] [] _ => decide (id = "range") && okBl P S id && nostar a && chkE P n S a a'
    | _ => false)
  | .rng2 a' b' => (match iter with
    | .Call (.Name id _) [a, b] [] _ => decide (id = "range") && okBl P S id && nostar a && nostar b && chkE P n S a a' && chkE P n S b b'
    | _ => false)

/-! ### the world around -/
structure At (prog : Program) (w : World) (K : PySem.W.Frag) (mg : Str → Option Value) (base : Heap) (X : Cx) : Prop where
  prog : X.prog = prog
  w : X.w = w
  K : X.K = K
  mg : X.mg = mg
  base : X.base = base
structure Wd (P : PSt) (U : Uni) (C : Ctx) (k : Nat) (prog : Program) (w : World) (K : PySem.W.Frag) (mg : Str → Option Value) (base : Heap) : Prop where
  KU : K = U.K
  nb : NoBr C
  calls : ∀ x f, P.fnN.lookup x = some f → ∃ u, mg x = some u ∧ ∀ X W, At prog w K mg base X → Takes X W → Room k X.A → X.calm = true → Callable U C W X f u
  meths : ∀ m f c, P.mtN.lookup m = some (f, c) → ∃ fa, ∀ X W, At prog w K mg base X → Takes X W → Room k X.A → X.calm = true → MethOk U X c m fa ∧ Callable U C W X f (.ref fa)
  flds : ∀ m c j, P.fldN.lookup m = some (c, j) → ∀ X, At prog w K mg base X → FldOk U X c j m
  gls : ∀ x g, P.glN.lookup x = some g → ∃ u v, mg x = some u ∧ RelV v u ∧ ∀ G, Rep U G v (C.gl g)
  blt : ∀ x, x ∈ P.blN → mg x = none
  dct : ∀ X, At prog w K mg base X → DctOk U X
  excs : ∀ x c, P.excN.lookup x = some c → mg x = some (.ref (U.exc c)) ∧ PySem.W.excIn K (U.exc c) veTail "ValueError.__new__" = true ∧ PySem.W.keepIn K (.ref (U.exc c)) = true ∧
    PySem.W.subIn K (.ref (U.exc c)) (.type "BaseException") = some true ∧ PySem.W.typeIn K (.ref (U.exc c)) = some (.type "type")
structure XOk (k : Nat) (prog : Program) (w : World) (K : PySem.W.Frag) (mg : Str → Option Value) (base : Heap) (S : SE) (W : WX) (X : Cx) : Prop where
  at_ : At prog w K mg base X
  tk : Takes X W
  room : Room k X.A
  calm : X.calm = true
  sc : X.env.scope = S.sc
  N : X.N = S.N
  nd : S.N.Nodup
  fn : ∀ x, X.fn x = S.fn x
section
variable {P : PSt} {U : Uni} {C : Ctx} {k : Nat} {prog : Program} {w : World} {K : PySem.W.Frag} {mg : Str → Option Value} {base : Heap} {S : SE} {W : WX} {X : Cx}
theorem visB_ok (h : XOk k prog w K mg base S W X) {x : Str} (v : visB S x = true) : Vis X.env.scope x := by
  unfold visB at v
  rw [← h.sc] at v
  unfold Vis
  split at v
  · exact .inl (by assumption)
  · exact .inr (.inl (by assumption))
  · exact .inr (.inr (by assumption))
  · cases v
theorem locB_ok (h : XOk k prog w K mg base S W X) {x : Str} (v : locB S x = true) : L2.Loc X.env.scope x ∧ (X.fn x = true ∨ X.env.scope.names.lookup x = some .local) := by
  unfold locB at v
  rw [← h.sc] at v
  unfold L2.Loc
  split at v
  · rename_i e
    exact ⟨.inl e, .inr e⟩
  · rename_i e
    refine ⟨.inr e, .inl ?_⟩
    rw [h.fn]
    exact v
  · cases v
theorem okGl_ok (h : XOk k prog w K mg base S W X) {x : Str} (v : okGl S x = true) : Gl X x ∧ (x == ("__debug__" : Str)) = false := by
  unfold okGl at v
  rw [Bool.and_eq_true] at v
  obtain ⟨v1, v2⟩ := v
  rw [← h.sc] at v1
  unfold notDbg at v2
  rw [Bool.and_eq_true] at v2
  refine ⟨?_, by simpa using v2.1⟩
  split at v1
  · assumption
  · cases v1
theorem okLoc_ok (h : XOk k prog w K mg base S W X) {x : Str} {i : Nat} (v : okLoc S x i = true) : X.N[i]? = some x ∧ Vis X.env.scope x ∧ (x == ("__debug__" : Str)) = false ∧ (x == ("__classdict__" : Str)) = false := by
  unfold okLoc at v
  rw [Bool.and_eq_true, Bool.and_eq_true] at v
  obtain ⟨⟨v1, v2⟩, v3⟩ := v
  unfold notDbg at v3
  rw [Bool.and_eq_true] at v3
  exact ⟨by rw [h.N]; exact of_decide_eq_true v1, visB_ok h v2, by simpa using v3.1, by simpa using v3.2⟩
theorem okBl_ok (hw : Wd P U C k prog w K mg base) (h : XOk k prog w K mg base S W X) {x : Str} (v : okBl P S x = true) : Gl X x ∧ X.mg x = none := by
  unfold okBl at v
  rw [Bool.and_eq_true] at v
  refine ⟨(okGl_ok h v.1).1, ?_⟩
  rw [h.at_.mg]
  exact hw.blt x (of_decide_eq_true v.2)
theorem chkTg_ok (hw : Wd P U C k prog w K mg base) (h : XOk k prog w K mg base S W X) {tg : Expr} {t : Tg} {B : Hp} (v : chkTg S tg t = true) : PG X tg (tTg U B (tgIs t) (bindTg t)) := by
  have hK : X.K = U.K := h.at_.K.trans hw.KU
  have hN : X.N.Nodup := by rw [h.N]; exact h.nd
  cases t with
  | nm i =>
    unfold chkTg at v
    dsimp only at v
    split at v
    · rw [Bool.and_eq_true] at v
      obtain ⟨h1, h2⟩ := locB_ok h v.2
      exact cb_gnm hN (by rw [h.N]; exact of_decide_eq_true v.1) h1 h2
    · cases v
  | tp is =>
    unfold chkTg at v
    dsimp only at v
    split at v
    · exact cb_gtp hK h.calm hN (fun x hx => locB_ok h hx) (by rw [h.N]; exact v)
    · cases v
theorem XOk.blk (h : XOk k prog w K mg base S W X) (s : Shared) (H : Hp) (scope : Scope) (cl : List (Str × Addr)) (Ca : Addr) (fp : List Addr) :
    XOk k prog w K mg base (S.comp scope) W0 (X.blk s H scope (compEnvC scope cl Ca X.env) fp) where
  at_ := ⟨h.at_.prog, h.at_.w, h.at_.K, h.at_.mg, h.at_.base⟩
  tk := takes0
  room := h.room
  calm := h.calm
  sc := by
    show relS scope X.env.scope = relS scope S.sc
    rw [h.sc]
  N := h.N
  nd := h.nd
  fn := fun x => rfl
theorem chkE_star {n : Nat} {e : Expr} {x : Ex} (h : chkE P n S e x = true) : nostar e = true := by
  cases e <;> first | rfl | skip
  cases n with
  | zero => cases h
  | succ n => cases x <;> cases h

abbrev ClE (P : PSt) (U : Uni) (C : Ctx) (k : Nat) (prog : Program) (w : World) (K : PySem.W.Frag) (mg : Str → Option Value) (base : Heap) (n : Nat) : Prop :=
  ∀ (S : SE) (X : Cx) (W : WX) (B : Hp) (e : Expr) (x : Ex), XOk k prog w K mg base S W X → chkE P n S e x = true → PE X e (tR U W B (ev C x))
abbrev ClT (P : PSt) (U : Uni) (C : Ctx) (k : Nat) (prog : Program) (w : World) (K : PySem.W.Frag) (mg : Str → Option Value) (base : Heap) (n : Nat) : Prop :=
  ∀ (S : SE) (X : Cx) (W : WX) (B : Hp) (e : Expr) (x : Ex), XOk k prog w K mg base S W X → chkE P n S e x = true → PT X e (tBo U W B (asB (ev C x)))
abbrev ClW (P : PSt) (U : Uni) (C : Ctx) (k : Nat) (prog : Program) (w : World) (K : PySem.W.Frag) (mg : Str → Option Value) (base : Heap) (n : Nat) : Prop :=
  ∀ (S : SE) (X : Cx) (W : WX) (B : Hp) (op : BoolOp) (vs : List Expr) (pos : Pos) (x : Ex), XOk k prog w K mg base S W X → chkE P n S (.BoolOp op vs pos) x = true → PW X (.BoolOp op vs pos) (tBo U W B (asB (ev C x)))
theorem args_ok {n : Nat} {B : Hp} (hE : ClE P U C k prog w K mg base n) (h : XOk k prog w K mg base S W X) : ∀ {es : List Expr} {xs : List Ex}, es.all nostar = true → all2 (chkE P n S) es xs = true → PA X es (tAr U W B (evs C xs))
  | [], [], _, _ => cb_nil
  | e :: es, x :: xs, hs, ha => by
    rw [List.all_cons, Bool.and_eq_true] at hs
    unfold all2 at ha
    rw [Bool.and_eq_true] at ha
    exact cb_cons (hE S X W B e x h ha.1) (args_ok hE h hs.2 ha.2) (star_cons hs.1)
  | [], _ :: _, _, ha => by cases ha
  | _ :: _, [], _, ha => by cases ha
theorem args_okb {n : Nat} {B : Hp} (hE : ClE P U C k prog w K mg base n) (h : XOk k prog w K mg base S W X) : ∀ {es : List Expr} {xs : List Ex}, es.all nostar = true → all2 (chkE P n S) es xs = true → PA X es (tAb U W B (evb C xs))
  | [], [], _, _ => cb_bnil
  | e :: es, x :: xs, hs, ha => by
    rw [List.all_cons, Bool.and_eq_true] at hs
    unfold all2 at ha
    rw [Bool.and_eq_true] at ha
    exact cb_bcons (hE S X W B e x h ha.1) (args_okb hE h hs.2 ha.2) (star_cons hs.1)
  | [], _ :: _, _, ha => by cases ha
  | _ :: _, [], _, ha => by cases ha
theorem iter_ok {n : Nat} {B : Hp} {tg iter : Expr} {it : Ii} (hw : Wd P U C k prog w K mg base) (hE : ClE P U C k prog w K mg base n) (h : XOk k prog w K mg base S W X) (hc : chkIt P n S iter it = true) : PI X tg iter (tIt U W B (evIt C it)) := by
  have hK : X.K = U.K := h.at_.K.trans hw.KU
  cases it with
  | ex x => exact cb_iter hK (hE S X W B iter x h hc)
  | rng1 a' =>
    unfold chkIt at hc
    dsimp only at hc
    split at hc
    · simp only [Bool.and_eq_true, decide_eq_true_eq] at hc
      obtain ⟨⟨⟨rfl, h1⟩, h2⟩, h3⟩ := hc
      obtain ⟨g1, g2⟩ := okBl_ok hw h h1
      exact cb_rng1 g1 g2 h2 (hE S X W B _ a' h h3)
    · cases hc
  | rng2 a' b' =>
    unfold chkIt at hc
    dsimp only at hc
    split at hc
    · simp only [Bool.and_eq_true, decide_eq_true_eq] at hc
      obtain ⟨⟨⟨⟨⟨rfl, h1⟩, h2⟩, h3⟩, h4⟩, h5⟩ := hc
      obtain ⟨g1, g2⟩ := okBl_ok hw h h1
      exact cb_rng2 g1 g2 h2 h3 (hE S X W B _ a' h h4) (hE S X W B _ b' h h5)
    · cases hc
theorem tBo_cong {B : Hp} {r r' : List Sl → Oc Bool} (e : ∀ env, r env = r' env) {σ : L2.St} {H : Hp} {Q : Bool → Hp → Prop} (h : tBo U W B r σ H Q) : tBo U W B r' σ H Q := by
  obtain ⟨G, env, I, h⟩ := h
  refine ⟨G, env, I, ?_⟩
  rw [← e]
  exact h
theorem ifs_ok {n : Nat} {B : Hp} (hT : ClT P U C k prog w K mg base n) (h : XOk k prog w K mg base S W X) : ∀ {es : List Expr} {xs : List Ex}, es.length ≤ 1 → all2 (chkE P n S) es xs = true → PTs X es (tBo U W B (evc C xs))
  | [], [], _, _ => ⟨fun pins s σ H Q I h => pts_nil.run pins s σ H Q I (tBo_pure h)⟩
  | [e], [x], _, ha => by
    unfold all2 at ha
    rw [Bool.and_eq_true] at ha
    refine ⟨fun pins s σ H Q I h' => (pts_one (hT S X W B e x h ha.1)).run pins s σ H Q I (tBo_cong (fun env => ?_) h')⟩
    show (ev C x env >>= fun x => oBool x.see >>= fun k => if k then Oc.ok true else Oc.ok false) = (ev C x env >>= fun x => oBool x.see)
    cases ev C x env with
    | no => rfl
    | ex c => rfl
    | ok r =>
      show (oBool r.see >>= fun k => if k then Oc.ok true else Oc.ok false) = oBool r.see
      cases oBool r.see with
      | no => rfl
      | ex c => rfl
      | ok k => cases k <;> rfl
  | [], _ :: _, _, ha => by cases ha
  | _ :: _, [], _, ha => by cases ha
  | [_], _ :: _ :: _, _, ha => by unfold all2 at ha; rw [Bool.and_eq_true] at ha; cases ha.2
  | _ :: _ :: _, _, hl, _ => by simp at hl

theorem pt_ifExp {c a b : Expr} {pos : Pos} {t1 t2 t3 : TT} (hc : PT X c t1) (ha : PT X a t2) (hb : PT X b t3) : PT X (.IfExp c a b pos) (fun σ H Q => t1 σ H fun k H1 => if k = true then t2 σ H1 Q else t3 σ H1 Q) := by
  refine ⟨fun pins s σ H Q I h => ?_⟩
  show wpAny _ _ (do if ← isTrue c X.env (eval c X.env) then isTrue a X.env (eval a X.env) else isTrue b X.env (eval b X.env)) _ _ _
  refine wpAny_bind (thn (hc.run pins s σ H _ I h) fun d s1 ⟨H1, I1, q1⟩ => ?_)
  cases d with
  | true => exact ha.run pins s1 σ H1 Q I1 q1
  | false => exact hb.run pins s1 σ H1 Q I1 q1
theorem cb_tite {B : Hp} {c a b : Expr} {pos : Pos} {rc ra rb : List Sl → Oc Rs} (hc : PT X c (tBo U W B (asB rc))) (ha : PT X a (tBo U W B (asB ra))) (hb : PT X b (tBo U W B (asB rb))) :
    PT X (.IfExp c a b pos) (tBo U W B (asB fun env => rc env >>= fun x => oBool x.see >>= fun k => if k then ra env else rb env)) :=
  PT.weak (pt_ifExp hc ha hb) fun σ H Q h => by
    have h : tBo U W B (fun env => asB rc env >>= fun k => if k then asB ra env else asB rb env) σ H Q := by
      refine tBo_cong (fun env => ?_) h
      unfold asB
      dsimp only
      cases rc env with
      | no => rfl
      | ex c => rfl
      | ok x =>
        show ((oBool x.see >>= fun k => if k then ra env else rb env) >>= fun x => oBool x.see) = (oBool x.see >>= fun k => if k = true then ra env >>= fun x => oBool x.see else rb env >>= fun x => oBool x.see)
        cases oBool x.see with
        | no => rfl
        | ex c => rfl
        | ok k => cases k <;> rfl
    refine tBo_then (f := fun k env => if k then asB ra env else asB rb env) h fun H1 x q => ?_
    cases x with
    | true => exact q
    | false => exact q
theorem sound_E (hw : Wd P U C k prog w K mg base) : ∀ n, ClE P U C k prog w K mg base n ∧ ClT P U C k prog w K mg base n ∧ ClW P U C k prog w K mg base n := by
  intro n
  induction n with
  | zero =>
    refine ⟨?_, ?_, ?_⟩
    · intro S X W B e x h hc
      cases hc
    · intro S X W B e x h hc
      cases hc
    · intro S X W B op vs pos x h hc
      cases hc
  | succ n ih =>
    obtain ⟨hE, hT, hW⟩ := ih
    have hE1 : ClE P U C k prog w K mg base (n + 1) := by
      intro S X W B e x h hc
      have hK : X.K = U.K := h.at_.K.trans hw.KU
      have hN : X.N.Nodup := by rw [h.N]; exact h.nd
      have hu : X.A.units + 64 < cLine := h.room.units
      cases x with
      | lo i =>
        unfold chkE at hc
        dsimp only at hc
        split at hc
        · obtain ⟨h1, h2, h3, h4⟩ := okLoc_ok h hc
          exact cb_lo h1 h2 h3 h4
        · cases hc
      | gl g =>
        unfold chkE at hc
        dsimp only at hc
        split at hc
        · simp only [Bool.and_eq_true, decide_eq_true_eq] at hc
          obtain ⟨h1, h2⟩ := okGl_ok h hc.1
          obtain ⟨u, v, h3, h4, h5⟩ := hw.gls _ _ hc.2
          exact cb_ct (pe_glob h1 (by rw [h.at_.mg]; exact h3) h4 h2) h5
        · cases hc
      | non =>
        unfold chkE at hc
        dsimp only at hc
        split at hc
        · exact cb_ct pe_non fun _ => Rep.non
        · cases hc
      | bl b =>
        unfold chkE at hc
        dsimp only at hc
        split at hc
        · have e := eq_of_beq hc
          subst e
          exact cb_ct pe_bl fun _ => Rep.bl _
        · cases hc
      | int i =>
        unfold chkE at hc
        dsimp only at hc
        split at hc
        · have e := of_decide_eq_true hc
          subst e
          exact cb_ct pe_int fun _ => Rep.int _
        · cases hc
      | str s =>
        unfold chkE at hc
        dsimp only at hc
        split at hc
        · have e := of_decide_eq_true hc
          subst e
          exact cb_ct pe_str fun _ => Rep.str _
        · cases hc
      | bin o a' b' =>
        unfold chkE at hc
        dsimp only at hc
        split at hc
        · simp only [Bool.and_eq_true] at hc
          have e := opIs_ok hc.1.1
          subst e
          exact cb_bin hK (hE S X W B _ a' h hc.1.2) (hE S X W B _ b' h hc.2)
        · cases hc
      | neg a' =>
        unfold chkE at hc
        dsimp only at hc
        split at hc
        · exact cb_un (op := .USub) (hE S X W B _ a' h hc)
        · cases hc
      | not a' =>
        unfold chkE at hc
        dsimp only at hc
        split at hc
        · exact cb_not (hE S X W B _ a' h hc)
        · cases hc
      | cmp o a' b' =>
        unfold chkE at hc
        dsimp only at hc
        split at hc
        · simp only [Bool.and_eq_true] at hc
          have e := coIs_ok hc.1.1
          subst e
          exact cb_cmp hK hu (hE S X W B _ a' h hc.1.2) (hE S X W B _ b' h hc.2)
        · cases hc
      | isN a' =>
        unfold chkE at hc
        dsimp only at hc
        split at hc
        · exact cb_isN (hE S X W B _ a' h hc)
        · cases hc
      | notN a' =>
        unfold chkE at hc
        dsimp only at hc
        split at hc
        · exact cb_notN (hE S X W B _ a' h hc)
        · cases hc
      | isin neg a' b' =>
        unfold chkE at hc
        dsimp only at hc
        split at hc
        · rename_i op b _
          simp only [Bool.and_eq_true] at hc
          have e : op = inOf neg := by
            have h1 := hc.1.1.1
            cases op <;> cases neg <;> first | rfl | cases h1
          subst e
          exact cb_isin hK (notSet_mark hc.1.1.2) (hE S X W B _ a' h hc.1.2) (hE S X W B _ b' h hc.2)
        · cases hc
      | rev a' =>
        unfold chkE at hc
        dsimp only at hc
        split at hc
        · exact cb_rev hK (hE S X W B _ a' h hc)
        · cases hc
      | isB g b a' =>
        unfold chkE at hc
        dsimp only at hc
        split at hc
        · simp only [Bool.and_eq_true] at hc
          obtain ⟨⟨h1, h2⟩, h3⟩ := hc
          obtain rfl := eq_of_beq h2
          cases g with
          | true => cases h1
          | false => exact cb_isB (hE S X W B _ a' h h3)
        · simp only [Bool.and_eq_true] at hc
          obtain ⟨⟨h1, h2⟩, h3⟩ := hc
          obtain rfl := eq_of_beq h2
          cases g with
          | false => cases h1
          | true => exact cb_isnB (hE S X W B _ a' h h3)
        · cases hc
      | chain o o' a' b' c' =>
        unfold chkE at hc
        dsimp only at hc
        split at hc
        · simp only [Bool.and_eq_true] at hc
          have e1 := coIs_ok hc.1.1.1.1.2
          have e2 := coIs_ok hc.1.1.1.2
          subst e1 e2
          exact cb_chain hc.1.1.1.1.1 hK hu (hE S X W B _ a' h hc.1.1.2) (hE S X W B _ b' h hc.1.2) (hE S X W B _ c' h hc.2)
        · cases hc
      | and a' b' =>
        unfold chkE at hc
        dsimp only at hc
        split at hc
        · rename_i a b r pos
          rw [Bool.and_eq_true] at hc
          cases r with
          | nil => exact cb_and (hE S X W B _ a' h hc.1) (pe_one (hE S X W B _ b' h hc.2))
          | cons b2 r => exact cb_and (hE S X W B _ a' h hc.1) (hE S X W B _ b' h hc.2)
        · cases hc
      | or a' b' =>
        unfold chkE at hc
        dsimp only at hc
        split at hc
        · rename_i a b r pos
          rw [Bool.and_eq_true] at hc
          cases r with
          | nil => exact cb_or (hE S X W B _ a' h hc.1) (pe_one (hE S X W B _ b' h hc.2))
          | cons b2 r => exact cb_or (hE S X W B _ a' h hc.1) (hE S X W B _ b' h hc.2)
        · cases hc
      | ite c' a' b' =>
        unfold chkE at hc
        dsimp only at hc
        split at hc
        · simp only [Bool.and_eq_true] at hc
          exact cb_ite (hT S X W B _ c' h hc.1.1) (hE S X W B _ a' h hc.1.2) (hE S X W B _ b' h hc.2)
        · cases hc
      | tup es' =>
        unfold chkE at hc
        dsimp only at hc
        split at hc
        · rw [Bool.and_eq_true] at hc
          exact cb_tup (args_ok hE h hc.1 hc.2)
        · cases hc
      | lst es' =>
        unfold chkE at hc
        dsimp only at hc
        split at hc
        · rw [Bool.and_eq_true] at hc
          exact cb_lst (args_ok hE h hc.1 hc.2)
        · cases hc
      | ix a' b' =>
        unfold chkE at hc
        dsimp only at hc
        split at hc
        · simp only [Bool.and_eq_true] at hc
          exact cb_ix hK (hw.dct X h.at_) (plainIx_of hc.1.1) (hE S X W B _ a' h hc.1.2) (hE S X W B _ b' h hc.2)
        · cases hc
      | sl a' lo' hi' =>
        unfold chkE at hc
        dsimp only at hc
        split at hc
        · rename_i a lo hi p2 p
          rw [Bool.and_eq_true, Bool.and_eq_true] at hc
          have part : ∀ {l : Option Expr} {l' : Ex}, (match l with | none => l'.isNon | some l => !l'.isNon && chkE P n S l l') = true → PO X l (tPo U W B fun env => if l'.isNon then .ok none else ev C l' env >>= fun l => oInt l.see >>= fun i => .ok (some i)) := fun {l l'} hl => by
            cases l with
            | none =>
              have hl : l'.isNon = true := hl
              simp only [hl, if_true]
              exact cb_po0
            | some l =>
              have hl : (!l'.isNon && chkE P n S l l') = true := hl
              rw [Bool.and_eq_true] at hl
              have hf : l'.isNon = false := by simpa using hl.1
              simp only [hf, Bool.false_eq_true, if_false]
              exact cb_po1 (hE S X W B _ l' h hl.2)
          exact cb_sl hK (hE S X W B _ a' h hc.1.1) (part hc.1.2) (part hc.2)
        · cases hc
      | call f es' =>
        unfold chkE at hc
        dsimp only at hc
        split at hc
        · rename_i id p es pos
          simp only [Bool.and_eq_true, decide_eq_true_eq] at hc
          obtain ⟨⟨⟨h1, h2⟩, h3⟩, h4⟩ := hc
          obtain ⟨g1, g2⟩ := okGl_ok h h1
          obtain ⟨u, h5, h6⟩ := hw.calls _ _ h2
          have hc := h6 X W h.at_ h.tk h.room h.calm
          cases es with
          | nil =>
            cases es' with
            | nil => exact cb_call0 hw.nb g1 g2 (by rw [h.at_.mg]; exact h5) hc
            | cons _ _ => cases h4
          | cons e es => exact cb_call hw.nb g1 g2 (by rw [h.at_.mg]; exact h5) hc h3 (args_ok hE h h3 h4)
        · cases hc
      | meth f c o' es' =>
        unfold chkE at hc
        dsimp only at hc
        split at hc
        · rename_i o m apos es pos
          simp only [Bool.and_eq_true, decide_eq_true_eq] at hc
          obtain ⟨⟨⟨⟨⟨⟨h1, h2⟩, h3⟩, h4⟩, h5⟩, h6⟩, h7⟩ := hc
          obtain ⟨fa, h8⟩ := hw.meths _ _ _ h1
          obtain ⟨mo, hc⟩ := h8 X W h.at_ h.tk h.room h.calm
          cases es with
          | nil =>
            cases es' with
            | nil => exact cb_meth0 hw.nb mo hc h2 h3 (hE S X W B _ o' h h6)
            | cons _ _ => cases h7
          | cons e es => exact cb_meth hw.nb mo hc h2 h3 (decide_eq_true h4) h5 (hE S X W B _ o' h h6) (args_ok hE h h5 h7)
        · cases hc
      | fld c j o' =>
        unfold chkE at hc
        dsimp only at hc
        split at hc
        · simp only [Bool.and_eq_true, decide_eq_true_eq] at hc
          exact cb_fld (hw.flds _ _ _ hc.1.1 X h.at_) hc.1.2 (hE S X W B _ o' h hc.2)
        · cases hc
      | blt b es' =>
        unfold chkE at hc
        dsimp only at hc
        split at hc
        · simp only [Bool.and_eq_true, decide_eq_true_eq] at hc
          obtain ⟨⟨⟨rfl, h1⟩, h2⟩, h3⟩ := hc
          obtain ⟨g1, g2⟩ := okBl_ok hw h h1
          exact cb_blt h.calm hK g1 g2 (by simpa using h2) (args_okb hE h (by simpa using h2) h3)
        · cases hc
      | isi a' t =>
        unfold chkE at hc
        dsimp only at hc
        split at hc
        · simp only [Bool.and_eq_true, decide_eq_true_eq] at hc
          obtain ⟨⟨⟨⟨⟨rfl, rfl⟩, h1⟩, h2⟩, h3⟩, h4⟩ := hc
          obtain ⟨g1, g2⟩ := okBl_ok hw h h1
          obtain ⟨g3, g4⟩ := okBl_ok hw h h2
          exact cb_isi hK g1 g2 g3 g4 h3 (hE S X W B _ a' h h4)
        · cases hc
      | lc tg' it' cs' e' own =>
        unfold chkE at hc
        dsimp only at hc
        split at hc
        · rename_i elt tg iter ifs scope pos
          simp only [Bool.and_eq_true] at hc
          obtain ⟨⟨⟨⟨⟨⟨⟨h1, h2⟩, h3⟩, h4⟩, h5⟩, h6⟩, h7⟩, h8⟩ := hc
          have hi : chkIt P n S iter it' = true := by cases it' <;> exact h4
          have own_eq : (own.map fun i => (S.N.getD i (Str.ofString ""), i)).map (·.2) = own := by
            rw [List.map_map]
            exact List.map_id' own
          have hl := pe_lc (own := own.map fun i => (S.N.getD i (Str.ofString ""), i)) (pos := pos) h.calm hN (iter_ok (B := B) hw hE h hi) (blkOk_by (by rw [h.N, h.sc]; exact h8))
            (fun s H Ca cl fp => chkTg_ok (B := B) hw (h.blk s H scope cl Ca fp) h1) (fun s H Ca cl fp => ifs_ok (B := B) hT (h.blk s H scope cl Ca fp) (of_decide_eq_true h5) h6) (fun s H Ca cl fp => hE _ _ _ B _ e' (h.blk s H scope cl Ca fp) h7) (notSet_fold h3 _)
          rw [own_eq] at hl
          refine PE.weak hl fun σ H Q hq => lc_run (fun i hi => ?_) hq
          have h2 := List.all_eq_true.mp h2 i hi
          exact of_decide_eq_true h2
        · cases hc
    have hW1 : ClW P U C k prog w K mg base (n + 1) := by
      intro S X W B op vs pos x h hc
      cases x with
      | and a' b' =>
        unfold chkE at hc
        dsimp only at hc
        split at hc
        · rename_i a b r pos e
          cases e
          rw [Bool.and_eq_true] at hc
          cases r with
          | nil => exact cb_wand (hT S X W B _ a' h hc.1) (pw_and1 (hT S X W B _ b' h hc.2))
          | cons b2 r => exact cb_wand (hT S X W B _ a' h hc.1) (hW S X W B _ _ _ b' h hc.2)
        · cases hc
      | or a' b' =>
        unfold chkE at hc
        dsimp only at hc
        split at hc
        · rename_i a b r pos e
          cases e
          rw [Bool.and_eq_true] at hc
          cases r with
          | nil => exact cb_wor (hT S X W B _ a' h hc.1) (pw_or1 (hT S X W B _ b' h hc.2))
          | cons b2 r => exact cb_wor (hT S X W B _ a' h hc.1) (hW S X W B _ _ _ b' h hc.2)
        · cases hc
      | _ => cases hc
    refine ⟨hE1, ?_, hW1⟩
    intro S X W B e x h hc
    have hK : X.K = U.K := h.at_.K.trans hw.KU
    have hu : X.A.units + 64 < cLine := h.room.units
    have dflt : (∀ whole, isTrue e X.env whole = (do let v ← whole; standAt e.pos; holding [v] (truthy v))) → PT X e (tBo U W B (asB (ev C x))) := fun he => cb_tval (hE1 S X W B e x h hc) he
    cases e with
    | BoolOp op vs pos => exact (hW1 S X W B op vs pos x h hc).pt
    | UnaryOp op a pos =>
      cases x with
      | neg a' =>
        cases op <;> first | (exact dflt fun _ => rfl) | cases hc
      | not a' =>
        cases op with
        | Not => exact cb_tnot (hT S X W B a a' h hc)
        | _ => cases hc
      | _ => cases hc
    | Compare a ops bs pos =>
      cases x with
      | cmp o a' b' =>
        unfold chkE at hc
        dsimp only at hc
        split at hc
        · rename_i a op b pos e
          cases e
          simp only [Bool.and_eq_true] at hc
          have e := coIs_ok hc.1.1
          subst e
          exact cb_tcmp hK hu (hE S X W B _ a' h hc.1.2) (hE S X W B _ b' h hc.2)
        · cases hc
      | isN a' =>
        unfold chkE at hc
        dsimp only at hc
        split at hc
        · rename_i e
          cases e
          exact cb_tisN (hE S X W B _ a' h hc)
        · cases hc
      | notN a' =>
        unfold chkE at hc
        dsimp only at hc
        split at hc
        · rename_i e
          cases e
          exact cb_tnotN (hE S X W B _ a' h hc)
        · cases hc
      | isin neg a' b' =>
        unfold chkE at hc
        dsimp only at hc
        split at hc
        · rename_i a op b pos e
          cases e
          simp only [Bool.and_eq_true] at hc
          have e : op = inOf neg := by
            have h1 := hc.1.1.1
            cases op <;> cases neg <;> first | rfl | cases h1
          subst e
          exact cb_tisin hK (notSet_mark hc.1.1.2) (hE S X W B _ a' h hc.1.2) (hE S X W B _ b' h hc.2)
        · cases hc
      | isB g b a' =>
        unfold chkE at hc
        dsimp only at hc
        split at hc
        · rename_i e
          cases e
          simp only [Bool.and_eq_true] at hc
          obtain ⟨⟨h1, h2⟩, h3⟩ := hc
          obtain rfl := eq_of_beq h2
          cases g with
          | true => cases h1
          | false => exact cb_tisB (hE S X W B _ a' h h3)
        · rename_i e
          cases e
          simp only [Bool.and_eq_true] at hc
          obtain ⟨⟨h1, h2⟩, h3⟩ := hc
          obtain rfl := eq_of_beq h2
          cases g with
          | false => cases h1
          | true => exact cb_tisnB (hE S X W B _ a' h h3)
        · cases hc
      | chain o o' a' b' c' =>
        unfold chkE at hc
        dsimp only at hc
        split at hc
        · rename_i e
          cases e
          simp only [Bool.and_eq_true] at hc
          have e1 := coIs_ok hc.1.1.1.1.2
          have e2 := coIs_ok hc.1.1.1.2
          subst e1 e2
          exact cb_tchain hc.1.1.1.1.1 hK hu (hE S X W B _ a' h hc.1.1.2) (hE S X W B _ b' h hc.1.2) (hE S X W B _ c' h hc.2)
        · cases hc
      | _ => cases hc
    | IfExp c a b pos =>
      cases x with
      | ite c' a' b' =>
        exact cb_tite (hT S X W B _ c' h (by have := hc; simp only [chkE, Bool.and_eq_true] at this; exact this.1.1)) (hT S X W B _ a' h (by have := hc; simp only [chkE, Bool.and_eq_true] at this; exact this.1.2)) (hT S X W B _ b' h (by have := hc; simp only [chkE, Bool.and_eq_true] at this; exact this.2))
      | _ => cases hc
    | _ => exact dflt fun _ => rfl
end
end PF

namespace PF
open PySem PySem.Spec PyProof.Rows L2 PySem.HandSPX
section
variable {U : Uni} {W : WX} {B G0 : Hp} {X : Cx}
/-! ### statements -/
def PostS (U : Uni) (W : WX) (G0 B : Hp) (o : Oc Fl) (D : Ends) : Prop :=
  match o with
  | .no => False
  | .ex c => ∀ σ' G' H', Grow G0 B G' H' → W (.ref (U.exc c)) none σ' H'
  | .ok (.nx env') => ∀ σ' G' H', EnvOk U B G' H' env' σ' → Grow G0 B G' H' → D.nx σ' H'
  | .ok (.bk env') => ∀ σ' G' H', EnvOk U B G' H' env' σ' → Grow G0 B G' H' → D.bk σ' H'
  | .ok (.ct env') => ∀ σ' G' H', EnvOk U B G' H' env' σ' → Grow G0 B G' H' → D.ct σ' H'
  | .ok (.rt r) => ∀ v G' H', Grow G0 B G' H' → RsOk U B G' H' B v r → D.rt v H'
def tS (U : Uni) (W : WX) (B : Hp) (m : List Sl → Oc Fl) : TS := fun D σ H => ∃ G0 G env, EnvOk U B G H env σ ∧ Grow G0 B G H ∧ PostS U W G0 B (m env) D
theorem Grow.down {G1 H1 G' H' : Hp} (g : Grow G0 B G1 H1) (h : Grow G1 B G' H') : Grow G0 B G' H' where
  gg := g.gg.trans h.gg
  gh := h.gh
  keep := fun a o hg hb => h.keep a o (g.new a hg (by rw [hb]; simp)) hb
  new := fun a hg hb => h.new a (g.new a hg hb) hb
theorem Grow.up {G1 H1 G' H' : Hp} (g : Grow G0 B G1 H1) (h : Grow G0 B G' H') (s : Same G1 G') : Grow G1 B G' H' where
  gg := s
  gh := h.gh
  keep := fun a o hg hb => by
    refine h.keep a o ?_ hb
    cases e : G0 a with
    | none => rfl
    | some u => rw [g.gg a u e] at hg; cases hg
  new := fun a hg hb => by
    refine h.new a ?_ hb
    cases e : G0 a with
    | none => rfl
    | some u => rw [g.gg a u e] at hg; cases hg
theorem PostS.up {G1 H1 : Hp} {o : Oc Fl} {D : Ends} (g : Grow G0 B G1 H1) (h : PostS U W G0 B o D) : PostS U W G1 B o D := by
  unfold PostS at h ⊢
  split at h
  · exact h
  · exact fun σ' G' H' q => h σ' G' H' (g.down q)
  · exact fun σ' G' H' I q => h σ' G' H' I (g.down q)
  · exact fun σ' G' H' I q => h σ' G' H' I (g.down q)
  · exact fun σ' G' H' I q => h σ' G' H' I (g.down q)
  · exact fun v G' H' q => h v G' H' (g.down q)
/-- an expression ahead -/
theorem tS_ev {r : List Sl → Oc Rs} {k : Rs → List Sl → Oc Fl} {D : Ends} {σ : L2.St} {H : Hp} {Q : VK}
    (h : tS U W B (fun env => r env >>= fun x => k x env) D σ H)
    (hop : ∀ G0 G1 H1 G env v x, EnvOk U B G H env σ → EnvOk U B G1 H1 env σ → Grow G0 B G1 H1 → RsOk U B G1 H1 H v x → PostS U W G0 B (k x env) D → Q v H1) : tR U W B r σ H Q := by
  obtain ⟨G0, G, env, I, g0, h⟩ := h
  dsimp only at h
  refine ⟨G, env, I, ?_⟩
  unfold Post
  cases e : r env with
  | no => rw [e] at h; exact h
  | ex c => rw [e] at h; exact fun G' H' g => h σ G' H' (g0.trans g)
  | ok x =>
    rw [e, Oc.ok_bind] at h
    exact fun v G1 H1 g1 k1 => hop G0 G1 H1 G env v x I (I.later g1) (g0.trans g1) k1 h
theorem tS_evf {r : List Sl → Oc Rs} {k : Tr → List Sl → Oc Fl} {D : Ends} {σ : L2.St} {H : Hp} {Q : VK}
    (h : tS U W B (fun env => r env >>= Rs.fz >>= fun x => k x env) D σ H)
    (hop : ∀ G0 G1 H1 G env v x, EnvOk U B G H env σ → Grow G H G1 H1 → EnvOk U B G1 H1 env σ → Grow G0 B G1 H1 → Rep U G1 v x → PostS U W G0 B (k x env) D → Q v H1) : tR U W B r σ H Q := by
  obtain ⟨G0, G, env, I, g0, h⟩ := h
  have h : PostS U W G0 B ((r env >>= Rs.fz) >>= fun x => k x env) D := h
  refine tR_fz ⟨G, env, I, ?_⟩
  show PostT U W (r env >>= Rs.fz) G H σ _
  unfold PostT
  cases e : (r env >>= Rs.fz) with
  | no => rw [e] at h; exact h
  | ex c => rw [e] at h; exact fun G' H' g => h σ G' H' (g0.trans g)
  | ok x =>
    rw [e, Oc.ok_bind] at h
    exact fun v G1 H1 g1 k1 => hop G0 G1 H1 G env v x I g1 (I.later g1) (g0.trans g1) k1 h
/-- a list of one's own into a slot -/
theorem EnvOk.setO {G H H1 : Hp} {env : List Sl} {σ : L2.St} {i : Nat} {p : Addr} {vs : List V} {xs : List Tr} (I0 : EnvOk U B G H env σ) {G1 : Hp} (I : EnvOk U B G1 H1 env σ) (hp : H p = none) (hg : G1 p = none) (hh : H1 p = some (.lst vs)) (r : RepL U G1 vs xs) :
    EnvOk U B G1 H1 (env.set i (.ow xs)) (σ.set i (some (.ref p))) := by
  have other : ∀ j ys q, env[j]? = some (Sl.ow ys) → σ[j]? = some (some (V.ref q)) → q ≠ p := fun j ys q h1 h2 z => by
    subst z
    obtain ⟨p', vs', e1, _, _, e2, _⟩ := I0.rep j _ h1
    rw [h2] at e1
    cases e1
    rw [hp] at e2
    cases e2
  refine ⟨I.sub, I.old, by rw [List.length_set, List.length_set]; exact I.len, fun j s h => ?_, fun j k as bs q h1 h2 h3 h4 => ?_⟩
  · by_cases hj : i = j
    · subst hj
      by_cases hl : i < env.length
      · rw [List.getElem?_set_self hl] at h
        cases h
        exact ⟨p, vs, by rw [List.getElem?_set_self (by rw [I.len]; exact hl)], I0.old p hp, hg, hh, r⟩
      · rw [List.getElem?_eq_none (by rw [List.length_set]; omega)] at h
        cases h
    · rw [List.getElem?_set_ne hj] at h ⊢
      exact I.rep j s h
  · by_cases hj : i = j
    · by_cases hk : i = k
      · exact hj.symm.trans hk
      · exfalso
        subst hj
        rw [List.getElem?_set_ne hk] at h2 h4
        by_cases hl : i < σ.length
        · rw [List.getElem?_set_self hl] at h3
          cases h3
          exact other k bs p h2 h4 rfl
        · rw [List.getElem?_eq_none (by rw [List.length_set]; omega)] at h3
          cases h3
    · by_cases hk : i = k
      · exfalso
        subst hk
        rw [List.getElem?_set_ne hj] at h1 h3
        by_cases hl : i < σ.length
        · rw [List.getElem?_set_self hl] at h4
          cases h4
          exact other j as p h1 h3 rfl
        · rw [List.getElem?_eq_none (by rw [List.length_set]; omega)] at h4
          cases h4
      · rw [List.getElem?_set_ne hj] at h1 h3
        rw [List.getElem?_set_ne hk] at h2 h4
        exact I.sep j k as bs q h1 h2 h3 h4
theorem tAsg_nm {r : List Sl → Oc Rs} {te : TE} {i : Nat} {D : Ends} {σ : L2.St} {H : Hp} (hte : ∀ Q : VK, tR U W B r σ H Q → te σ H Q)
    (h : tS U W B (fun env => r env >>= fun x => asgR (.nm i) x env >>= fun env' => .ok (.nx env')) D σ H) : tAsg te (gName i) D σ H := by
  refine hte _ (tS_ev (k := fun x env => asgR (.nm i) x env >>= fun env' => .ok (.nx env')) h fun G0 G1 H1 G env v x I0 I g k q => ?_)
  show D.nx (σ.set i (some v)) H1
  have e : asgR (.nm i) x env = putR i x env := rfl
  rw [e] at q
  unfold putR at q
  split at q
  · cases x with
    | im t => exact q _ G1 H1 (I.set k) g
    | ow xs =>
      obtain ⟨p, vs, rfl, hp, hg, hh, rr⟩ := k
      exact q _ G1 H1 (I0.setO I hp hg hh rr) g
    | br xs => exact q.elim
  · exact q.elim
theorem tAsg_tp {r : List Sl → Oc Rs} {is : List Nat} {D : Ends} {σ : L2.St} {H : Hp}
    (h : tS U W B (fun env => r env >>= fun x => asgR (.tp is) x env >>= fun env' => .ok (.nx env')) D σ H) : tAsg (tR U W B r) (tTg U B is (bindTg (.tp is))) D σ H := by
  refine tS_ev (k := fun x env => asgR (.tp is) x env >>= fun env' => .ok (.nx env')) h fun G0 G1 H1 G env v x I0 I g k q => ?_
  cases x with
  | ow xs => exact q.elim
  | br xs => exact q.elim
  | im t =>
    refine ⟨G1, env, t, I, k, ?_⟩
    have e : asgR (.tp is) (.im t) env = bindTg (.tp is) t env := by cases t <;> rfl
    rw [e] at q
    cases e2 : bindTg (.tp is) t env with
    | no => rw [e2] at q; exact q
    | ex c =>
      exfalso
      cases t <;> first | cases e2 | skip
      have e2 : (if is.length = _ then bindTp is _ env else .no : Oc (List Sl)) = .ex c := e2
      split at e2
      · exact bindTp_ex e2
      · cases e2
    | ok env' =>
      rw [e2] at q
      exact fun σ' _ I' => q σ' G1 H1 I' g
where
  bindTp_ex : ∀ {is : List Nat} {ts : List Tr} {env : List Sl} {c : Nat}, bindTp is ts env ≠ .ex c
    | [], [], _, _, h => by cases h
    | [], _ :: _, _, _, h => by cases h
    | _ :: _, [], _, _, h => by cases h
    | i :: is, t :: ts, env, c, h => by
      unfold bindTp at h
      cases e : bindNm env i t with
      | no => rw [e] at h; cases h
      | ex c => unfold bindNm at e; split at e <;> cases e
      | ok env' => rw [e, Oc.ok_bind] at h; exact bindTp_ex h
/-- freezing a slot -/
theorem EnvOk.freeze {G H : Hp} {env : List Sl} {σ : L2.St} {i : Nat} {xs : List Tr} (I : EnvOk U B G H env σ) (g : Grow G0 B G H) (h : env[i]? = some (.ow xs)) : ∃ G1, EnvOk U B G1 H (env.set i (.im (.lst xs))) σ ∧ Grow G0 B G1 H := by
  obtain ⟨p, vs, e1, e2, e3, e4, e5⟩ := I.rep i _ h
  have gs : Same G (upd G p (.lst vs)) := ghost_same e3
  refine ⟨upd G p (.lst vs), ⟨?_, I.old, by rw [List.length_set]; exact I.len, fun j s hj => ?_, fun j k as bs q h1 h2 h3 h4 => ?_⟩, g.ghost e2 e4 e3⟩
  · exact (g.ghost e2 e4 e3).gh
  · by_cases hij : i = j
    · subst hij
      by_cases hl : i < env.length
      · rw [List.getElem?_set_self hl] at hj
        cases hj
        exact ⟨_, e1, .lst (.inl (.inl upd_same)) (e5.mono gs)⟩
      · rw [List.getElem?_eq_none (by rw [List.length_set]; omega)] at hj
        cases hj
    · rw [List.getElem?_set_ne hij] at hj
      have q := I.rep j s hj
      cases s with
      | un => trivial
      | im t => obtain ⟨v, q1, q2⟩ := q; exact ⟨v, q1, q2.mono gs⟩
      | ow ys =>
        obtain ⟨p', vs', q1, q2, q3, q4, q5⟩ := q
        have hne : p' ≠ p := fun z => by
          subst z
          exact hij (I.sep i j xs ys p' h hj e1 q1)
        exact ⟨p', vs', q1, q2, by rw [upd_ne hne]; exact q3, q4, q5.mono gs⟩
  · have n1 : i ≠ j := fun e => by
      subst e
      by_cases hl : i < env.length
      · rw [List.getElem?_set_self hl] at h1; cases h1
      · rw [List.getElem?_eq_none (by rw [List.length_set]; omega)] at h1; cases h1
    have n2 : i ≠ k := fun e => by
      subst e
      by_cases hl : i < env.length
      · rw [List.getElem?_set_self hl] at h2; cases h2
      · rw [List.getElem?_eq_none (by rw [List.length_set]; omega)] at h2; cases h2
    rw [List.getElem?_set_ne n1] at h1
    rw [List.getElem?_set_ne n2] at h2
    exact I.sep j k as bs q h1 h2 h3 h4
/-- what stands at a slot is changed -/
theorem EnvOk.mut {G H : Hp} {env : List Sl} {σ : L2.St} {i : Nat} {p : Addr} {ws : List V} {xs ys : List Tr} (I : EnvOk U B G H env σ) (g : Grow G0 B G H) (h : env[i]? = some (.ow xs)) (hp : σ[i]? = some (some (V.ref p))) (r : RepL U G ws ys) :
    EnvOk U B G (upd H p (.lst ws)) (env.set i (.ow ys)) σ ∧ Grow G0 B G (upd H p (.lst ws)) := by
  obtain ⟨p', vs, e1, e2, e3, e4, e5⟩ := I.rep i _ h
  rw [hp] at e1
  cases e1
  have hi : i < env.length := (List.getElem?_eq_some_iff.mp h).1
  have sub : Same G (upd H p (.lst ws)) := fun c o hc => by
    have : c ≠ p := fun z => by subst z; rw [e3] at hc; cases hc
    rw [upd_ne this]; exact I.sub c o hc
  refine ⟨⟨sub, fun a ha => ?_, by rw [List.length_set]; exact I.len, fun j s hj => ?_, fun j k as bs q h1 h2 h3 h4 => ?_⟩, ⟨g.gg, sub, fun a o hg hb => ?_, g.new⟩⟩
  · by_cases z : a = p
    · subst z; rw [upd_same] at ha; cases ha
    · rw [upd_ne z] at ha; exact I.old a ha
  · by_cases hij : i = j
    · subst hij
      rw [List.getElem?_set_self hi] at hj
      cases hj
      exact ⟨p, ws, hp, e2, e3, upd_same, r⟩
    · rw [List.getElem?_set_ne hij] at hj
      have q := I.rep j s hj
      cases s with
      | un => trivial
      | im t => exact q
      | ow zs =>
        obtain ⟨p', vs', q1, q2, q3, q4, q5⟩ := q
        have hne : p' ≠ p := fun z => by
          subst z
          exact hij (I.sep i j xs zs p' h hj hp q1)
        exact ⟨p', vs', q1, q2, q3, by rw [upd_ne hne]; exact q4, q5⟩
  · have sl : ∀ (j : Nat) (zs : List Tr), (env.set i (Sl.ow ys))[j]? = some (Sl.ow zs) → ∃ zs', env[j]? = some (Sl.ow zs') := fun j zs hz => by
      by_cases hij : i = j
      · subst hij; exact ⟨xs, h⟩
      · rw [List.getElem?_set_ne hij] at hz; exact ⟨zs, hz⟩
    obtain ⟨as', h1⟩ := sl j as h1
    obtain ⟨bs', h2⟩ := sl k bs h2
    exact I.sep j k as' bs' q h1 h2 h3 h4
  · have : a ≠ p := fun z => by subst z; rw [e2] at hb; cases hb
    rw [upd_ne this]; exact g.keep a o hg hb
/-- a name's list, as it stands -/
theorem slot_at {G H : Hp} {env : List Sl} {σ : L2.St} {i : Nat} {xs : List Tr} (I : EnvOk U B G H env σ) (h : env[i]? = some (.ow xs)) : ∃ p vs, σ[i]? = some (some (V.ref p)) ∧ G p = none ∧ H p = some (.lst vs) ∧ RepL U G vs xs := by
  obtain ⟨p, vs, e1, e2, e3, e4, e5⟩ := I.rep i _ h
  exact ⟨p, vs, e1, e3, e4, e5⟩
theorem slotO_ok {env : List Sl} {i : Nat} {xs : List Tr} (h : slotO env i = .ok xs) : env[i]? = some (.ow xs) := by
  unfold slotO at h
  split at h
  · cases h; assumption
  · cases h
theorem slotO_ex {env : List Sl} {i c : Nat} : slotO env i ≠ .ex c := by
  unfold slotO
  split <;> intro h <;> cases h
theorem tS_app {r : List Sl → Oc Rs} {i : Nat} {D : Ends} {σ : L2.St} {H : Hp} {K : PySem.W.Frag}
    (h : tS U W B (fun env => slotO env i >>= fun xs => r env >>= Rs.fz >>= fun t => if sizeOk (xs.length + 1) then .ok (.nx (env.set i (.ow (xs ++ [t])))) else .no) D σ H) : tDrop (tBM K "list" rAppend (tVar i) (tCons (tR U W B r) tNil)) D σ H := by
  obtain ⟨G0, G, env, I, g, h⟩ := h
  dsimp only at h
  cases e : slotO env i with
  | no => rw [e] at h; exact h.elim
  | ex c => exact absurd e slotO_ex
  | ok xs =>
    rw [e, Oc.ok_bind] at h
    have hs := slotO_ok e
    obtain ⟨p, vs, e1, e2, e3, e4⟩ := slot_at I hs
    refine ⟨.ref p, e1, Or.inl ⟨rfl, vs, .inl (.inl e3)⟩, ?_⟩
    show tR U W B r σ H _
    have h2 : PostS U W G0 B ((r env >>= Rs.fz) >>= fun t => if sizeOk (xs.length + 1) then .ok (.nx (env.set i (.ow (xs ++ [t])))) else .no) D := h
    refine tR_fz ⟨G, env, I, ?_⟩
    show PostT U W (r env >>= Rs.fz) G H σ _
    unfold PostT
    cases ee : (r env >>= Rs.fz) with
    | no => rw [ee] at h2; exact h2
    | ex c => rw [ee] at h2; exact fun G' H' g1 => h2 σ G' H' (g.trans g1)
    | ok t =>
      rw [ee, Oc.ok_bind] at h2
      intro v G1 H1 g1 k1
      split at h2
      · rename_i hz
        have r1 : RepL U G1 (vs ++ [v]) (xs ++ [t]) := (e4.mono g1.gg).append (.cons k1 .nil)
        obtain ⟨J, gJ⟩ := (I.later g1).mut (g.trans g1) hs e1 r1
        refine ⟨p, vs, v, rfl, rfl, g1.keep p _ e2 e3, ?_, h2 _ _ _ J gJ⟩
        have := sizeOk_le hz
        rw [e4.length]
        omega
      · exact h2.elim
theorem RepL.eraseIdx {G : Hp} : ∀ {vs : List V} {ts : List Tr} (k : Nat), RepL U G vs ts → RepL U G (vs.eraseIdx k) (ts.eraseIdx k)
  | _, _, _, .nil => .nil
  | _, _, 0, .cons r rr => rr
  | _, _, k + 1, .cons r rr => .cons r (rr.eraseIdx k)
theorem popT_ok {xs ys : List Tr} {t : Tr} (h : popT xs t = .ok ys) : ∃ j : Int, t = .int j ∧ smallI j = true ∧ 0 ≤ j ∧ j < xs.length ∧ ys = xs.eraseIdx j.toNat := by
  unfold popT at h
  split at h
  · rename_i j
    split at h
    · rename_i hc
      cases h
      simp only [Bool.and_eq_true, decide_eq_true_eq] at hc
      exact ⟨j, rfl, hc.1.1, hc.1.2, hc.2, rfl⟩
    · cases h
  · cases h
theorem popT_ex {xs : List Tr} {t : Tr} {c : Nat} : popT xs t ≠ .ex c := by
  unfold popT
  split
  · split <;> intro h <;> cases h
  · intro h; cases h
theorem seqIx {j : Int} {n : Nat} (h0 : 0 ≤ j) (h : j < n) : seqIndex? j n = some j.toNat := by
  have e : (if j < 0 then j + (n : Int) else j) = j := if_neg (by omega)
  have e2 : (decide (0 ≤ j) && decide (j < (n : Int))) = true := by
    rw [Bool.and_eq_true]
    exact ⟨decide_eq_true h0, decide_eq_true h⟩
  show (if (decide (0 ≤ (if j < 0 then j + (n : Int) else j)) && decide ((if j < 0 then j + (n : Int) else j) < (n : Int))) = true then some (if j < 0 then j + (n : Int) else j).toNat else none) = _
  rw [e, if_pos e2]
theorem tS_pop {r : List Sl → Oc Rs} {i : Nat} {D : Ends} {σ : L2.St} {H : Hp} {K : PySem.W.Frag}
    (h : tS U W B (fun env => slotO env i >>= fun xs => r env >>= Rs.fz >>= fun t => popT xs t >>= fun ys => .ok (.nx (env.set i (.ow ys)))) D σ H) : tDrop (tBM K "list" rPopAt (tVar i) (tCons (tR U W B r) tNil)) D σ H := by
  obtain ⟨G0, G, env, I, g, h⟩ := h
  dsimp only at h
  cases e : slotO env i with
  | no => rw [e] at h; exact h.elim
  | ex c => exact absurd e slotO_ex
  | ok xs =>
    rw [e, Oc.ok_bind] at h
    have hs := slotO_ok e
    obtain ⟨p, vs, e1, e2, e3, e4⟩ := slot_at I hs
    refine ⟨.ref p, e1, Or.inl ⟨rfl, vs, .inl (.inl e3)⟩, ?_⟩
    show tR U W B r σ H _
    have h2 : PostS U W G0 B ((r env >>= Rs.fz) >>= fun t => popT xs t >>= fun ys => .ok (.nx (env.set i (.ow ys)))) D := h
    refine tR_fz ⟨G, env, I, ?_⟩
    show PostT U W (r env >>= Rs.fz) G H σ _
    unfold PostT
    cases ee : (r env >>= Rs.fz) with
    | no => rw [ee] at h2; exact h2
    | ex c => rw [ee] at h2; exact fun G' H' g1 => h2 σ G' H' (g.trans g1)
    | ok t =>
      rw [ee, Oc.ok_bind] at h2
      intro v G1 H1 g1 k1
      cases e5 : popT xs t with
      | no => rw [e5] at h2; exact h2.elim
      | ex c => exact absurd e5 popT_ex
      | ok ys =>
        rw [e5, Oc.ok_bind] at h2
        obtain ⟨j, rfl, hj, j0, j1, rfl⟩ := popT_ok e5
        cases k1
        have r1 : RepL U G1 (vs.eraseIdx j.toNat) (xs.eraseIdx j.toNat) := (e4.mono g1.gg).eraseIdx _
        obtain ⟨J, gJ⟩ := (I.later g1).mut (g.trans g1) hs e1 r1
        have hl := e4.length
        have hk : j.toNat < vs.length := by omega
        unfold smallI at hj
        rw [Bool.and_eq_true] at hj
        have q1 := of_decide_eq_true hj.1
        have q2 := of_decide_eq_true hj.2
        exact ⟨p, vs, j, j.toNat, vs[j.toNat], rfl, rfl, g1.keep p _ e2 e3, by omega, by omega, seqIx j0 (by omega), List.getElem?_eq_getElem hk, h2 _ _ _ J gJ⟩
theorem tS_rvs {i : Nat} {D : Ends} {σ : L2.St} {H : Hp} {K : PySem.W.Frag}
    (h : tS U W B (fun env => slotO env i >>= fun xs => .ok (.nx (env.set i (.ow xs.reverse)))) D σ H) : tDrop (tBM0 K "list" rReverse (tVar i)) D σ H := by
  obtain ⟨G0, G, env, I, g, h⟩ := h
  dsimp only at h
  cases e : slotO env i with
  | no => rw [e] at h; exact h.elim
  | ex c => exact absurd e slotO_ex
  | ok xs =>
    rw [e, Oc.ok_bind] at h
    have hs := slotO_ok e
    obtain ⟨p, vs, e1, e2, e3, e4⟩ := slot_at I hs
    refine ⟨.ref p, e1, Or.inl ⟨rfl, vs, .inl (.inl e3)⟩, ?_⟩
    obtain ⟨J, gJ⟩ := I.mut g hs e1 e4.reverse
    exact ⟨p, vs, rfl, rfl, e3, h _ _ _ J gJ⟩
theorem tS_clr {i : Nat} {D : Ends} {σ : L2.St} {H : Hp} {K : PySem.W.Frag}
    (h : tS U W B (fun env => slotO env i >>= fun _ => .ok (.nx (env.set i (.ow [])))) D σ H) : tDrop (tBM0 K "list" rClear (tVar i)) D σ H := by
  obtain ⟨G0, G, env, I, g, h⟩ := h
  dsimp only at h
  cases e : slotO env i with
  | no => rw [e] at h; exact h.elim
  | ex c => exact absurd e slotO_ex
  | ok xs =>
    rw [e, Oc.ok_bind] at h
    have hs := slotO_ok e
    obtain ⟨p, vs, e1, e2, e3, e4⟩ := slot_at I hs
    refine ⟨.ref p, e1, Or.inl ⟨rfl, vs, .inl (.inl e3)⟩, ?_⟩
    obtain ⟨J, gJ⟩ := I.mut (ys := []) (ws := []) g hs e1 .nil
    exact ⟨p, vs, rfl, rfl, e3, h _ _ _ J gJ⟩
theorem setT_ok {xs ys : List Tr} {k : Int} {t : Tr} (h : setT xs k t = .ok ys) : ∃ j, ixN xs.length k = some j ∧ ys = xs.set j t := by
  unfold setT at h
  split at h
  · rename_i j e
    cases h
    exact ⟨j, e, rfl⟩
  · cases h
theorem setT_ex {xs : List Tr} {k : Int} {t : Tr} {c : Nat} : setT xs k t ≠ .ex c := by
  unfold setT
  split <;> intro h <;> cases h
theorem tS_seti {r rk : List Sl → Oc Rs} {i : Nat} {D : Ends} {σ : L2.St} {H : Hp}
    (h : tS U W B (fun env => slotO env i >>= fun xs => r env >>= Rs.fz >>= fun t => rk env >>= fun z => oInt z.see >>= fun j => setT xs j t >>= fun ys => .ok (.nx (env.set i (.ow ys)))) D σ H) :
    tAsg (tR U W B r) (gSub (tVar i) (tR U W B rk) rSetL) D σ H := by
  obtain ⟨G0, G, env, I, g, h⟩ := h
  dsimp only at h
  cases e : slotO env i with
  | no => rw [e] at h; exact h.elim
  | ex c => exact absurd e slotO_ex
  | ok xs =>
    rw [e, Oc.ok_bind] at h
    have hs := slotO_ok e
    obtain ⟨p, vs, e1, e2, e3, e4⟩ := slot_at I hs
    have h2 : PostS U W G0 B ((r env >>= Rs.fz) >>= fun t => rk env >>= fun z => oInt z.see >>= fun j => setT xs j t >>= fun ys => .ok (.nx (env.set i (.ow ys)))) D := h
    refine tR_fz ⟨G, env, I, ?_⟩
    show PostT U W (r env >>= Rs.fz) G H σ _
    unfold PostT
    cases ee : (r env >>= Rs.fz) with
    | no => rw [ee] at h2; exact h2
    | ex c => rw [ee] at h2; exact fun G' H' g1 => h2 σ G' H' (g.trans g1)
    | ok t =>
      rw [ee, Oc.ok_bind] at h2
      intro v G1 H1 g1 k1
      refine ⟨.ref p, e1, G1, env, I.later g1, ?_⟩
      unfold Post
      cases e5 : rk env with
      | no => rw [e5] at h2; exact h2
      | ex c => rw [e5] at h2; exact fun G' H' g2 => h2 σ G' H' ((g.trans g1).trans g2)
      | ok z =>
        rw [e5, Oc.ok_bind] at h2
        intro w G2 H2 g2 k2
        cases e6 : oInt z.see with
        | no => rw [e6] at h2; exact h2.elim
        | ex c => exact absurd e6 oInt_ex
        | ok j =>
          rw [e6, Oc.ok_bind] at h2
          cases e7 : setT xs j t with
          | no => rw [e7] at h2; exact h2.elim
          | ex c => exact absurd e7 setT_ex
          | ok ys =>
            rw [e7] at h2
            obtain ⟨n, e8, rfl⟩ := setT_ok e7
            have g12 := g1.trans g2
            have r1 : RepL U G2 (vs.set n v) (xs.set n t) := RepL.set (k1.mono g2.gg) n (e4.mono g12.gg)
            obtain ⟨J, gJ⟩ := (I.later g12).mut (g.trans g12) hs e1 r1
            exact ⟨p, vs, j, n, rfl, k2.int (oInt_ok e6), g12.keep p _ e2 e3, by rw [e4.length]; exact e8, h2 _ _ _ J gJ⟩
theorem RsOk.end {G0 B G H G1 H1 : Hp} {v : V} {x : Rs} (old : ∀ a, H a = none → B a = none) (k : RsOk U B G1 H1 H v x) : x.out.isBr = false ∧ RsOk U B G1 H1 B v x.out := by
  cases x with
  | im t => exact ⟨rfl, k⟩
  | ow xs =>
    obtain ⟨p, vs, e, hp, hg, hh, r⟩ := k
    exact ⟨rfl, p, vs, e, old p hp, hg, hh, r⟩
  | br xs =>
    obtain ⟨p, vs, e, hp, hg, hh, r⟩ := k
    exact ⟨rfl, p, vs, e, hp, hg, hh, r⟩
theorem tS_ret {r : List Sl → Oc Rs} {D : Ends} {σ : L2.St} {H : Hp} (h : tS U W B (fun env => r env >>= fun x => .ok (.rt x.out)) D σ H) : tRet (tR U W B r) D σ H :=
  tS_ev (k := fun x _ => .ok (.rt x.out)) h fun G0 G1 H1 G env v x I0 I g k q => by
    obtain ⟨k1, k2⟩ := RsOk.end (G0 := G0) (G := G) I0.old k
    exact q v G1 H1 g k2
/-! tests -/
theorem tS_if {rc : List Sl → Oc Rs} {ma mb : List Sl → Oc Fl} {D : Ends} {σ : L2.St} {H : Hp} (h : tS U W B (fun env => rc env >>= fun x => oBool x.see >>= fun k => if k then ma env else mb env) D σ H) :
    tIfS (tBo U W B (asB rc)) (tS U W B ma) (tS U W B mb) D σ H := by
  obtain ⟨G0, G, env, I, g, h⟩ := h
  dsimp only at h
  refine ⟨G, env, I, ?_⟩
  unfold asB
  dsimp only
  cases e : rc env with
  | no => rw [e] at h; exact h
  | ex c => rw [e] at h; exact fun G' H' g1 => h σ G' H' (g.trans g1)
  | ok x =>
    rw [e, Oc.ok_bind] at h
    rw [Oc.ok_bind]
    cases e2 : oBool x.see with
    | no => rw [e2] at h; exact h
    | ex c => exact absurd e2 oBool_ex
    | ok k =>
      rw [e2, Oc.ok_bind] at h
      intro G1 H1 g1
      cases k with
      | true => exact ⟨G0, G1, env, I.later g1, g.trans g1, h⟩
      | false => exact ⟨G0, G1, env, I.later g1, g.trans g1, h⟩
/-! loops -/
theorem tS_for {ri : List Sl → Oc (List Tr)} {is : List Nat} {b : Tr → List Sl → Oc (List Sl)} {m : List Sl → Oc Fl} {D : Ends} {σ : L2.St} {H : Hp} (hb : ∀ t env c, b t env ≠ .ex c)
    (h : tS U W B (fun env => ri env >>= fun xs => forGo (fun x e => b x e >>= fun e' => m e') xs env) D σ H) : tFor (tIt U W B ri) (tTg U B is b) (tS U W B m) D σ H := by
  obtain ⟨G0, G, env, I, g, h⟩ := h
  dsimp only at h
  refine ⟨G, env, I, ?_⟩
  cases e : ri env with
  | no => rw [e] at h; exact h
  | ex c => rw [e] at h; exact fun G' H' g1 => h σ G' H' (g.trans g1)
  | ok xs =>
    rw [e, Oc.ok_bind] at h
    intro J G1 H1 g1 ok
    have gA := g.trans g1
    have h := h.up gA
    refine ⟨fun i m' σ' H' => ∃ G' env', EnvOk U B G' H' env' σ' ∧ Grow G1 B G' H' ∧ m' = xs.length - i ∧ i ≤ xs.length ∧ PostS U W G1 B (forGo (fun x e => b x e >>= fun e' => m e') (xs.drop i) env') D,
      ⟨xs.length, G1, env, I.later g1, gA.up gA (Same.refl _), rfl, Nat.zero_le _, h⟩, ?_⟩
    rintro i m' σ' H' ⟨G', env', I', g', rfl, hi, h'⟩
    obtain ⟨hgo, hstop⟩ := ok i G' H' g'.gg I'.sub
    by_cases hlt : i < xs.length
    · have hx : xs[i]? = some xs[i] := List.getElem?_eq_getElem hlt
      obtain ⟨hg, hy⟩ := hgo _ hx
      rw [List.drop_eq_getElem_cons hlt] at h'
      unfold forGo at h'
      refine .inr ⟨hg, fun σ2 H2 => ∃ G2 env2, EnvOk U B G2 H2 env2 σ2 ∧ Grow G1 B G2 H2 ∧ PostS U W G1 B (forGo (fun x e => b x e >>= fun e' => m e') (xs.drop (i + 1)) env2) D, fun σ2 H2 hN => ?_, fun x H2 y => ?_⟩
      · obtain ⟨G2, env2, I2, g2, h2⟩ := hN
        exact ⟨xs.length - (i + 1), by omega, G2, env2, I2, g2, rfl, hlt, h2⟩
      · obtain ⟨G2, g2, r2⟩ := hy x H2 y
        refine ⟨G2, env', xs[i], I'.later g2, r2, ?_⟩
        cases eb : b xs[i] env' with
        | no => rw [eb] at h'; exact h'
        | ex c => exact absurd eb (hb _ _ _)
        | ok env2 =>
          rw [eb, Oc.ok_bind] at h'
          intro σ2 _ I2
          refine ⟨G1, G2, env2, I2, g'.trans g2, ?_⟩
          unfold PostS
          cases em : m env2 with
          | no => rw [em] at h'; exact h'
          | ex c => rw [em] at h'; exact h'
          | ok f =>
            rw [em, Oc.ok_bind] at h'
            cases f with
            | nx e3 => exact fun σ3 G3 H3 I3 g3 => ⟨G3, e3, I3, g3, h'⟩
            | ct e3 => exact fun σ3 G3 H3 I3 g3 => ⟨G3, e3, I3, g3, h'⟩
            | bk e3 => exact h'
            | rt r => exact h'
    · have ei : i = xs.length := by omega
      subst ei
      refine .inl ⟨hstop (Nat.le_refl _), ?_⟩
      rw [List.drop_length] at h'
      exact h' σ' G' H' I' g'
theorem tS_while {rc : List Sl → Oc Rs} {m : List Sl → Oc Fl} {n : Nat} {D : Ends} {σ : L2.St} {H : Hp}
    (h : tS U W B (fun env => whlGo (fun e => rc e >>= fun x => oBool x.see) m n env) D σ H) : tWhile (tBo U W B (asB rc)) (tS U W B m) D σ H := by
  obtain ⟨G0, G, env, I, g, h⟩ := h
  refine ⟨fun n σ' H' => ∃ G' env', EnvOk U B G' H' env' σ' ∧ Grow G0 B G' H' ∧ PostS U W G0 B (whlGo (fun e => rc e >>= fun x => oBool x.see) m n env') D, ⟨n, G, env, I, g, h⟩, ?_⟩
  rintro n σ' H' ⟨G', env', I', g', h'⟩
  cases n with
  | zero => exact h'.elim
  | succ n =>
    unfold whlGo at h'
    have h' : PostS U W G0 B (asB rc env' >>= fun k => if k then m env' >>= fun
      | .nx e => whlGo (fun e => rc e >>= fun x => oBool x.see) m n e
      | .ct e => whlGo (fun e => rc e >>= fun x => oBool x.see) m n e
      | .bk e => .ok (.nx e)
      | .rt r => .ok (.rt r)
      else .ok (.nx env')) D := h'
    refine ⟨G', env', I', ?_⟩
    cases e : asB rc env' with
    | no => rw [e] at h'; exact h'
    | ex c => rw [e] at h'; exact fun G2 H2 g2 => h' σ' G2 H2 (g'.trans g2)
    | ok k =>
      rw [e, Oc.ok_bind] at h'
      intro G2 H2 g2
      cases k with
      | false => exact h' σ' G2 H2 (I'.later g2) (g'.trans g2)
      | true =>
        refine ⟨fun σ3 H3 => ∃ G3 env3, EnvOk U B G3 H3 env3 σ3 ∧ Grow G0 B G3 H3 ∧ PostS U W G0 B (whlGo (fun e => rc e >>= fun x => oBool x.see) m n env3) D, fun σ3 H3 hN => ⟨n, Nat.lt_succ_self _, hN⟩, ?_⟩
        refine ⟨G0, G2, env', I'.later g2, g'.trans g2, ?_⟩
        unfold PostS
        cases em : m env' with
        | no => simp only [em] at h'; exact h'
        | ex c => simp only [em] at h'; exact h'
        | ok f =>
          simp only [em] at h'
          cases f with
          | nx e3 => exact fun σ3 G3 H3 I3 g3 => ⟨G3, e3, I3, g3, h'⟩
          | ct e3 => exact fun σ3 G3 H3 I3 g3 => ⟨G3, e3, I3, g3, h'⟩
          | bk e3 => exact h'
          | rt r => exact h'
/-- one after another -/
theorem tS_seq {m1 m2 : List Sl → Oc Fl} {D : Ends} {σ : L2.St} {H : Hp} (h : tS U W B (fun env => m1 env >>= fun
    | .nx e => m2 e
    | f => .ok f) D σ H) : tSeq (tS U W B m1) (tS U W B m2) D σ H := by
  obtain ⟨G0, G, env, I, g, h⟩ := h
  refine ⟨G0, G, env, I, g, ?_⟩
  dsimp only at h
  unfold PostS at h ⊢
  cases e : m1 env with
  | no => rw [e] at h; exact h
  | ex c => rw [e] at h; exact h
  | ok f =>
    rw [e, Oc.ok_bind] at h
    cases f with
    | nx e2 => exact fun σ' G' H' I' g' => ⟨G0, G', e2, I', g', h⟩
    | ct e2 => exact h
    | bk e2 => exact h
    | rt r => exact h
theorem tS_fre {i : Nat} {m2 : List Sl → Oc Fl} {D : Ends} {σ : L2.St} {H : Hp} (h : tS U W B (fun env => (match env[i]? with
    | some (.ow xs) => .ok (.nx (env.set i (.im (.lst xs))))
    | _ => .ok (.nx env) : Oc Fl) >>= fun
    | .nx e => m2 e
    | f => .ok f) D σ H) : tS U W B m2 D σ H := by
  obtain ⟨G0, G, env, I, g, h⟩ := h
  dsimp only at h
  split at h
  · rename_i xs e
    obtain ⟨G1, I1, g1⟩ := I.freeze g e
    exact ⟨G0, G1, _, I1, g1, h⟩
  · exact ⟨G0, G, env, I, g, h⟩
theorem tS_nx {D : Ends} {σ : L2.St} {H : Hp} (h : tS U W B (fun env => .ok (.nx env)) D σ H) : D.nx σ H := by
  obtain ⟨G0, G, env, I, g, h⟩ := h
  exact h σ G H I g
theorem tS_par {i j : Nat} {rs : List Sl → Oc (List Tr)} {D : Ends} {σ : L2.St} {H : Hp} (h : tS U W B (fun env => rs env >>= fun ts => bindTp [i, j] ts env >>= fun env' => .ok (.nx env')) D σ H) : tPar i j (tAr U W B rs) D σ H := by
  obtain ⟨G0, G, env, I, g, h⟩ := h
  dsimp only at h
  refine ⟨G, env, I, ?_⟩
  unfold PostL
  cases e : rs env with
  | no => rw [e] at h; exact h
  | ex c => rw [e] at h; exact fun G' H' g1 => h σ G' H' (g.trans g1)
  | ok ts =>
    rw [e, Oc.ok_bind] at h
    intro vs G1 H1 g1 r
    cases r with
    | nil => exact h.elim
    | @cons v1 vs1 t1 ts1 r1 r =>
      have e2 : bindTp [i, j] (t1 :: ts1) env = bindNm env i t1 >>= fun env' => bindTp [j] ts1 env' := rfl
      rw [e2] at h
      cases e3 : bindNm env i t1 with
      | no => rw [e3] at h; exact h.elim
      | ex c => unfold bindNm at e3; split at e3 <;> cases e3
      | ok env1 =>
        rw [e3, Oc.ok_bind] at h
        cases r with
        | nil => exact h.elim
        | @cons v2 vs2 t2 ts2 r2 r =>
          have e4 : bindTp [j] (t2 :: ts2) env1 = bindNm env1 j t2 >>= fun env' => bindTp [] ts2 env' := rfl
          rw [e4] at h
          cases e5 : bindNm env1 j t2 with
          | no => rw [e5] at h; exact h.elim
          | ex c => unfold bindNm at e5; split at e5 <;> cases e5
          | ok env2 =>
            rw [e5, Oc.ok_bind] at h
            cases r with
            | cons _ _ => exact h.elim
            | nil =>
              have e3 := bindNm_ok e3
              have e5 := bindNm_ok e5
              subst e3 e5
              exact ⟨v1, v2, rfl, h _ G1 H1 (((I.later g1).set r1).set r2) (g.trans g1)⟩
theorem noex_ex {α : Type} {o : Oc α} {c : Nat} : o.noex ≠ .ex c := by
  cases o <;> intro h <;> cases h
theorem sub_step {rk : List Sl → Oc Rs} {i : Nat} {G0 G H : Hp} {env env' : List Sl} {σ : L2.St} {v : V} {t : Tr} {Q : L2.St → Hp → Prop} (I : EnvOk U B G H env σ) (g : Grow G0 B G H) (kv : Rep U G v t) (h : subO rk i t env = .ok env')
    (cont : ∀ G' H', EnvOk U B G' H' env' σ → Grow G0 B G' H' → Same G G' → Q σ H') : gSub (tVar i) (tR U W B rk) rSetL v σ H Q := by
  unfold subO at h
  cases e : slotO env i with
  | no => rw [e] at h; cases h
  | ex c => exact absurd e slotO_ex
  | ok xs =>
    rw [e, Oc.ok_bind] at h
    have hs := slotO_ok e
    obtain ⟨p, vs, e1, e2, e3, e4⟩ := slot_at I hs
    cases e5 : (rk env).noex with
    | no => rw [e5] at h; cases h
    | ex c => exact absurd e5 noex_ex
    | ok z =>
      rw [e5, Oc.ok_bind] at h
      cases e6 : oInt z.see with
      | no => rw [e6] at h; cases h
      | ex c => exact absurd e6 oInt_ex
      | ok j =>
        rw [e6, Oc.ok_bind] at h
        cases e7 : setT xs j t with
        | no => rw [e7] at h; cases h
        | ex c => exact absurd e7 setT_ex
        | ok ys =>
          rw [e7, Oc.ok_bind] at h
          cases h
          obtain ⟨n, e8, rfl⟩ := setT_ok e7
          refine ⟨.ref p, e1, G, env, I, ?_⟩
          rw [noex_ok e5]
          intro w G2 H2 g2 k2
          have r1 : RepL U G2 (vs.set n v) (xs.set n t) := RepL.set (kv.mono g2.gg) n (e4.mono g2.gg)
          obtain ⟨J, gJ⟩ := (I.later g2).mut (g.trans g2) hs e1 r1
          exact ⟨p, vs, j, n, rfl, k2.int (oInt_ok e6), g2.keep p _ e2 e3, by rw [e4.length]; exact e8, cont _ _ J gJ g2.gg⟩
theorem tS_swp {r rk1 rk2 : List Sl → Oc Rs} {i : Nat} {D : Ends} {σ : L2.St} {H : Hp}
    (h : tS U W B (fun env => r env >>= fun x => swpO rk1 rk2 i x env) D σ H) :
    tAsg (tR U W B r) (gTup U.K 2 (gCons (gSub (tVar i) (tR U W B rk1) rSetL) (gCons (gSub (tVar i) (tR U W B rk2) rSetL) gNil))) D σ H := by
  refine tS_ev (k := fun x env => swpO rk1 rk2 i x env) h fun G0 G1 H1 G env v x I0 I g k q => ?_
  unfold swpO at q
  split at q
  · rename_i a b
    have k : Rep U G1 v (.tup [a, b]) := k
    cases k with
    | tup hs r =>
      cases r with
      | cons ra r =>
        cases r with
        | cons rb r =>
          cases r
          cases e1 : subO rk1 i a env with
          | no => rw [e1] at q; exact q.elim
          | ex c =>
            exfalso
            exact subO_ex e1
          | ok env1 =>
            rw [e1, Oc.ok_bind] at q
            cases e2 : subO rk2 i b env1 with
            | no => rw [e2] at q; exact q.elim
            | ex c => exact (subO_ex e2).elim
            | ok env2 =>
              rw [e2, Oc.ok_bind] at q
              refine ⟨_, _, rfl, sqT_mono I.sub hs, rfl, _, _, rfl, sub_step I g ra e1 fun G2 H2 I2 g2 s2 => ⟨_, _, rfl, sub_step I2 g2 (rb.mono s2) e2 fun G3 H3 I3 g3 _ => ⟨rfl, q _ _ _ I3 g3⟩⟩⟩
  · exact q.elim
where
  subO_ex : ∀ {rk : List Sl → Oc Rs} {i : Nat} {t : Tr} {env : List Sl} {c : Nat}, subO rk i t env = .ex c → False := by
    intro rk i t env c h
    unfold subO at h
    cases e : slotO env i with
    | no => rw [e] at h; cases h
    | ex c => exact absurd e slotO_ex
    | ok xs =>
      rw [e, Oc.ok_bind] at h
      cases e5 : (rk env).noex with
      | no => rw [e5] at h; cases h
      | ex c => exact absurd e5 noex_ex
      | ok z =>
        rw [e5, Oc.ok_bind] at h
        cases e6 : oInt z.see with
        | no => rw [e6] at h; cases h
        | ex c => exact absurd e6 oInt_ex
        | ok j =>
          rw [e6, Oc.ok_bind] at h
          cases e7 : setT xs j t with
          | no => rw [e7] at h; cases h
          | ex c => exact absurd e7 setT_ex
          | ok ys => rw [e7] at h; cases h
end
end PF

namespace PF
open PySem PySem.Spec PyProof.Rows L2 PySem.HandSPX
def notComp : Expr → Bool
  | .ListComp .. => false
  | .SetComp .. => false
  | .DictComp .. => false
  | _ => true
def notTup : Expr → Bool
  | .Tuple .. => false
  | _ => true
theorem swaps_no {e : Expr} (h : notComp e = true) (t : Option Expr) (l : Nat) (env : Env) : swapsWith e t l env = pure false := by
  cases e <;> first | rfl | cases h
def nameLoc (S : SE) (x : Str) : Bool := match S.sc.names.lookup x with
  | some .local => true | _ => false
def nameCell (S : SE) (x : Str) : Bool := match S.sc.names.lookup x with
  | some .cell => true | _ => false
/-- a, b = x, y is swapped -/
def parOk (S : SE) (x y : Str) (px py : Pos) (a b : Expr) : Bool :=
  nameLoc S x && nameLoc S y && (px.line == py.line) && !(x == y) && nostar a && nostar b && !([a, b].all (foldedForSure 8)) && !([a, b].all (constantsAlone 8))
def chkL2 (f : Stmt → Sm → Bool) : List Stmt → List Sm → Bool
  | sts, .fre _ :: ms => chkL2 f sts ms
  | st :: sts, m :: ms => f st m && chkL2 f sts ms
  | [], [] => true
  | _, _ => false
def chkS (P : PSt) (ne : Nat) : Nat → SE → Stmt → Sm → Bool
  | 0, _, _, _ => false
  | n + 1, S, st, m => match m with
    | .asg tg' e' => match st with
      | .Assign [tg] e pos => match tg' with
        | .nm i => match tg with
          | .Name x px => chkE P ne S e e' && chkTg S tg tg' && (notComp e || nameCell S x || (match e with
            | .ListComp elt gs scope pe => nameLoc S x && (px.line == pe.line) && !(scope.names.any fun (n, k) => n == x && (k == .local || k == .cell))
            | _ => false))
          | _ => false
        | .tp _ => chkE P ne S e e' && chkTg S tg tg' && notTup e && notComp e
      | _ => false
    | .par i j a' b' => match st with
      | .Assign [.Tuple [.Name x px, .Name y py] _ _] (.Tuple [a, b] _ _) _ => decide (S.N[i]? = some x) && decide (S.N[j]? = some y) && parOk S x y px py a b && chkE P ne S a a' && chkE P ne S b b'
      | _ => false
    | .fre _ => false
    | .app i e' => match st with
      | .Expr (.Call (.Attribute (.Name x _) m apos) [e] [] cpos) _ => decide (m = "append") && okLoc S x i && nostar e && (apos.endLine == cpos.line) && chkE P ne S e e'
      | _ => false
    | .pop i e' => match st with
      | .Expr (.Call (.Attribute (.Name x _) m apos) [e] [] cpos) _ => decide (m = "pop") && okLoc S x i && nostar e && (apos.endLine == cpos.line) && chkE P ne S e e'
      | _ => false
    | .rvs i => match st with
      | .Expr (.Call (.Attribute (.Name x _) m apos) [] [] cpos) _ => decide (m = "reverse") && okLoc S x i && (apos.endLine == cpos.line)
      | _ => false
    | .clr i => match st with
      | .Expr (.Call (.Attribute (.Name x _) m apos) [] [] cpos) _ => decide (m = "clear") && okLoc S x i && (apos.endLine == cpos.line)
      | _ => false
    | .seti i k' e' => match st with
      | .Assign [.Subscript (.Name x _) k _] e _ => okLoc S x i && notSlice k && notComp e && chkE P ne S k k' && chkE P ne S e e'
      | _ => false
    | .swp i k1' k2' e' => match st with
      | .Assign [.Tuple [.Subscript (.Name x _) k1 _, .Subscript (.Name y _) k2 _] _ _] (.Tuple vs kk pv) _ => okLoc S x i && okLoc S y i && notSlice k1 && notSlice k2 && chkE P ne S k1 k1' && chkE P ne S k2 k2' && chkE P ne S (.Tuple vs kk pv) e'
      | _ => false
    | .ret e' => match st with
      | .Return (some e) _ => chkE P ne S e e'
      | _ => false
    | .retN => match st with
      | .Return none _ => true
      | _ => false
    | .iff c' a' b' => match st with
      | .If c a b _ => chkE P ne S c c' && chkL2 (chkS P ne n S) a a' && chkL2 (chkS P ne n S) b b'
      | _ => false
    | .for_ tg' it' b' => match st with
      | .For tg iter b [] _ => chkTg S tg tg' && chkIt P ne S iter it' && notSet iter && chkL2 (chkS P ne n S) b b'
      | _ => false
    | .whl c' b' => match st with
      | .While c b [] _ => chkE P ne S c c' && chkL2 (chkS P ne n S) b b'
      | _ => false
    | .rse c => match st with
      | .Raise (some (.Call (.Name x _) [.Constant (.str _) _ _] [] _)) none _ => okGl S x && decide (P.excN.lookup x = some c)
      | _ => false
    | .expr e' => match st with
      | .Expr e _ => chkE P ne S e e' && notComp e
      | _ => false
    | .brk => match st with
      | .Break _ => true
      | _ => false
    | .cnt => match st with
      | .Continue _ => true
      | _ => false
    | .pass => match st with
      | .Pass _ => true
      | _ => false
section
variable {P : PSt} {U : Uni} {C : Ctx} {k : Nat} {prog : Program} {w : World} {K : PySem.W.Frag} {mg : Str → Option Value} {base : Heap} {S : SE} {W : WX} {X : Cx} {B : Hp}
theorem nameLoc_ok (h : XOk k prog w K mg base S W X) {x : Str} (v : nameLoc S x = true) : X.env.scope.names.lookup x = some .local := by
  unfold nameLoc at v
  rw [← h.sc] at v
  split at v
  · assumption
  · cases v
theorem bindTg_ex {t : Tg} {x : Tr} {env : List Sl} {c : Nat} : bindTg t x env ≠ .ex c := by
  cases t with
  | nm i =>
    show bindNm env i x ≠ .ex c
    unfold bindNm
    split <;> intro h <;> cases h
  | tp is =>
    cases x <;> (intro h; first | cases h | skip)
    have h : (if is.length = _ then bindTp is _ env else .no : Oc (List Sl)) = .ex c := h
    split at h
    · exact tAsg_tp.bindTp_ex h
    · cases h
theorem swapped_ok (h : XOk k prog w K mg base S W X) (hk : X.env.scope.kind = .function) {x y : Str} {px py pt : Pos} {a b : Expr} {kt k2 : Nat} {pt2 : Pos} (v : parOk S x y px py a b = true) :
    swappedStores [.Tuple [.Name x px, .Name y py] kt pt] (.Tuple [a, b] k2 pt2) X.env = pure (some [x, y]) := by
  unfold parOk at v
  simp only [Bool.and_eq_true] at v
  obtain ⟨⟨⟨⟨⟨⟨⟨v1, v2⟩, v3⟩, v4⟩, v5⟩, v6⟩, v7⟩, v8⟩ := v
  have l1 : X.env.kindOf x = some .local := nameLoc_ok h v1
  have l2 : X.env.kindOf y = some .local := nameLoc_ok h v2
  have hb : X.env.blockKind = .function := by unfold Env.blockKind; rw [hk]; rfl
  have e3 := eq_of_beq v3
  have hxy : (x == y) = false := by simpa using v4
  have hyx : (y == x) = false := by
    rw [beq_eq_false_iff_ne] at hxy ⊢
    exact fun z => hxy z.symm
  have v7' : [a, b].all (foldedForSure 8) = false := by rw [Bool.not_eq_eq_eq_not, Bool.not_true] at v7; exact v7
  have v8' : [a, b].all (constantsAlone 8) = false := by rw [Bool.not_eq_eq_eq_not, Bool.not_true] at v8; exact v8
  have l1' : (X.env.kindOf x == some NameKind.local) = true := by rw [l1]; rfl
  have l2' : (X.env.kindOf y == some NameKind.local) = true := by rw [l2]; rfl
  have e3' : (py.line == px.line) = true := by rw [e3]; exact beq_self_eq_true _
  have ed : ([x, y] : List Str).eraseDups = [x, y] := by
    rw [List.eraseDups_cons]
    simp [hyx, List.eraseDups_cons]
  unfold swappedStores
  simp only [List.length_cons, List.length_nil, hb, List.any_cons, List.any_nil, List.head?_cons, Option.map_some, Option.getD_some, Expr.pos, List.filterMap_cons, List.filterMap_nil, l1', l2', e3', beq_self_eq_true, Bool.and_self, if_true, ed, v7', v8']
  rw [if_neg (by decide), if_neg (fun hh => by
    rw [Bool.or_eq_true] at hh
    rcases hh with hh | hh
    · cases a <;> first | (cases v5; done) | (cases hh; done)
    · rw [Bool.or_false] at hh
      cases b <;> first | (cases v6; done) | (cases hh; done))]
  rfl

theorem swapped_subs {o1 i1 o2 i2 : Expr} {p1 p2 pt pv : Pos} {kt kk : Nat} {vs : List Expr} {env : Env} :
    swappedStores [.Tuple [.Subscript o1 i1 p1, .Subscript o2 i2 p2] kt pt] (.Tuple vs kk pv) env = pure none := by
  unfold swappedStores
  simp only [List.filterMap_cons, List.filterMap_nil, List.length_nil, List.length_cons]
  split
  · rfl
  · split <;> rfl
theorem assignEach_one {tg : Expr} {env : Env} (h : nostar tg = true) : (assignEach [tg] env).map (·.2) = [assign tg env] := by
  cases tg <;> first | rfl | cases h
/-- what a list of statements means, the rows that freeze in between -/
theorem block_ok {f : Stmt → Sm → Bool} (hf : ∀ st m, f st m = true → PS X st (tS U W B (exec C m))) : ∀ {ms : List Sm} {sts : List Stmt}, chkL2 f sts ms = true → PSs X sts (tS U W B (execs C ms))
  | [], [], _ => PSs.weak pss_nil fun D σ H h => tS_nx h
  | [], _ :: _, h => by cases h
  | .fre i :: ms, sts, h => by
    have h : chkL2 f sts ms = true := by
      cases sts <;> exact h
    exact PSs.weak (block_ok hf h) fun D σ H q => tS_fre (i := i) q
  | m :: ms, [], h => by
    cases m <;> first | cases h | skip
    rename_i i
    have h : chkL2 f [] ms = true := h
    exact PSs.weak (block_ok hf h) fun D σ H q => tS_fre (i := i) q
  | m :: ms, st :: sts, h => by
    have key : f st m = true ∧ chkL2 f sts ms = true → PSs X (st :: sts) (tS U W B (execs C (m :: ms))) := fun hh =>
      PSs.weak (pss_cons (hf st m hh.1) (block_ok hf hh.2)) fun D σ H q => tS_seq q
    cases m with
    | fre i =>
      have h : chkL2 f (st :: sts) ms = true := h
      exact PSs.weak (block_ok hf h) fun D σ H q => tS_fre (i := i) q
    | _ => exact key (by unfold chkL2 at h; rw [Bool.and_eq_true] at h; exact h)
theorem lc_ok (hw : Wd P U C k prog w K mg base) {n : Nat} {elt : Expr} {gs : List Comprehension} {scope : Scope} {pe : Pos} {x : Ex} (h : XOk k prog w K mg base S W X) (hc : chkE P n S (.ListComp elt gs scope pe) x = true) :
    ∃ (tg iter : Expr) (ifs : List Expr) (own : List (Str × Nat)) (wi : TI) (g : TG) (tt : TT) (te : TE), gs = [⟨tg, iter, ifs, 0⟩] ∧ PI X tg iter wi ∧ BlkOk X.N X.env.scope scope own ∧
      (∀ (s : Shared) (H : Hp) (C : Addr) (cl : List (Str × Addr)) (fp : List Addr), PG (X.blk s H scope (compEnvC scope cl C X.env) fp) tg g) ∧
      (∀ (s : Shared) (H : Hp) (C : Addr) (cl : List (Str × Addr)) (fp : List Addr), PTs (X.blk s H scope (compEnvC scope cl C X.env) fp) ifs tt) ∧
      (∀ (s : Shared) (H : Hp) (C : Addr) (cl : List (Str × Addr)) (fp : List Addr), PE (X.blk s H scope (compEnvC scope cl C X.env) fp) elt te) ∧
      (∀ x, foldedSetIterable iter X.env x = pure x) ∧ (∀ σ H Q, tR U W B (ev C x) σ H Q → tLc wi g tt te (own.map (·.2)) σ H Q) := by
  cases n with
  | zero => cases hc
  | succ n =>
    obtain ⟨hE, hT, _⟩ := sound_E hw n
    cases x <;> first | cases hc | skip
    rename_i tg' it' cs' e' own
    unfold chkE at hc
    dsimp only at hc
    split at hc
    · rename_i elt tg iter ifs scope pos e
      cases e
      simp only [Bool.and_eq_true] at hc
      obtain ⟨⟨⟨⟨⟨⟨⟨h1, h2⟩, h3⟩, h4⟩, h5⟩, h6⟩, h7⟩, h8⟩ := hc
      have hi : chkIt P n S iter it' = true := by cases it' <;> exact h4
      have own_eq : (own.map fun i => (S.N.getD i (Str.ofString ""), i)).map (·.2) = own := by
        rw [List.map_map]
        exact List.map_id' own
      refine ⟨tg, iter, ifs, own.map fun i => (S.N.getD i (Str.ofString ""), i), _, _, _, _, rfl, iter_ok (B := B) hw hE h hi, blkOk_by (by rw [h.N, h.sc]; exact h8),
        fun s H Ca cl fp => chkTg_ok (B := B) hw (h.blk s H scope cl Ca fp) h1, fun s H Ca cl fp => ifs_ok (B := B) hT (h.blk s H scope cl Ca fp) (of_decide_eq_true h5) h6, fun s H Ca cl fp => hE _ _ _ B _ e' (h.blk s H scope cl Ca fp) h7, notSet_fold h3 _, fun σ H Q hq => ?_⟩
      rw [own_eq]
      refine lc_run (fun i hi => ?_) hq
      have h2 := List.all_eq_true.mp h2 i hi
      exact of_decide_eq_true h2
    · cases hc
abbrev ClS (P : PSt) (U : Uni) (C : Ctx) (k : Nat) (prog : Program) (w : World) (K : PySem.W.Frag) (mg : Str → Option Value) (base : Heap) (ne n : Nat) : Prop :=
  ∀ (S : SE) (X : Cx) (W : WX) (B : Hp) (st : Stmt) (m : Sm), XOk k prog w K mg base S W X → S.sc.kind = .function → PassesOwn (model X.prog X.w) X.A X.env X.xe → chkS P ne n S st m = true → PS X st (tS U W B (exec C m))
theorem sound_S (hw : Wd P U C k prog w K mg base) (ne : Nat) : ∀ n, ClS P U C k prog w K mg base ne n := by
  intro n
  obtain ⟨hE, hT, _⟩ := sound_E hw ne
  induction n with
  | zero => intro S X W B st m h hk hp hc; cases hc
  | succ n ih =>
    intro S X W B st m h hk hp hc
    have hK : X.K = U.K := h.at_.K.trans hw.KU
    have hN : X.N.Nodup := by rw [h.N]; exact h.nd
    have blk : ∀ {sts : List Stmt} {ms : List Sm}, chkL2 (chkS P ne n S) sts ms = true → PSs X sts (tS U W B (execs C ms)) := fun {sts ms} hh => block_ok (fun st m q => ih S X W B st m h hk hp q) hh
    have kind : X.env.scope.kind = .function := by rw [h.sc]; exact hk
    cases m with
    | fre i => cases hc
    | brk =>
      unfold chkS at hc
      dsimp only at hc
      split at hc
      · exact PS.weak ps_break fun D σ H ⟨G0, G, env, I, g, q⟩ => q σ G H I g
      · cases hc
    | cnt =>
      unfold chkS at hc
      dsimp only at hc
      split at hc
      · exact PS.weak ps_continue fun D σ H ⟨G0, G, env, I, g, q⟩ => q σ G H I g
      · cases hc
    | pass =>
      unfold chkS at hc
      dsimp only at hc
      split at hc
      · exact PS.weak ps_pass fun D σ H ⟨G0, G, env, I, g, q⟩ => q σ G H I g
      · cases hc
    | retN =>
      unfold chkS at hc
      dsimp only at hc
      split at hc
      · exact PS.weak ps_retN fun D σ H ⟨G0, G, env, I, g, q⟩ => q _ G H g Rep.non
      · cases hc
    | ret e' =>
      unfold chkS at hc
      dsimp only at hc
      split at hc
      · exact PS.weak (ps_ret (hE S X W B _ e' h hc)) fun D σ H q => tS_ret q
      · cases hc
    | expr e' =>
      unfold chkS at hc
      dsimp only at hc
      split at hc
      · rw [Bool.and_eq_true] at hc
        exact PS.weak (ps_expr (hE S X W B _ e' h hc.1) (swaps_no hc.2 _ _ _)) fun D σ H q => tS_ev (k := fun _ env => .ok (.nx env)) q fun G0 G1 H1 G env v x I0 I g k q => q σ G1 H1 I g
      · cases hc
    | iff c' a' b' =>
      unfold chkS at hc
      dsimp only at hc
      split at hc
      · rw [Bool.and_eq_true, Bool.and_eq_true] at hc
        exact PS.weak (ps_if (hT S X W B _ c' h hc.1.1) (blk hc.1.2) (blk hc.2)) fun D σ H q => tS_if q
      · cases hc
    | whl c' b' =>
      unfold chkS at hc
      dsimp only at hc
      split at hc
      · rw [Bool.and_eq_true] at hc
        exact PS.weak (ps_while hp (hT S X W B _ c' h hc.1) (blk hc.2)) fun D σ H q => tS_while q
      · cases hc
    | for_ tg' it' b' =>
      unfold chkS at hc
      dsimp only at hc
      split at hc
      · simp only [Bool.and_eq_true] at hc
        obtain ⟨⟨⟨h1, h2⟩, h3⟩, h4⟩ := hc
        exact PS.weak (ps_for hp h.calm (iter_ok (B := B) hw hE h h2) (chkTg_ok (B := B) hw h h1) (blk h4) (notSet_fold h3 _)) fun D σ H q => tS_for (fun _ _ _ => bindTg_ex) q
      · cases hc
    | rse c =>
      unfold chkS at hc
      dsimp only at hc
      split at hc
      · simp only [Bool.and_eq_true, decide_eq_true_eq] at hc
        obtain ⟨g1, g2⟩ := okGl_ok h hc.1
        obtain ⟨e1, e2, e3, e4, e5⟩ := hw.excs _ _ hc.2
        rw [← h.at_.K] at e2 e3 e4 e5
        rw [← h.at_.mg] at e1
        exact PS.weak (ps_raise h.calm h.tk (pmk_own PySem.F.excBase_ValueError e2 e1 e3 (raises_own e4 e5) g1 g2)) fun D σ H ⟨G0, G, env, I, g, q⟩ => q σ G H g
      · cases hc
    | par i j a' b' =>
      unfold chkS at hc
      dsimp only at hc
      split at hc
      · simp only [Bool.and_eq_true, decide_eq_true_eq] at hc
        obtain ⟨⟨⟨⟨h1, h2⟩, h3⟩, h4⟩, h5⟩ := hc
        have h3' := h3
        unfold parOk at h3'
        simp only [Bool.and_eq_true] at h3'
        obtain ⟨⟨⟨⟨⟨⟨⟨v1, v2⟩, v3⟩, v4⟩, v5⟩, v6⟩, v7⟩, v8⟩ := h3'
        have hij : i ≠ j := fun z => by
          subst z
          rw [h1] at h2
          cases h2
          simp at v4
        have ha := args_ok (B := B) (n := ne) hE h (es := [_, _]) (xs := [a', b']) (by rw [List.all_cons, v5, List.all_cons, v6]; rfl) (by unfold all2; rw [h4]; unfold all2; rw [h5]; rfl)
        exact PS.weak (ps_par h.calm hN (by rw [h.N]; exact h1) (by rw [h.N]; exact h2) hij (nameLoc_ok h v1) (nameLoc_ok h v2) ha (swapped_ok h kind h3) (by rfl)) fun D σ H q => tS_par q
      · cases hc
    | app i e' =>
      unfold chkS at hc
      dsimp only at hc
      split at hc
      · simp only [Bool.and_eq_true, decide_eq_true_eq] at hc
        obtain ⟨⟨⟨⟨rfl, h1⟩, h2⟩, h3⟩, h4⟩ := hc
        obtain ⟨l1, l2, l3, l4⟩ := okLoc_ok h h1
        exact PS.weak (ps_expr (pe_bm PySem.F.plainAttrs_list PySem.F.slot_list_append PySem.F.type_list_append mt_append (pe_var l1 l2 l3 l4) (pa_cons (hE S X W B _ e' h h4) pa_nil (star_cons h2)) rfl (by rw [star_cons h2]; rfl) h3 (star_cons h2) rfl) rfl) fun D σ H q => tS_app q
      · cases hc
    | pop i e' =>
      unfold chkS at hc
      dsimp only at hc
      split at hc
      · simp only [Bool.and_eq_true, decide_eq_true_eq] at hc
        obtain ⟨⟨⟨⟨rfl, h1⟩, h2⟩, h3⟩, h4⟩ := hc
        obtain ⟨l1, l2, l3, l4⟩ := okLoc_ok h h1
        exact PS.weak (ps_expr (pe_bm PySem.F.plainAttrs_list PySem.F.slot_list_pop PySem.F.type_list_pop mt_popAt (pe_var l1 l2 l3 l4) (pa_cons (hE S X W B _ e' h h4) pa_nil (star_cons h2)) rfl (by rw [star_cons h2]; rfl) h3 (star_cons h2) rfl) rfl) fun D σ H q => tS_pop q
      · cases hc
    | rvs i =>
      unfold chkS at hc
      dsimp only at hc
      split at hc
      · simp only [Bool.and_eq_true, decide_eq_true_eq] at hc
        obtain ⟨⟨rfl, h1⟩, h3⟩ := hc
        obtain ⟨l1, l2, l3, l4⟩ := okLoc_ok h h1
        exact PS.weak (ps_expr (pe_bm0 PySem.F.plainAttrs_list PySem.F.slot_list_reverse PySem.F.type_list_reverse mt_reverse (pe_var l1 l2 l3 l4) rfl h3) rfl) fun D σ H q => tS_rvs q
      · cases hc
    | clr i =>
      unfold chkS at hc
      dsimp only at hc
      split at hc
      · simp only [Bool.and_eq_true, decide_eq_true_eq] at hc
        obtain ⟨⟨rfl, h1⟩, h3⟩ := hc
        obtain ⟨l1, l2, l3, l4⟩ := okLoc_ok h h1
        exact PS.weak (ps_expr (pe_bm0 PySem.F.plainAttrs_list PySem.F.slot_list_clear PySem.F.type_list_clear mt_clear (pe_var l1 l2 l3 l4) rfl h3) rfl) fun D σ H q => tS_clr q
      · cases hc
    | seti i k' e' =>
      unfold chkS at hc
      dsimp only at hc
      split at hc
      · simp only [Bool.and_eq_true] at hc
        obtain ⟨⟨⟨⟨h1, h2⟩, h3⟩, h4⟩, h5⟩ := hc
        obtain ⟨l1, l2, l3, l4⟩ := okLoc_ok h h1
        rename_i x px kx pk ex pos
        have ha : ∀ v, assign (.Subscript (.Name x px) kx pk) X.env v = (do
            let ov ← holding [v] (eval (.Name x px) X.env)
            let iv ← holding [v, ov] (eval kx X.env)
            standAt pk
            holding [v, ov, iv] (setItem ov iv v)
            release [v, ov, iv] []) := fun v => by
          cases kx <;> first | rfl | cases h2
        have hsw0 : swapsWith ex (some (.Subscript (.Name x px) kx pk)) pos.line X.env = pure false := swaps_no h3 _ _ _
        have hsw : swapsWithSole [.Subscript (.Name x px) kx pk] ex pos.line X.env = pure false := by
          unfold swapsWithSole
          exact hsw0
        have hst : swappedStores [.Subscript (.Name x px) kx pk] ex X.env = pure none := by cases ex <;> rfl
        exact PS.weak (ps_asg (hE S X W B _ e' h h5) (pg_sub (pe_var l1 l2 l3 l4) (hE S X W B _ k' h h4) set_list ha) hsw hst rfl) fun D σ H q => tS_seti q
      · cases hc
    | swp i k1' k2' e' =>
      unfold chkS at hc
      dsimp only at hc
      split at hc
      · simp only [Bool.and_eq_true] at hc
        obtain ⟨⟨⟨⟨⟨⟨h1, h2⟩, h3⟩, h4⟩, h5⟩, h6⟩, h7⟩ := hc
        obtain ⟨l1, l2, l3, l4⟩ := okLoc_ok h h1
        obtain ⟨m1, m2, m3, m4⟩ := okLoc_ok h h2
        rename_i x px ka pa y py kb pb kt pt vs kk pv pos
        have ha : ∀ {x px kx pk}, notSlice kx = true → ∀ v, assign (.Subscript (.Name x px) kx pk) X.env v = (do
            let ov ← holding [v] (eval (.Name x px) X.env)
            let iv ← holding [v, ov] (eval kx X.env)
            standAt pk
            holding [v, ov, iv] (setItem ov iv v)
            release [v, ov, iv] []) := fun {x px kx pk} hk v => by
          cases kx <;> first | rfl | cases hk
        have hst : swappedStores [.Tuple [.Subscript (.Name x px) ka pa, .Subscript (.Name y py) kb pb] kt pt] (.Tuple vs kk pv) X.env = pure none := swapped_subs
        exact PS.weak (ps_asg (hE S X W B _ e' h h7) (pg_tup h.calm (pgs_cons (pg_sub (pe_var l1 l2 l3 l4) (hE S X W B _ k1' h h5) set_list (ha h3)) (pgs_cons (pg_sub (pe_var m1 m2 m3 m4) (hE S X W B _ k2' h h6) set_list (ha h4)) pgs_nil))) (by rfl) hst rfl) fun D σ H q => by
          rw [h.at_.K.trans hw.KU]
          exact tS_swp q
      · cases hc
    | asg tg' e' =>
      unfold chkS at hc
      dsimp only at hc
      split at hc
      · rename_i tg ex pos
        cases tg' with
        | nm i =>
          dsimp only at hc
          split at hc
          · rename_i x px
            simp only [Bool.and_eq_true] at hc
            obtain ⟨⟨h1, h2⟩, h3⟩ := hc
            have h2' := h2
            unfold chkTg at h2'
            simp only [Bool.and_eq_true, decide_eq_true_eq] at h2'
            obtain ⟨t1, t2⟩ := locB_ok h h2'.2
            have hNi : X.N[i]? = some x := by rw [h.N]; exact h2'.1
            have he := hE S X W B ex e' h h1
            have plain : swapsWith ex (some (.Name x px)) pos.line X.env = pure false → PS X (.Assign [.Name x px] ex pos) (tS U W B (exec C (.asg (.nm i) e'))) := fun hs =>
              PS.weak (ps_set hN hNi t1 he hs t2) fun D σ H q => tAsg_nm (te := tR U W B (ev C e')) (fun Q q => q) q
            rw [Bool.or_eq_true, Bool.or_eq_true] at h3
            rcases h3 with (h3 | h3) | h3
            · exact plain (swaps_no h3 _ _ _)
            · refine plain ?_
              have kc : X.env.kindOf x = some .cell := by
                unfold nameCell at h3
                rw [← h.sc] at h3
                split at h3
                · assumption
                · cases h3
              cases ex <;> first | rfl | (unfold swapsWith; simp only [kc]; simp; rw [show (NameKind.cell == NameKind.local) = false from rfl, Bool.and_false, Bool.false_and, Bool.false_and])
            · split at h3
              · rename_i elt gs scope pe
                simp only [Bool.and_eq_true] at h3
                obtain ⟨⟨h4, h5⟩, h6⟩ := h3
                have hl := nameLoc_ok h h4
                obtain ⟨tg, iter, ifs, own, wi, g, tt, te, rfl, q1, q2, q3, q4, q5, q6, q7⟩ := lc_ok hw (B := B) h h1
                have h6 : (scope.names.any fun (n, k) => n == x && (k == .local || k == .cell)) = false := by simpa using h6
                exact PS.weak (ps_setLc h.calm hN hNi hl (sw_true kind hl h5 h6) q1 q2 q3 q4 q5 q6) fun D σ H q => tAsg_nm (fun Q q => q7 _ _ _ q) q
              · cases h3
          · cases hc
        | tp is =>
          simp only [Bool.and_eq_true] at hc
          obtain ⟨⟨⟨h1, h2⟩, h3⟩, h4⟩ := hc
          have hstar : nostar tg = true := by
            cases tg <;> first | rfl | cases h2
          have hst : swappedStores [tg] ex X.env = pure none := by cases tg <;> cases ex <;> first | rfl | cases h3 | cases h2
          have hsw : swapsWithSole [tg] ex pos.line X.env = pure false := by
            show swapsWith ex (some _) _ _ = pure false
            exact swaps_no h4 _ _ _
          exact PS.weak (ps_asg (hE S X W B _ e' h h1) (chkTg_ok (B := B) hw h h2) hsw hst (assignEach_one hstar)) fun D σ H q => tAsg_tp q
      · cases hc
end
end PF

namespace PF
open PySem PySem.Spec PyProof.Rows L2 PySem.HandSPX
/-! ### defs -/
theorem out_br (r : Rs) : r.out.isBr = false := by cases r <;> rfl
theorem nobr (Q : Pg) (k : Nat) : NoBr (Q.ctx k) := by
  intro f ts r h
  have h : callK Q k f ts = .ok r := h
  cases k with
  | zero => cases h
  | succ k =>
    unfold callK at h
    split at h
    · rename_i fn _
      unfold runFn at h
      split at h
      · cases e : execs ⟨callK Q k, Q.gl, Q.wf⟩ fn.body (ts.map Sl.im ++ List.replicate (fn.ns - fn.np) Sl.un) with
        | no => rw [e] at h; cases h
        | ex c => rw [e] at h; cases h
        | ok fl =>
          rw [e, Oc.ok_bind] at h
          cases fl with
          | rt r' => cases h; exact out_br _
          | nx _ => cases h; rfl
          | bk _ => cases h
          | ct _ => cases h
      · cases h
    · rename_i d g _
      split at h
      · cases e : g ts with
        | no => rw [e] at h; cases h
        | ex c => rw [e] at h; cases h
        | ok r' => rw [e] at h; cases h; exact out_br _
      · cases h
    · cases h
theorem RsOk.outB {U : Uni} {B G' H' : Hp} {v : V} {r : Rs} (h : RsOk U B G' H' B v r) : RsOk U B G' H' B v r.out := by
  cases r with
  | im t => exact h
  | ow xs => exact h
  | br xs => exact h
def scopeC (N ps : List Str) (sc : Scope) : Bool :=
  (match sc.kind with | .function => true | _ => false) && !sc.isCoroutine && !sc.isGenerator && decide N.Nodup && decide (N.take ps.length = ps) &&
  ps.all (fun x => match sc.names.lookup x with | some .local => true | some .cell => true | _ => false) && sc.names.all (fun y => match y.2 with | .free => false | _ => true)
theorem scopeC_ok {N ps : List Str} {sc : Scope} (h : scopeC N ps sc = true) : FnScope N ps sc := by
  unfold scopeC at h
  simp only [Bool.and_eq_true, decide_eq_true_eq] at h
  obtain ⟨⟨⟨⟨⟨⟨h1, h2⟩, h3⟩, h4⟩, h5⟩, h6⟩, h7⟩ := h
  refine ⟨?_, by simpa using h2, by simpa using h3, h4, h5, fun x hx => ?_, fun y hy e => ?_⟩
  · split at h1
    · assumption
    · cases h1
  · have q := List.all_eq_true.mp h6 x hx
    split at q
    · exact .inl (by assumption)
    · exact .inr (by assumption)
    · cases q
  · have q := List.all_eq_true.mp h7 y hy
    rw [e] at q
    cases q
def fnChk (P : PSt) (st : Stmt) (N ps : List Str) (f : Fn) : Bool := decide (f.np = ps.length) && decide (f.ns = N.length) && scopeC N ps (defScope st) && chkL2 (chkS P 60 30 ⟨N, defScope st, fun _ => true⟩) (defBody st) f.body
section
variable {P : PSt} {Q : Pg} {U : Uni} {k : Nat} {prog : Program} {w : World} {K : PySem.W.Frag} {mg : Str → Option Value} {base : Heap}
theorem fn_level0 {fa : Addr} {fd : FuncData} {ps : List Str} {i : Nat} : FnOk prog w K mg base (L2.CX prog w) 0 fa fd ps (CallP U (Q.ctx 0) i) where
  len := fun vs H R E ⟨_, _, _, _, h⟩ => h.elim
  run := fun _ _ _ _ _ _ _ _ _ _ _ _ _ ⟨_, _, _, _, h⟩ => h.elim
theorem env_start {G H : Hp} {vs : List V} {ts : List Tr} {N : List Str} {np ns : Nat} (s : Same G H) (r : RepL U G vs ts) (h1 : ts.length = np) (h2 : ns = N.length) (h3 : np ≤ ns) : EnvOk U H G H (ts.map Sl.im ++ List.replicate (ns - np) Sl.un) (L2.start N vs) := by
  have hl := r.length
  refine ⟨s, fun a h => h, ?_, fun i sl h => ?_, fun i j xs ys p h => ?_⟩
  · unfold L2.start
    rw [List.length_append, List.length_append, List.length_map, List.length_map, List.length_replicate, List.length_replicate]
    omega
  · by_cases hi : i < ts.length
    · rw [List.getElem?_append_left (by rw [List.length_map]; exact hi), List.getElem?_map, Option.map_eq_some_iff] at h
      obtain ⟨t, h4, rfl⟩ := h
      obtain ⟨v, h5, h6⟩ := r.get h4
      refine ⟨v, ?_, h6⟩
      unfold L2.start
      rw [List.getElem?_append_left (by rw [List.length_map]; omega), List.getElem?_map, h5]
      rfl
    · rw [List.getElem?_append_right (by rw [List.length_map]; omega), List.getElem?_replicate] at h
      split at h
      · cases h; trivial
      · cases h
  · exfalso
    by_cases hi : i < ts.length
    · rw [List.getElem?_append_left (by rw [List.length_map]; exact hi), List.getElem?_map, Option.map_eq_some_iff] at h
      obtain ⟨t, _, h5⟩ := h
      cases h5
    · rw [List.getElem?_append_right (by rw [List.length_map]; omega), List.getElem?_replicate] at h
      split at h <;> cases h
theorem fn_level {name qual : Str} {st : Stmt} {fa : Addr} {fd : FuncData} {N ps : List Str} {i : Nat} {f : Fn} (hw : Wd P U (Q.ctx k) k prog w K mg base) (F : Fun K name qual st fa fd) (hf : Q.defs i = some (.fn f)) (hc : fnChk P st N ps f = true) (hnp : f.np ≤ f.ns) :
    FnOk prog w K mg base (L2.CX prog w) (k + 1) fa fd ps (CallP U (Q.ctx (k + 1)) i) := by
  unfold fnChk at hc
  simp only [Bool.and_eq_true, decide_eq_true_eq] at hc
  obtain ⟨⟨⟨h1, h2⟩, h3⟩, h4⟩ := hc
  have S := scopeC_ok h3
  have ec : ∀ ts, (Q.ctx (k + 1)).call i ts = runFn (Q.ctx k) f ts := fun ts => by
    show callK Q (k + 1) i ts = _
    unfold callK
    rw [hf]
    rfl
  refine F.okX S (fun vs H R E h => ?_) (fun cdv A outer s H vs R E hr h => ?_)
  · obtain ⟨G, ts, _, r, h⟩ := h
    rw [ec] at h
    unfold runFn at h
    by_cases hl : ts.length = f.np
    · rw [r.length, hl, h1]
    · rw [if_neg hl] at h
      exact h.elim
  · obtain ⟨G, ts, sm, r, h⟩ := h
    rw [ec] at h
    unfold runFn at h
    by_cases hl : ts.length = f.np
    · rw [if_pos hl] at h
      have xo : XOk k prog w K mg base ⟨N, defScope st, fun _ => true⟩ (fun cls d _ H => E cls d H) (cxOf (L2.CX prog w) prog w K mg base N qual (defScope st) fa cdv A outer s H E) :=
        ⟨⟨rfl, rfl, rfl, rfl, rfl⟩, takes_of rfl rfl rfl rfl, hr, rfl, rfl, rfl, S.nd, fun _ => rfl⟩
      refine ⟨_, block_ok (U := U) (C := Q.ctx k) (W := fun cls d _ H => E cls d H) (B := H) (fun st' m q => sound_S hw 60 30 _ _ _ H st' m xo S.kind (passes_of rfl) q) h4, ?_⟩
      refine ⟨G, G, ts.map Sl.im ++ List.replicate (f.ns - f.np) Sl.un, env_start sm r hl h2 hnp, Grow.refl sm, ?_⟩
      unfold PostS
      cases e : execs (Q.ctx k) f.body (ts.map Sl.im ++ List.replicate (f.ns - f.np) Sl.un) with
      | no => rw [e] at h; exact h
      | ex c => rw [e] at h; exact fun σ' G' H' g => h G' H' g
      | ok fl =>
        rw [e, Oc.ok_bind] at h
        cases fl with
        | nx env' => exact fun σ' G' H' I' g => h.2 .non G' H' g Rep.non
        | bk _ => exact h.elim
        | ct _ => exact h.elim
        | rt r' => exact fun v G' H' g q => h.2 v G' H' g q.outB
    · rw [if_neg hl] at h
      exact h.elim
theorem callable_fn {name qual : Str} {st : Stmt} {fa : Addr} {fd : FuncData} {ps : List Str} {i : Nat} (F : Fun K name qual st fa fd) (b : Binds K fd ps []) (L : FnOk prog w K mg base (L2.CX prog w) k fa fd ps (CallP U (Q.ctx k) i))
    {X : Cx} {W : WX} (h : At prog w K mg base X) (tk : Takes X W) (hr : Room k X.A) : Callable U (Q.ctx k) W X i (.ref fa) := by
  obtain ⟨e1, e2, e3, e4, e5⟩ := h
  subst e1 e2 e3 e4 e5
  exact ⟨F.kp, fun pins s σ H us vs R I r h => run_fnS (E := WE W) L hr b (passAt tk σ) I r h⟩
/-- what a name of the text is -/
structure FnFact (P : PSt) (Q : Pg) (K : PySem.W.Frag) (i : Nat) (fa : Addr) (fd : FuncData) : Prop where
  ex : ∃ (name qual : Str) (st : Stmt) (N ps : List Str) (f : Fn), Q.defs i = some (.fn f) ∧ Fun K name qual st fa fd ∧ Binds K fd ps [] ∧ fnChk P st N ps f = true ∧ f.np ≤ f.ns
structure Wh (P : PSt) (Q : Pg) (U : Uni) (prog : Program) (w : World) (K : PySem.W.Frag) (mg : Str → Option Value) (base : Heap) : Prop where
  KU : K = U.K
  calls : ∀ x i, P.fnN.lookup x = some i → (∃ fa fd, mg x = some (.ref fa) ∧ FnFact P Q K i fa fd) ∨
    (∃ u, mg x = some u ∧ ∀ k X W, At prog w K mg base X → Takes X W → Room k X.A → X.calm = true → Callable U (Q.ctx k) W X i u)
  meths : ∀ m i c, P.mtN.lookup m = some (i, c) → ∃ fa fd, FnFact P Q K i fa fd ∧ Cls K (U.cls c) ∧ Meth K (U.cls c) m fa ∧ m ∉ U.flds c
  flds : ∀ m c j, P.fldN.lookup m = some (c, j) → Cls K (U.cls c) ∧ NoAttr K (U.cls c) m ∧ (U.flds c)[j]? = some m ∧ (U.flds c).Nodup
  gls : ∀ x g, P.glN.lookup x = some g → ∃ u v, mg x = some u ∧ RelV v u ∧ ∀ G, Rep U G v (Q.gl g)
  blt : ∀ x, x ∈ P.blN → mg x = none
  dct : ∀ X, At prog w K mg base X → DctOk U X
  excs : ∀ x c, P.excN.lookup x = some c → mg x = some (.ref (U.exc c)) ∧ PySem.W.excIn K (U.exc c) veTail "ValueError.__new__" = true ∧ PySem.W.keepIn K (.ref (U.exc c)) = true ∧
    PySem.W.subIn K (.ref (U.exc c)) (.type "BaseException") = some true ∧ PySem.W.typeIn K (.ref (U.exc c)) = some (.type "type")
theorem all_levels (hw : Wh P Q U prog w K mg base) : ∀ k, Wd P U (Q.ctx k) k prog w K mg base ∧ ∀ i fa fd, FnFact P Q K i fa fd → ∃ ps, Binds K fd ps [] ∧ FnOk prog w K mg base (L2.CX prog w) k fa fd ps (CallP U (Q.ctx k) i) := by
  have mk : ∀ k, (∀ i fa fd, FnFact P Q K i fa fd → ∃ ps, Binds K fd ps [] ∧ FnOk prog w K mg base (L2.CX prog w) k fa fd ps (CallP U (Q.ctx k) i)) → Wd P U (Q.ctx k) k prog w K mg base := fun k L => by
    refine ⟨hw.KU, nobr Q k, fun x i h => ?_, fun m i c h => ?_, fun m c j h X a => ?_, hw.gls, hw.blt, hw.dct, hw.excs⟩
    · rcases hw.calls x i h with ⟨fa, fd, h1, h2⟩ | ⟨u, h1, h2⟩
      · obtain ⟨ps, b, L⟩ := L i fa fd h2
        obtain ⟨name, qual, st, N, ps', f, _, F, _⟩ := h2.ex
        exact ⟨.ref fa, h1, fun X W a tk hr _ => callable_fn F b L a tk hr⟩
      · exact ⟨u, h1, fun X W a tk hr hc => h2 k X W a tk hr hc⟩
    · obtain ⟨fa, fd, h1, h2, h3, h4⟩ := hw.meths m i c h
      obtain ⟨ps, b, L⟩ := L i fa fd h1
      obtain ⟨name, qual, st, N, ps', f, _, F, _⟩ := h1.ex
      exact ⟨fa, fun X W a tk hr _ => ⟨⟨by rw [a.K]; exact h2, by rw [a.K]; exact h3, h4⟩, callable_fn F b L a tk hr⟩⟩
    · obtain ⟨h1, h2, h3, h4⟩ := hw.flds m c j h
      exact ⟨by rw [a.K]; exact h1, by rw [a.K]; exact h2, h3, h4⟩
  intro k
  induction k with
  | zero =>
    have L : ∀ i fa fd, FnFact P Q K i fa fd → ∃ ps, Binds K fd ps [] ∧ FnOk prog w K mg base (L2.CX prog w) 0 fa fd ps (CallP U (Q.ctx 0) i) := fun i fa fd h => by
      obtain ⟨name, qual, st, N, ps, f, _, F, b, _⟩ := h.ex
      exact ⟨ps, b, fn_level0⟩
    exact ⟨mk 0 L, L⟩
  | succ k ih =>
    have L : ∀ i fa fd, FnFact P Q K i fa fd → ∃ ps, Binds K fd ps [] ∧ FnOk prog w K mg base (L2.CX prog w) (k + 1) fa fd ps (CallP U (Q.ctx (k + 1)) i) := fun i fa fd h => by
      obtain ⟨name, qual, st, N, ps, f, h1, F, b, h2, h3⟩ := h.ex
      exact ⟨ps, b, fn_level ih.1 F h1 h2 h3⟩
    exact ⟨mk (k + 1) L, L⟩
/-! ### the law -/
/-- law's promise: a list of at most 63 ints, True -/
def spLaw (K : PySem.W.Frag) : Sp := fun vs H R _ => ∃ (a : Addr) (ns : List Int), vs = [.ref a] ∧ SqL K H a (ns.map V.int) ∧ ns.length ≤ 63 ∧ (∀ z ∈ ns, Builtin.Int.intBits z ≤ 1048576) ∧ ∀ H', R (.bl true) H'
theorem repL_ints {G : Hp} : ∀ ns : List Int, RepL U G (ns.map V.int) (ns.map Tr.int)
  | [] => .nil
  | n :: ns => .cons (.int n) (repL_ints ns)
theorem law_ok {k i : Nat} {fa : Addr} {fd : FuncData} {ps : List Str} (L : FnOk prog w K mg base (L2.CX prog w) k fa fd ps (CallP U (Q.ctx k) i))
    (hK : K = U.K) (h : ∀ ns : List Int, ns.length ≤ 63 → (∀ z ∈ ns, Builtin.Int.intBits z ≤ 1048576) → callK Q k i [.lst (ns.map Tr.int)] = .ok (.im (.bl true))) : FnOk prog w K mg base (L2.CX prog w) k fa fd ps (spLaw K) :=
  L.imp fun vs H R E ⟨a, ns, e, hr, hl, hb, q⟩ => by
    subst e
    refine ⟨H, [.lst (ns.map Tr.int)], Same.refl _, .cons (.lst (hK ▸ hr) (repL_ints ns)) .nil, ?_⟩
    rw [show (Q.ctx k).call i [.lst (ns.map Tr.int)] = callK Q k i [.lst (ns.map Tr.int)] from rfl, h ns hl hb]
    refine ⟨rfl, fun v G' H' g k => ?_⟩
    have k : Rep U G' v (.bl true) := k
    cases k
    exact q H'
end
end PF

namespace PF
open PySem PySem.Spec PyProof.Rows L2 PySem.HandSPX
/-! ### written dicts -/
theorem IntE.find {es : List DictEntry} {ks : List Int} {vs : List V} (h : IntE es ks vs) {i : Int} {v : V} (hl : (ks.zip vs).lookup i = some v) : ∃ u, (es.find? fun e => Value.isInt i e.key).map (·.val) = some u ∧ RelV v u := by
  induction h with
  | nil => simp at hl
  | @cons k t u v' es ks vs r _ ih =>
    rw [List.zip_cons_cons, List.lookup_cons] at hl
    rw [List.find?_cons]
    have e : Value.isInt i (.int k t) = (i == k) := by
      show Value.isInt i (.int k t) = (i == k)
      by_cases z : i = k
      · subst z; simp [Value.isInt]
      · have : ¬ k = i := fun q => z q.symm
        simp only [Value.isInt]
        rw [beq_eq_false_iff_ne.mpr this, beq_eq_false_iff_ne.mpr z]
    show ∃ u', ((match Value.isInt i (.int k t) with | true => some _ | false => _) : Option DictEntry).map (·.val) = some u' ∧ RelV v u'
    rw [e]
    cases hk : i == k with
    | true =>
      rw [hk] at hl
      cases hl
      exact ⟨u, rfl, r⟩
    | false =>
      rw [hk] at hl
      exact ih hl
theorem IntE.keys {es : List DictEntry} {ks : List Int} {vs : List V} (h : IntE es ks vs) (prog : Program) (w : World) : ∀ e ∈ es, ∃ k, (intKind prog w).is k e.key = true ∧ e.hash = (intKind prog w).hash k := by
  induction h with
  | nil => intro e h; cases h
  | @cons k t u v' es ks vs r _ ih =>
    intro e he
    rcases List.mem_cons.mp he with rfl | he
    · exact ⟨k, by show Value.isInt k (.int k t) = true; simp [Value.isInt], rfl⟩
    · exact ih e he
theorem dct_ok {U : Uni} {X : Cx} (hK : X.K = U.K) : DctOk U X := by
  intro value slice pins s σ H x y v u Q I rx ry h hs
  obtain ⟨a, ks, vs, i, r, rfl, rfl, ⟨es, n, hl, hk⟩, e, q⟩ := h
  obtain rfl : v = Value.ref a := rx
  obtain ⟨t, rfl⟩ := ry
  rw [← hK] at hl
  have hm : s.heap.MapOf (intKind X.prog X.w) a (fun k => findBy Value.isInt es k) :=
    ⟨_, es, n, I.kIn _ _ hl, ⟨rfl, rfl, rfl⟩, rfl, fun e he => hk.keys X.prog X.w e (Array.mem_toList_iff.mpr he), fun _ => rfl⟩
  obtain ⟨w', e2, r2⟩ := hk.find e
  have hf : findBy Value.isInt es i = some w' := by
    unfold findBy
    rw [← Array.find?_toList]
    exact e2
  refine tail_any hm.typeIs slot_dict_getitem.lookup (wpAny_getItem_of (show (intKind X.prog X.w).is i (.int i t) = true from by show Value.isInt i (.int i t) = true; simp [Value.isInt]) hm hf ⟨r, H, I.tok _, r2, q⟩) hs
/-! ### a class with one field, its __init__: a look, then self.f = m -/
section
variable {X : Cx} {CX : CXT} {k : Nat} {f C : Addr} {fd : FuncData} {ps : List Str} {sp : Sp} {E : XK}
theorem run_makeS {pins : List (Addr × Obj)} {σ : L2.St} {H : Hp} {s : Shared} {Q : VK} {us : List Value} {vs : List V} (M : Mk X.K C f) (F : FnOk X.prog X.w X.K X.mg X.base CX k f fd ps sp) (hr : Room (k + 1) X.A) (hb : Binds X.K fd ps [])
    (hx : PassesAt CX X σ E) (I : Inv X pins σ H s) (r : Vals vs us)
    (h : ∀ x dx, H x = none → H dx = none → dx ≠ x → sp (.ref x :: vs) (upd (upd H dx (.own x)) x (.ins C dx [])) (fun v H2 => v = .non ∧ Q (.ref x) H2) E) :
    wpAny (model X.prog X.w) X.A (call (.ref C) us) (EP X pins σ Q) X.xe s := by
  have hq := h (s.heap.objs.size + 1) s.heap.objs.size (I.hok.fresh (Nat.le_succ _)) (I.hok.fresh (Nat.le_refl _)) (Nat.ne_of_lt (Nat.lt_succ_self _))
  have I2 := Inv.made (C := C) I
  have r2 : Vals (V.ref (s.heap.objs.size + 1) :: vs) (Value.ref (s.heap.objs.size + 1) :: us) := .cons rfl r
  have hl : (Value.ref (s.heap.objs.size + 1) :: us).length = ps.length := by
    have e := r2.length
    rw [F.len _ _ _ _ hq] at e
    exact e.symm
  have b := hb _ (Value.ref (s.heap.objs.size + 1) :: us) I2.kIn (by rw [List.append_nil]; exact hl)
  rw [List.append_nil] at b
  refine wpAny_call (make_map (f := f) I.kIn M.makes M.init (beq_iff_eq.mp M.fn) (codeAny_mono (F.run _ X.stack _ _ ⟨Value.ref (s.heap.objs.size + 1) :: us, []⟩ (Value.ref (s.heap.objs.size + 1) :: us) _ _ E (hr.make C us [])
    (I2.env0.make C us []) b r2 hq) fun r s' hq' => ?_))
  cases r with
  | error e => exact hx pins _ _ e s' I2 hq'
  | ok fl =>
    cases fl with
    | ret u =>
      obtain ⟨v, H', I3, rv, ev, q3⟩ := I2.after hq'
      subst ev
      exact ⟨rv, ⟨V.ref (s.heap.objs.size + 1), H', I3, rfl, q3⟩⟩
    | next => exact False.elim hq'
    | brk => exact False.elim hq'
    | cont => exact False.elim hq'
end
/-- what the class's making answers: a look at the argument, then the object -/
def mk1 (c : Nat) (g : Tr → Oc Tr) : List Tr → Oc Rs
  | [t] => g t >>= fun t' => .ok (.im (.ins c [t']))
  | _ => .no
section
variable {P : PSt} {Q : Pg} {U : Uni} {prog : Program} {w : World} {K : PySem.W.Frag} {mg : Str → Option Value} {base : Heap}
def spI (U : Uni) (c : Nat) (g : Tr → Oc Tr) (fld : Str) : Sp := fun vs H R E => ∃ (x dx : Addr) (v : V) (t : Tr) (G : Hp), vs = [.ref x, v] ∧ H x = some (.ins (U.cls c) dx []) ∧ G x = none ∧ Same G H ∧ Rep U G v t ∧
  match g t with
  | .ok t' => ∀ v' G' H', Grow G H G' H' → Rep U G' v' t' → R .non (upd H' x (.ins (U.cls c) dx [(fld, v')]))
  | .ex e => ∀ G' H', Grow G H G' H' → E (.ref (U.exc e)) none H'
  | .no => False
theorem init_ok {k : Nat} {qual : Str} {st s1 : Stmt} {px ps2 pa2 pa3 : Pos} {fa : Addr} {fd : FuncData} {c : Nat} {g : Tr → Oc Tr} {m : Sm} {self fld arg : Str} (hw : Wd P U (Q.ctx k) k prog w K mg base) (F : Fun K "__init__" qual st fa fd)
    (hS : FnScope [self, arg] [self, arg] (defScope st)) (hb : defBody st = [s1, .Assign [.Attribute (.Name self px) fld pa2] (.Name arg ps2) pa3]) (hc : chkS P 60 30 ⟨[self, arg], defScope st, fun _ => true⟩ s1 m = true)
    (hself : okLoc ⟨[self, arg], defScope st, fun _ => true⟩ self 0 = true) (harg : okLoc ⟨[self, arg], defScope st, fun _ => true⟩ arg 1 = true)
    (hm : ∀ a t, exec (Q.ctx k) m [.im (.raw a), .im t] = (g t >>= fun t' => .ok (.nx [.im (.raw a), .im t'])))
    (cl : Cls K (U.cls c)) (na : NoAttr K (U.cls c) fld) : FnOk prog w K mg base (L2.CX prog w) (k + 1) fa fd [self, arg] (spI U c g fld) := by
  refine F.okX hS (fun vs H R E h => ?_) (fun cdv A outer s H vs R E hr h => ?_)
  · obtain ⟨x, dx, v, t, G, rfl, _⟩ := h
    rfl
  · obtain ⟨x, dx, v, t, G, rfl, hx, gx, sm, rp, h⟩ := h
    have xo : XOk k prog w K mg base ⟨[self, arg], defScope st, fun _ => true⟩ (fun cls d _ H => E cls d H) (cxOf (L2.CX prog w) prog w K mg base [self, arg] qual (defScope st) fa cdv A outer s H E) :=
      ⟨⟨rfl, rfl, rfl, rfl, rfl⟩, takes_of rfl rfl rfl rfl, hr, rfl, rfl, rfl, hS.nd, fun _ => rfl⟩
    obtain ⟨l1, l2, l3, l4⟩ := okLoc_ok xo hself
    obtain ⟨m1, m2, m3, m4⟩ := okLoc_ok xo harg
    rw [hb]
    refine ⟨_, pss_cons (sound_S hw 60 30 _ _ _ H s1 m xo hS.kind (passes_of rfl) hc) (pss_one (ps_fld (pe_var l1 l2 l3 l4) (pe_var m1 m2 m3 m4) rfl)), ?_⟩
    have env0 : EnvOk U H G H [.im (.raw x), .im t] (L2.start [self, arg] [.ref x, v]) := by
      refine ⟨sm, fun a h => h, rfl, fun i sl hi => ?_, fun i j xs ys p hi => ?_⟩
      · match i, hi with
        | 0, hi => cases hi; exact ⟨_, rfl, .raw x⟩
        | 1, hi => cases hi; exact ⟨v, rfl, rp⟩
      · match i, hi with
        | 0, hi => cases hi
        | 1, hi => cases hi
    refine ⟨G, G, _, env0, Grow.refl sm, ?_⟩
    rw [hm]
    unfold PostS
    cases e : g t with
    | no => rw [e] at h; exact h
    | ex c => rw [e] at h; exact fun σ' G' H' gg => h G' H' gg
    | ok t' =>
      rw [e] at h
      intro σ' G' H' I' gg
      obtain ⟨v0, s0, r0⟩ := I'.rep 0 _ rfl
      obtain ⟨v1, s1, r1⟩ := I'.rep 1 _ rfl
      cases r0
      exact ⟨v1, s1, .ref x, s0, x, _, dx, [], rfl, gg.keep x _ gx hx, cl, na, by show 0 < 1000; decide, h v1 G' H' gg r1⟩
theorem callable_cls {k i c : Nat} {fa : Addr} {fd : FuncData} {g : Tr → Oc Tr} {self arg fld : Str} (M : Mk K (U.cls c) fa) (b : Binds K fd [self, arg] []) (L : ∀ k, FnOk prog w K mg base (L2.CX prog w) (k + 1) fa fd [self, arg] (spI U c g fld))
    (hd : Q.defs i = some (.nat 2 (mk1 c g))) (hf : U.flds c = [fld])
    {X : Cx} {W : WX} (h : At prog w K mg base X) (tk : Takes X W) (hr : Room k X.A) : Callable U (Q.ctx k) W X i (.ref (U.cls c)) := by
  obtain ⟨e1, e2, e3, e4, e5⟩ := h
  subst e1 e2 e3 e4 e5
  refine ⟨M.kp, fun pins s σ H us vs R I r hc => ?_⟩
  obtain ⟨G, ts, sm, rr, hc⟩ := hc
  have ec : (Q.ctx k).call i ts = callK Q k i ts := rfl
  rw [ec] at hc
  match k, hr, hc with
  | 0, hr, hc => exact hc.elim
  | 1, hr, hc =>
    unfold callK at hc
    simp only [hd] at hc
    rw [if_neg (by omega)] at hc
    exact hc.elim
  | k + 2, hr, hc =>
    unfold callK at hc
    simp only [hd] at hc
    rw [if_pos (by omega)] at hc
    refine run_makeS (E := WE W σ) M (L k) hr b (passAt tk σ) I r fun x dx hx hdx hne => ?_
    have hgx : G x = none := ghost_none sm hx
    have hgd : G dx = none := ghost_none sm hdx
    have sm2 : Same G (upd (upd H dx (.own x)) x (.ins (U.cls c) dx [])) := fun a o ha => by
      have n1 : a ≠ x := fun z => by subst z; rw [hgx] at ha; cases ha
      have n2 : a ≠ dx := fun z => by subst z; rw [hgd] at ha; cases ha
      rw [upd_ne n1, upd_ne n2]
      exact sm a o ha
    cases rr with
    | nil => exact hc.elim
    | @cons v vs t ts r1 rr =>
      cases rr with
      | cons _ _ => exact hc.elim
      | nil =>
        refine ⟨x, dx, v, t, G, rfl, upd_same, hgx, sm2, r1, ?_⟩
        have hc : match (g t >>= fun t' => Oc.ok (Rs.im (.ins c [t']))) >>= fun r => Oc.ok r.out with
          | .no => False
          | .ex c => ∀ G' H', Grow G H G' H' → W (.ref (U.exc c)) none σ H'
          | .ok r => r.isBr = false ∧ ∀ v G' H', Grow G H G' H' → RsOk U H G' H' H v r → R v H' := hc
        have low : ∀ {G' H' : Hp}, Grow G (upd (upd H dx (.own x)) x (.ins (U.cls c) dx [])) G' H' → Grow G H G' H' := fun {G' H'} q => by
          refine ⟨q.gg, q.gh, fun a o ha hh => ?_, fun a ha hh => ?_⟩
          · have n1 : a ≠ x := fun z => by subst z; rw [hx] at hh; cases hh
            have n2 : a ≠ dx := fun z => by subst z; rw [hdx] at hh; cases hh
            exact q.keep a o ha (by rw [upd_ne n1, upd_ne n2]; exact hh)
          · have n1 : a ≠ x := fun z => by subst z; exact hh hx
            have n2 : a ≠ dx := fun z => by subst z; exact hh hdx
            exact q.new a ha (by rw [upd_ne n1, upd_ne n2]; exact hh)
        cases e : g t with
        | no => rw [e] at hc; exact hc
        | ex d => rw [e] at hc; exact fun G' H' q => hc G' H' (low q)
        | ok t' =>
          rw [e] at hc
          intro v' G' H' q r'
          refine ⟨rfl, ?_⟩
          have gx' : G' x = none := q.new x hgx (by rw [upd_same]; simp)
          have q2 := low q
          have g3 : Grow G H (upd G' x (.ins (U.cls c) dx [(fld, v')])) (upd H' x (.ins (U.cls c) dx [(fld, v')])) := by
            refine ⟨q2.gg.trans (ghost_same gx'), fun a o ha => ?_, fun a o ha hh => ?_, fun a ha hh => ?_⟩
            · by_cases z : a = x
              · subst z; rw [upd_same] at ha; rw [upd_same]; exact ha
              · rw [upd_ne z] at ha; rw [upd_ne z]; exact q2.gh a o ha
            · have n1 : a ≠ x := fun z => by subst z; rw [hx] at hh; cases hh
              rw [upd_ne n1]; exact q2.keep a o ha hh
            · have n1 : a ≠ x := fun z => by subst z; exact hh hx
              rw [upd_ne n1]; exact q2.new a ha hh
          refine hc.2 (.ref x) _ _ g3 ?_
          show Rep U _ (.ref x) (.ins c [t'])
          refine .ins (dx := dx) (vs := [v']) ?_ (by rw [hf]; rfl) (.cons (r'.mono (ghost_same gx')) .nil)
          rw [upd_same, hf]
          rfl
end
end PF
namespace PF
open PySem PySem.Spec PyProof.Rows L2 PySem.HandSPX
/-! ### tables, row by row -/
def AllL {α : Type} (p : Str → α → Prop) : List (Str × α) → Prop
  | [] => True
  | y :: l => p y.1 y.2 ∧ AllL p l
theorem allL {α : Type} {p : Str → α → Prop} : ∀ {l : List (Str × α)}, AllL p l → ∀ x i, l.lookup x = some i → p x i
  | [], _, x, i, h => by simp at h
  | (a, b) :: l, hp, x, i, h => by
    rw [List.lookup_cons] at h
    cases hx : x == a with
    | true =>
      rw [hx] at h
      cases h
      have e : x = a := by simpa using hx
      subst e
      exact hp.1
    | false =>
      rw [hx] at h
      exact allL hp.2 x i h
theorem allL2 {α β : Type} {p : Str → α → β → Prop} {l : List (Str × α × β)} (h : AllL (fun x (y : α × β) => p x y.1 y.2) l) : ∀ x i c, l.lookup x = some (i, c) → p x i c := fun x i c e => allL h x (i, c) e
theorem allN {α : Type} {p : α → Prop} {q : Str → α → Prop} {x : Str} : ∀ (i : α), ([] : List (Str × α)).lookup x = some i → p i := fun i h => by cases h
def AllM (p : Str → Prop) : List Str → Prop
  | [] => True
  | y :: l => p y ∧ AllM p l
theorem allM {p : Str → Prop} : ∀ {l : List Str}, AllM p l → ∀ x, x ∈ l → p x
  | [], _, x, h => by cases h
  | a :: l, hp, x, h => by
    rcases List.mem_cons.mp h with rfl | h
    · exact hp.1
    · exact allM hp.2 x h
theorem rv_int {i : Int} {t : Tok} : RelV (.int i) (.int i t) := ⟨t, rfl⟩
theorem rv_str {x : Str} {t : Tok} : RelV (.str x) (.str x t) := ⟨t, rfl⟩
theorem rv_ref {a : Addr} : RelV (.ref a) (.ref a) := rfl
theorem noCX {P : Program} {w : World} {H : Hp} {s : Shared} {e : Value} {s' : Shared} (h : L2.CX P w [] H s (fun _ _ _ => False) e s') : False := by
  obtain ⟨_, _, _, _, _, _, _, _, _, _, _, _, z⟩ := h
  exact z
end PF

namespace PF
open PySem PySem.Spec PyProof.Rows L2 PySem.HandSPX
open Builtin.Int (intBits)
/-! ### running by rewriting -/
def retK : Fl → Oc Rs
  | .rt r => .ok r.out
  | .nx _ => .ok (.im .non)
  | _ => .no
def contE (C : Ctx) (ss : List Sm) : Fl → Oc Fl
  | .nx e => execs C ss e
  | f => .ok f
theorem execs_nil {C : Ctx} {env : List Sl} : execs C [] env = .ok (.nx env) := rfl
theorem execs_cons {C : Ctx} {s : Sm} {ss : List Sm} {env : List Sl} : execs C (s :: ss) env = (exec C s env >>= contE C ss) := rfl
theorem execs_at {C : Ctx} {s : Sm} {ss : List Sm} {env env' : List Sl} (h : exec C s env = .ok (.nx env')) {r : Oc Fl} (h2 : execs C ss env' = r) : execs C (s :: ss) env = r := by rw [execs_cons, h]; exact h2
theorem execs_rt {C : Ctx} {s : Sm} {ss : List Sm} {env : List Sl} {r : Rs} (h : exec C s env = .ok (.rt r)) : execs C (s :: ss) env = .ok (.rt r) := by rw [execs_cons, h]; rfl
theorem ctx_call {Q : Pg} {k i : Nat} {ts : List Tr} : (Q.ctx k).call i ts = callK Q k i ts := rfl
theorem ctx_gl {Q : Pg} {k g : Nat} : (Q.ctx k).gl g = Q.gl g := rfl
theorem call_fn {Q : Pg} {i : Nat} {f : Fn} (h : Q.defs i = some (.fn f)) (k : Nat) (ts : List Tr) (hl : ts.length = f.np) : callK Q (k + 1) i ts = (execs (Q.ctx k) f.body (ts.map Sl.im ++ List.replicate (f.ns - f.np) Sl.un) >>= retK) := by
  unfold callK
  simp only [h]
  unfold runFn
  rw [if_pos hl]
  rfl
theorem opE_int {o : Op} {i j : Int} : opE o (.im (.int i)) (.im (.int j)) = (opI o i j >>= fun k => .ok (.im (.int k))) := rfl
section
variable {i j : Int}
theorem mulOk_of {m n : Nat} (hi : intBits i ≤ m) (hj : intBits j ≤ n) (h : m + n ≤ 134217728) : mulOk i j = true := decide_eq_true (Nat.le_trans (Nat.add_le_add hi hj) h)
theorem opI_add : opI .add i j = .ok (i + j) := rfl
theorem opI_sub : opI .sub i j = .ok (i - j) := rfl
theorem opI_mul (h : mulOk i j = true) : opI .mul i j = .ok (i * j) := if_pos h
theorem opI_mod (h : 0 < j) : opI .mod i j = .ok (i % j) := if_pos (decide_eq_true h)
theorem opI_fdiv (h : 0 < j) (h2 : intBits j ≤ 8000) : opI .fdiv i j = .ok (i / j) := by
  refine if_pos ?_
  rw [Bool.and_eq_true]
  refine ⟨decide_eq_true h, decide_eq_true ?_⟩
  unfold Builtin.Int.intBits at h2
  split at h2
  · rename_i z
    have : j = 0 := by simpa using z
    omega
  · omega
theorem opI_pow (h : 0 ≤ j) (h2 : j ≤ 1000000) (h3 : i.natAbs < 2 ^ 64) : opI .pow i j = .ok (i ^ j.toNat) := by
  refine if_pos ?_
  rw [Bool.and_eq_true, Bool.and_eq_true]
  exact ⟨⟨decide_eq_true h, decide_eq_true h2⟩, decide_eq_true h3⟩
theorem bits_of_le {m n : Nat} (h : intBits i ≤ m) (h2 : m ≤ n) : intBits i ≤ n := Nat.le_trans h h2
theorem bits_div (h : 0 < j) {m : Nat} (hi : intBits i ≤ m) : intBits (i / j) ≤ m := by
  have e : i / j = i.fdiv j := (Int.fdiv_eq_ediv_of_nonneg i (by omega)).symm
  rw [e]
  exact intBits_fdiv_le hi
theorem bits_mod (h : 0 < j) {m : Nat} (hi : intBits j ≤ m) : intBits (i % j) ≤ m := by
  have h1 := Int.emod_nonneg i (show j ≠ 0 by omega)
  have h2 := Int.emod_lt_of_pos i h
  exact intBits_le_of_natAbs (by omega) hi
theorem see_im {t : Tr} : (Rs.im t).see = t := rfl
theorem see_ow {t : List Tr} : (Rs.ow t).see = .lst t := rfl
theorem see_br {t : List Tr} : (Rs.br t).see = .lst t := rfl
theorem fz_im {t : Tr} : (Rs.im t).fz = .ok t := rfl
theorem fz_ow {t : List Tr} : (Rs.ow t).fz = .ok (.lst t) := rfl
theorem out_im {t : Tr} : (Rs.im t).out = .im t := rfl
theorem out_ow {t : List Tr} : (Rs.ow t).out = .ow t := rfl
theorem out_br' {t : List Tr} : (Rs.br t).out = .ow t := rfl
theorem at0 {x : Tr} {xs : List Tr} : atI (x :: xs) 0 = some x := by simp [atI, ixN]
theorem at1 {x y : Tr} {xs : List Tr} : atI (x :: y :: xs) 1 = some y := by
  have h : (1 : Int) < ((x :: y :: xs).length : Int) := by rw [List.length_cons, List.length_cons]; omega
  unfold atI ixN
  rw [if_pos (by decide), if_pos h]
  rfl
theorem ixT_of {xs : List Tr} {i : Int} {x : Tr} (h : atI xs i = some x) : ixE (.tup xs) (.int i) = .ok x := by
  show (match atI xs i with | some t => Oc.ok t | none => Oc.no) = _
  rw [h]
theorem ixL_of {xs : List Tr} {i : Int} {x : Tr} (h : atI xs i = some x) : ixE (.lst xs) (.int i) = .ok x := by
  show (match atI xs i with | some t => Oc.ok t | none => Oc.no) = _
  rw [h]
theorem ixT0 {x : Tr} {xs : List Tr} : ixE (.tup (x :: xs)) (.int 0) = .ok x := ixT_of at0
theorem ixT1 {x y : Tr} {xs : List Tr} : ixE (.tup (x :: y :: xs)) (.int 1) = .ok y := ixT_of at1
theorem eq_int : Tr.eq (.int i) (.int j) = .ok (decide (i = j)) := rfl
theorem eq_t2 {a b c d : Int} : Tr.eq (.tup [.int a, .int b]) (.tup [.int c, .int d]) = .ok (decide (a = c) && decide (b = d)) := by
  have h : Tr.eq (.tup [.int a, .int b]) (.tup [.int c, .int d]) = .ok (decide (a = c) && (decide (b = d) && true)) := rfl
  rw [h, Bool.and_true]
theorem eq_tt2 {a b c d a' b' c' d' : Int} : Tr.eq (.tup [.tup [.int a, .int b], .tup [.int c, .int d]]) (.tup [.tup [.int a', .int b'], .tup [.int c', .int d']]) = .ok (decide (a = a') && decide (b = b') && (decide (c = c') && decide (d = d'))) := by
  have h : Tr.eq (.tup [.tup [.int a, .int b], .tup [.int c, .int d]]) (.tup [.tup [.int a', .int b'], .tup [.int c', .int d']]) = .ok ((decide (a = a') && (decide (b = b') && true)) && ((decide (c = c') && (decide (d = d') && true)) && true)) := rfl
  rw [h]
  simp only [Bool.and_true]
theorem cmp_eq : cmpE .eq (.int i) (.int j) = .ok (decide (i = j)) := eq_int
theorem cmp_ne : cmpE .ne (.int i) (.int j) = .ok (!decide (i = j)) := by
  unfold cmpE
  simp only [eq_int, Oc.ok_bind]
theorem cmp_lt : cmpE .lt (.int i) (.int j) = .ok (decide (i < j)) := rfl
theorem cmp_le : cmpE .le (.int i) (.int j) = .ok (decide (i ≤ j)) := rfl
theorem cmp_gt : cmpE .gt (.int i) (.int j) = .ok (decide (j < i)) := rfl
theorem cmp_ge : cmpE .ge (.int i) (.int j) = .ok (decide (j ≤ i)) := rfl
theorem cmp_t2 {a b c d : Int} : cmpE .eq (.tup [.int a, .int b]) (.tup [.int c, .int d]) = .ok (decide (a = c) && decide (b = d)) := eq_t2
theorem cmp_n2 {a b c d : Int} : cmpE .ne (.tup [.int a, .int b]) (.tup [.int c, .int d]) = .ok (!(decide (a = c) && decide (b = d))) := by
  unfold cmpE
  simp only [eq_t2, Oc.ok_bind]
theorem cmp_tt2 {a b c d a' b' c' d' : Int} : cmpE .eq (.tup [.tup [.int a, .int b], .tup [.int c, .int d]]) (.tup [.tup [.int a', .int b'], .tup [.int c', .int d']]) = .ok (decide (a = a') && decide (b = b') && (decide (c = c') && decide (d = d'))) := eq_tt2
theorem cmp_nt2 {a b c d a' b' c' d' : Int} : cmpE .ne (.tup [.tup [.int a, .int b], .tup [.int c, .int d]]) (.tup [.tup [.int a', .int b'], .tup [.int c', .int d']]) = .ok (!(decide (a = a') && decide (b = b') && (decide (c = c') && decide (d = d')))) := by
  unfold cmpE
  simp only [eq_tt2, Oc.ok_bind]
end
theorem sizes_ok (c : Int) : ∃ m, ixE (.lst [.int 4, .int 6, .int 8, .int 10, .int 12]) (.int (c % 5)) = .ok (.int m) ∧ (m = 4 ∨ m = 6 ∨ m = 8 ∨ m = 10 ∨ m = 12) := by
  have h : c % 5 = 0 ∨ c % 5 = 1 ∨ c % 5 = 2 ∨ c % 5 = 3 ∨ c % 5 = 4 := by omega
  rcases h with h | h | h | h | h <;> rw [h] <;> exact ⟨_, rfl, by omega⟩
end PF
namespace PF
open PySem PySem.Spec PyProof.Rows L2 PySem.HandSPX
theorem isInsT {c : Nat} {fs : List Tr} : isIns c (.ins c fs) = true := by simp [isIns]
theorem fldE1 {c : Nat} {t : Tr} {fs : List Tr} : fldE c 0 (.ins c (t :: fs)) = .ok t := by simp [fldE]
theorem bltE1 {xs : List Tr} : bltE .len [.im (.lst xs)] = .ok (.im (.int (xs.length : Int))) := rfl
theorem bltE2 {xs : List Tr} : bltE .len [.im (.tup xs)] = .ok (.im (.int (xs.length : Int))) := rfl
theorem bltE3 {b : Bool} : bltE .int [.im (.bl b)] = .ok (.im (.int (if b then 1 else 0))) := rfl
theorem bltE4 {i : Int} : bltE .abs [.im (.int i)] = .ok (.im (.int (if i < 0 then -i else i))) := rfl
theorem bltE5 {i j : Int} : bltE .max2 [.im (.int i), .im (.int j)] = .ok (.im (.int (if j > i then j else i))) := rfl
theorem wf_ctx {Q : Pg} {k : Nat} : (Q.ctx k).wf = Q.wf := rfl
end PF
namespace PF
open PySem PySem.Spec PyProof.Rows L2 PySem.HandSPX
/-! ### the meaning, equation by equation: what goes on behind a part is a name, so that nothing is looked at ahead of its turn -/
section
variable {C : Ctx} {env : List Sl}
def kBin1 (C : Ctx) (o : Op) (b : Ex) (env : List Sl) (r : Oc Rs) : Oc Rs := r >>= fun x => ev C b env >>= fun y => opE o x y
def kBin2 (o : Op) (x : Rs) (r : Oc Rs) : Oc Rs := r >>= fun y => opE o x y
def kI (r : Oc Int) : Oc Rs := r >>= fun k => .ok (.im (.int k))
def kB (r : Oc Bool) : Oc Rs := r >>= fun k => .ok (.im (.bl k))
def kIm (r : Oc Tr) : Oc Rs := r >>= fun k => .ok (.im k)
def kFz (r : Oc Rs) : Oc Tr := r >>= Rs.fz
def kNot (r : Oc Rs) : Oc Rs := r >>= fun x => oBool x.see >>= fun b => .ok (.im (.bl (!b)))
def kNeg (r : Oc Rs) : Oc Rs := r >>= fun x => oInt x.see >>= fun i => .ok (.im (.int (-i)))
def kCmp1 (C : Ctx) (o : CO) (b : Ex) (env : List Sl) (r : Oc Rs) : Oc Rs := r >>= fun x => ev C b env >>= fun y => cmpE o x.see y.see >>= fun b => .ok (.im (.bl b))
def kCmp2 (o : CO) (t : Tr) (r : Oc Rs) : Oc Rs := r >>= fun y => cmpE o t y.see >>= fun b => .ok (.im (.bl b))
def kIsN (r : Oc Rs) : Oc Rs := r >>= fun x => .ok (.im (.bl (isNonT x.see)))
def kAnd (C : Ctx) (b : Ex) (env : List Sl) (r : Oc Rs) : Oc Rs := r >>= fun x => oBool x.see >>= fun k => if k then ev C b env else .ok (.im (.bl false))
def kOr (C : Ctx) (b : Ex) (env : List Sl) (r : Oc Rs) : Oc Rs := r >>= fun x => oBool x.see >>= fun k => if k then .ok (.im (.bl true)) else ev C b env
def kIte (C : Ctx) (a b : Ex) (env : List Sl) (r : Oc Rs) : Oc Rs := r >>= fun x => oBool x.see >>= fun k => if k then ev C a env else ev C b env
def kTup (r : Oc (List Tr)) : Oc Rs := r >>= fun ts => if sizeOk ts.length then .ok (.im (.tup ts)) else .no
def kTup2 (ts : List Tr) (b : Bool) : Oc Rs := if b then .ok (.im (.tup ts)) else .no
def kLst (r : Oc (List Tr)) : Oc Rs := r >>= fun ts => if sizeOk ts.length then .ok (.ow ts) else .no
def kLst2 (ts : List Tr) (b : Bool) : Oc Rs := if b then .ok (.ow ts) else .no
def kVs1 (C : Ctx) (es : List Ex) (env : List Sl) (r : Oc Tr) : Oc (List Tr) := r >>= fun t => evs C es env >>= fun ts => .ok (t :: ts)
def kVs2 (t : Tr) (r : Oc (List Tr)) : Oc (List Tr) := r >>= fun ts => .ok (t :: ts)
def kVb1 (C : Ctx) (es : List Ex) (env : List Sl) (r : Oc Rs) : Oc (List Rs) := r >>= fun t => evb C es env >>= fun ts => .ok (t :: ts)
def kVb2 (t : Rs) (r : Oc (List Rs)) : Oc (List Rs) := r >>= fun ts => .ok (t :: ts)
def kIx1 (C : Ctx) (b : Ex) (env : List Sl) (r : Oc Rs) : Oc Rs := r >>= fun x => ev C b env >>= fun y => ixE x.see y.see >>= fun t => .ok (.im t)
def kIx2 (t : Tr) (r : Oc Rs) : Oc Rs := r >>= fun y => ixE t y.see >>= fun t => .ok (.im t)
def kCall (C : Ctx) (f : Nat) (r : Oc (List Tr)) : Oc Rs := r >>= fun ts => C.call f ts
def kMe1 (C : Ctx) (f c : Nat) (es : List Ex) (env : List Sl) (r : Oc Tr) : Oc Rs := r >>= fun t => if isIns c t then evs C es env >>= fun ts => C.call f (t :: ts) else .no
def kMe2 (C : Ctx) (f : Nat) (t : Tr) (es : List Ex) (env : List Sl) (b : Bool) : Oc Rs := if b then evs C es env >>= fun ts => C.call f (t :: ts) else .no
def kMe3 (C : Ctx) (f : Nat) (t : Tr) (r : Oc (List Tr)) : Oc Rs := r >>= fun ts => C.call f (t :: ts)
def kFld (c j : Nat) (r : Oc Rs) : Oc Rs := r >>= fun x => fldE c j x.see >>= fun t => .ok (.im t)
def kBlt (b : Bl) (r : Oc (List Rs)) : Oc Rs := r >>= fun ts => bltE b ts
def kIsi (t : Ty) (r : Oc Rs) : Oc Rs := r >>= fun x => isiE t x.see >>= fun b => .ok (.im (.bl b))
def kIt (r : Oc Tr) : Oc (List Tr) := r >>= itemsOf
def kRg (r : Oc Rs) : Oc (List Tr) := r >>= fun x => oInt x.see >>= fun n => if smallI n then .ok (rangeT 0 n) else .no
def kRg2 (n : Int) (b : Bool) : Oc (List Tr) := if b then .ok (rangeT 0 n) else .no
def kNx (r : Oc (List Sl)) : Oc Fl := r >>= fun e => .ok (.nx e)
def kAsg (tg : Tg) (env : List Sl) (r : Oc Rs) : Oc Fl := r >>= fun r => asgR tg r env >>= fun env' => .ok (.nx env')
def kPar (i j : Nat) (env : List Sl) (r : Oc (List Tr)) : Oc Fl := r >>= fun ts => bindTp [i, j] ts env >>= fun env' => .ok (.nx env')
def kRet (r : Oc Rs) : Oc Fl := r >>= fun r => .ok (.rt r.out)
def kIff (C : Ctx) (a b : List Sm) (env : List Sl) (r : Oc Rs) : Oc Fl := r >>= fun x => oBool x.see >>= fun k => if k then execs C a env else execs C b env
def kCont (C : Ctx) (ss : List Sm) (r : Oc Fl) : Oc Fl := r >>= contE C ss
def kEnd (r : Oc Fl) : Oc Rs := r >>= retK
def forK (C : Ctx) (tg : Tg) (b : List Sm) (xs : List Tr) (env : List Sl) : Oc Fl := forGo (fun x e => bindTg tg x e >>= fun e' => execs C b e') xs env
def kFor (C : Ctx) (tg : Tg) (b : List Sm) (env : List Sl) (r : Oc (List Tr)) : Oc Fl := r >>= fun xs => forGo (fun x e => bindTg tg x e >>= fun e' => execs C b e') xs env
def kF1 (C : Ctx) (tg : Tg) (b : List Sm) (xs : List Tr) (r : Oc Fl) : Oc Fl := r >>= fun
    | .nx e => forK C tg b xs e
    | .ct e => forK C tg b xs e
    | .bk e => .ok (.nx e)
    | .rt r => .ok (.rt r)
def kBd (C : Ctx) (b : List Sm) (r : Oc (List Sl)) : Oc Fl := r >>= fun e' => execs C b e'
def kBt (is : List Nat) (ts : List Tr) (r : Oc (List Sl)) : Oc (List Sl) := r >>= fun e => bindTp is ts e
theorem q_lo {i : Nat} : ev C (.lo i) env = slotR env[i]? := id rfl
theorem q_s1 {t : Tr} : slotR (some (.im t)) = .ok (.im t) := id rfl
theorem q_s2 {t : List Tr} : slotR (some (.ow t)) = .ok (.br t) := id rfl
theorem q_non : ev C .non env = .ok (.im .non) := id rfl
theorem q_bl {b : Bool} : ev C (.bl b) env = .ok (.im (.bl b)) := id rfl
theorem q_int {i : Int} : ev C (.int i) env = .ok (.im (.int i)) := id rfl
theorem q_str {x : Str} : ev C (.str x) env = .ok (.im (.str x)) := id rfl
theorem q_gl {g : Nat} : ev C (.gl g) env = .ok (.im (C.gl g)) := id rfl
theorem q_bin {o : Op} {a b : Ex} : ev C (.bin o a b) env = kBin1 C o b env (ev C a env) := id rfl
theorem q_bin1 {o : Op} {b : Ex} {x : Rs} : kBin1 C o b env (.ok x) = kBin2 o x (ev C b env) := id rfl
theorem q_bin2 {o : Op} {x y : Rs} : kBin2 o x (.ok y) = opE o x y := id rfl
theorem q_kI {i : Int} : kI (.ok i) = .ok (.im (.int i)) := id rfl
theorem q_kB {i : Bool} : kB (.ok i) = .ok (.im (.bl i)) := id rfl
theorem q_kIm {i : Tr} : kIm (.ok i) = .ok (.im i) := id rfl
theorem q_kFz {r : Rs} : kFz (.ok r) = r.fz := id rfl
theorem q_neg {a : Ex} : ev C (.neg a) env = kNeg (ev C a env) := id rfl
theorem q_neg1 {i : Int} : kNeg (.ok (.im (.int i))) = .ok (.im (.int (-i))) := id rfl
theorem q_not {a : Ex} : ev C (.not a) env = kNot (ev C a env) := id rfl
theorem q_not1 {b : Bool} : kNot (.ok (.im (.bl b))) = .ok (.im (.bl (!b))) := id rfl
theorem q_cmp {o : CO} {a b : Ex} : ev C (.cmp o a b) env = kCmp1 C o b env (ev C a env) := id rfl
theorem q_cmp1 {o : CO} {b : Ex} {x : Rs} : kCmp1 C o b env (.ok x) = kCmp2 o x.see (ev C b env) := id rfl
theorem q_cmp2 {o : CO} {t : Tr} {y : Rs} : kCmp2 o t (.ok y) = kB (cmpE o t y.see) := id rfl
theorem q_isN {a : Ex} : ev C (.isN a) env = kIsN (ev C a env) := id rfl
theorem q_isN1 {x : Rs} : kIsN (.ok x) = .ok (.im (.bl (isNonT x.see))) := id rfl
theorem q_and {a b : Ex} : ev C (.and a b) env = kAnd C b env (ev C a env) := id rfl
theorem q_and1 {b : Ex} : kAnd C b env (.ok (.im (.bl true))) = ev C b env := id rfl
theorem q_and2 {b : Ex} : kAnd C b env (.ok (.im (.bl false))) = .ok (.im (.bl false)) := id rfl
theorem q_or {a b : Ex} : ev C (.or a b) env = kOr C b env (ev C a env) := id rfl
theorem q_or1 {b : Ex} : kOr C b env (.ok (.im (.bl true))) = .ok (.im (.bl true)) := id rfl
theorem q_or2 {b : Ex} : kOr C b env (.ok (.im (.bl false))) = ev C b env := id rfl
theorem q_ite {c a b : Ex} : ev C (.ite c a b) env = kIte C a b env (ev C c env) := id rfl
theorem q_ite1 {a b : Ex} : kIte C a b env (.ok (.im (.bl true))) = ev C a env := id rfl
theorem q_ite2 {a b : Ex} : kIte C a b env (.ok (.im (.bl false))) = ev C b env := id rfl
theorem q_tup {es : List Ex} : ev C (.tup es) env = kTup (evs C es env) := id rfl
theorem q_tup1 {ts : List Tr} : kTup (.ok ts) = kTup2 ts (sizeOk ts.length) := id rfl
theorem q_tup2 {ts : List Tr} : kTup2 ts true = .ok (.im (.tup ts)) := id rfl
theorem q_lst {es : List Ex} : ev C (.lst es) env = kLst (evs C es env) := id rfl
theorem q_lst1 {ts : List Tr} : kLst (.ok ts) = kLst2 ts (sizeOk ts.length) := id rfl
theorem q_lst2 {ts : List Tr} : kLst2 ts true = .ok (.ow ts) := id rfl
theorem q_ix {a b : Ex} : ev C (.ix a b) env = kIx1 C b env (ev C a env) := id rfl
theorem q_ix1 {b : Ex} {x : Rs} : kIx1 C b env (.ok x) = kIx2 x.see (ev C b env) := id rfl
theorem q_ix2 {t : Tr} {y : Rs} : kIx2 t (.ok y) = kIm (ixE t y.see) := id rfl
theorem q_call {f : Nat} {es : List Ex} : ev C (.call f es) env = kCall C f (evs C es env) := id rfl
theorem q_call1 {f : Nat} {ts : List Tr} : kCall C f (.ok ts) = C.call f ts := id rfl
theorem q_meth {f c : Nat} {o : Ex} {es : List Ex} : ev C (.meth f c o es) env = kMe1 C f c es env (kFz (ev C o env)) := id rfl
theorem q_meth1 {f c : Nat} {t : Tr} {es : List Ex} : kMe1 C f c es env (.ok t) = kMe2 C f t es env (isIns c t) := id rfl
theorem q_meth2 {f : Nat} {t : Tr} {es : List Ex} : kMe2 C f t es env true = kMe3 C f t (evs C es env) := id rfl
theorem q_meth3 {f : Nat} {t : Tr} {ts : List Tr} : kMe3 C f t (.ok ts) = C.call f (t :: ts) := id rfl
theorem q_fld {c j : Nat} {o : Ex} : ev C (.fld c j o) env = kFld c j (ev C o env) := id rfl
theorem q_fld1 {c j : Nat} {x : Rs} : kFld c j (.ok x) = kIm (fldE c j x.see) := id rfl
theorem q_blt {b : Bl} {es : List Ex} : ev C (.blt b es) env = kBlt b (evb C es env) := id rfl
theorem q_blt1 {b : Bl} {rs : List Rs} : kBlt b (.ok rs) = bltE b rs := id rfl
theorem q_isi {a : Ex} {t : Ty} : ev C (.isi a t) env = kIsi t (ev C a env) := id rfl
theorem q_isi0 {x : Rs} {t : Ty} : kIsi t (.ok x) = kB (isiE t x.see) := id rfl
theorem q_vs0 : evs C [] env = .ok [] := id rfl
theorem q_vs1 {e : Ex} {es : List Ex} : evs C (e :: es) env = kVs1 C es env (kFz (ev C e env)) := id rfl
theorem q_vs2 {t : Tr} {es : List Ex} : kVs1 C es env (.ok t) = kVs2 t (evs C es env) := id rfl
theorem q_vs3 {t : Tr} {ts : List Tr} : kVs2 t (.ok ts) = .ok (t :: ts) := id rfl
theorem q_vb0 : evb C [] env = .ok [] := id rfl
theorem q_vb1 {e : Ex} {es : List Ex} : evb C (e :: es) env = kVb1 C es env (ev C e env) := id rfl
theorem q_vb2 {t : Rs} {es : List Ex} : kVb1 C es env (.ok t) = kVb2 t (evb C es env) := id rfl
theorem q_vb3 {t : Rs} {ts : List Rs} : kVb2 t (.ok ts) = .ok (t :: ts) := id rfl
theorem q_itE {e : Ex} : evIt C (.ex e) env = kIt (kFz (ev C e env)) := id rfl
theorem q_itE1 {t : Tr} : kIt (.ok t) = itemsOf t := id rfl
theorem q_it1 {a : Ex} : evIt C (.rng1 a) env = kRg (ev C a env) := id rfl
theorem q_it2 {i : Int} : kRg (.ok (.im (.int i))) = kRg2 i (smallI i) := id rfl
theorem q_it3 {i : Int} : kRg2 i true = .ok (rangeT 0 i) := id rfl
theorem q_asg {tg : Tg} {e : Ex} : exec C (.asg tg e) env = kAsg tg env (ev C e env) := id rfl
theorem q_asg0 {tg : Tg} {r : Rs} : kAsg tg env (.ok r) = kNx (asgR tg r env) := id rfl
theorem q_nx : kNx (.ok env) = .ok (.nx env) := id rfl
theorem q_par {i j : Nat} {a b : Ex} : exec C (.par i j a b) env = kPar i j env (evs C [a, b] env) := id rfl
theorem q_par1 {i j : Nat} {ts : List Tr} : kPar i j env (.ok ts) = kNx (bindTp [i, j] ts env) := id rfl
theorem q_ret {e : Ex} : exec C (.ret e) env = kRet (ev C e env) := id rfl
theorem q_ret1 {r : Rs} : kRet (.ok r) = .ok (.rt r.out) := id rfl
theorem q_retN : exec C .retN env = .ok (.rt (.im .non)) := id rfl
theorem q_iff {c : Ex} {a b : List Sm} : exec C (.iff c a b) env = kIff C a b env (ev C c env) := id rfl
theorem q_iff1 {a b : List Sm} : kIff C a b env (.ok (.im (.bl true))) = execs C a env := id rfl
theorem q_iff2 {a b : List Sm} : kIff C a b env (.ok (.im (.bl false))) = execs C b env := id rfl
theorem q_for {tg : Tg} {it : Ii} {b : List Sm} : exec C (.for_ tg it b) env = kFor C tg b env (evIt C it env) := id rfl
theorem q_for1 {tg : Tg} {xs : List Tr} {b : List Sm} : kFor C tg b env (.ok xs) = forK C tg b xs env := id rfl
theorem q_fg0 {tg : Tg} {b : List Sm} : forK C tg b [] env = .ok (.nx env) := id rfl
theorem q_fg1 {tg : Tg} {b : List Sm} {x : Tr} {xs : List Tr} : forK C tg b (x :: xs) env = kF1 C tg b xs (kBd C b (bindTg tg x env)) := id rfl
theorem q_fb {b : List Sm} : kBd C b (.ok env) = execs C b env := id rfl
theorem q_f1 {tg : Tg} {b : List Sm} {xs : List Tr} : kF1 C tg b xs (.ok (.nx env)) = forK C tg b xs env := id rfl
theorem q_f2 {tg : Tg} {b : List Sm} {xs : List Tr} {r : Rs} : kF1 C tg b xs (.ok (.rt r)) = .ok (.rt r) := id rfl
theorem q_rse {c : Nat} : exec C (.rse c) env = .ex c := id rfl
theorem q_es0 : execs C [] env = .ok (.nx env) := id rfl
theorem q_es1 {s : Sm} {ss : List Sm} : execs C (s :: ss) env = kCont C ss (exec C s env) := id rfl
theorem q_cn {ss : List Sm} {e : List Sl} : kCont C ss (.ok (.nx e)) = execs C ss e := id rfl
theorem q_cr {ss : List Sm} {r : Rs} : kCont C ss (.ok (.rt r)) = .ok (.rt r) := id rfl
theorem q_rk1 {r : Rs} : kEnd (.ok (.rt r)) = .ok r.out := id rfl
theorem q_rk2 {e : List Sl} : kEnd (.ok (.nx e)) = .ok (.im .non) := id rfl
theorem q_see1 {t : Tr} : (Rs.im t).see = t := id rfl
theorem q_see2 {t : List Tr} : (Rs.ow t).see = .lst t := id rfl
theorem q_see3 {t : List Tr} : (Rs.br t).see = .lst t := id rfl
theorem q_fz1 {t : Tr} : (Rs.im t).fz = .ok t := id rfl
theorem q_fz2 {t : List Tr} : (Rs.ow t).fz = .ok (.lst t) := id rfl
theorem q_out1 {t : Tr} : (Rs.im t).out = .im t := id rfl
theorem q_out2 {t : List Tr} : (Rs.ow t).out = .ow t := id rfl
theorem q_out3 {t : List Tr} : (Rs.br t).out = .ow t := id rfl
theorem q_op {o : Op} {i j : Int} : opE o (.im (.int i)) (.im (.int j)) = kI (opI o i j) := id rfl
theorem q_add {i j : Int} : opI .add i j = .ok (i + j) := id rfl
theorem q_sub {i j : Int} : opI .sub i j = .ok (i - j) := id rfl
theorem q_isi1 {i : Int} : isiE .int (.int i) = .ok true := id rfl
theorem q_isi2 {i : Int} : isiE .bool (.int i) = .ok false := id rfl
theorem q_isi3 {xs : List Tr} : isiE .tuple (.tup xs) = .ok true := id rfl
theorem q_isi4 {i : Bool} : isiE .bool (.bl i) = .ok true := id rfl
theorem q_isi5 {i : Bool} : isiE .int (.bl i) = .ok true := id rfl
theorem q_asg1 {i : Nat} {r : Rs} : asgR (.nm i) r env = putR i r env := id rfl
theorem q_asg2 {i j : Nat} {t u : Tr} : asgR (.tp [i, j]) (.im (.tup [t, u])) env = bindTp [i, j] [t, u] env := id rfl
theorem q_put1 {i : Nat} {t : Tr} (h : i < env.length) : putR i (.im t) env = .ok (env.set i (.im t)) := if_pos (decide_eq_true h)
theorem q_put2 {i : Nat} {t : List Tr} (h : i < env.length) : putR i (.ow t) env = .ok (env.set i (.ow t)) := if_pos (decide_eq_true h)
theorem q_bnm {i : Nat} {t : Tr} (h : i < env.length) : bindNm env i t = .ok (env.set i (.im t)) := if_pos (decide_eq_true h)
theorem q_bt0 : bindTp [] [] env = .ok env := id rfl
theorem q_bt1 {i : Nat} {is : List Nat} {t : Tr} {ts : List Tr} : bindTp (i :: is) (t :: ts) env = kBt is ts (bindNm env i t) := id rfl
theorem q_bt2 {is : List Nat} {ts : List Tr} : kBt is ts (.ok env) = bindTp is ts env := id rfl
theorem q_tg1 {i : Nat} {t : Tr} : bindTg (.nm i) t env = bindNm env i t := id rfl
theorem q_tg2 {i j : Nat} {t u : Tr} : bindTg (.tp [i, j]) (.tup [t, u]) env = bindTp [i, j] [t, u] env := id rfl
theorem q_its1 {xs : List Tr} : itemsOf (.tup xs) = .ok xs := id rfl
theorem q_its2 {xs : List Tr} : itemsOf (.lst xs) = .ok xs := id rfl
theorem q_len1 {xs : List Tr} : bltE .len [.im (.lst xs)] = .ok (.im (.int (xs.length : Int))) := id rfl
theorem q_len2 {xs : List Tr} : bltE .len [.im (.tup xs)] = .ok (.im (.int (xs.length : Int))) := id rfl
theorem q_bint {b : Bool} : bltE .int [.im (.bl b)] = .ok (.im (.int (if b then 1 else 0))) := id rfl
theorem q_abs {i : Int} : bltE .abs [.im (.int i)] = .ok (.im (.int (if i < 0 then -i else i))) := id rfl
theorem q_max {i j : Int} : bltE .max2 [.im (.int i), .im (.int j)] = .ok (.im (.int (if j > i then j else i))) := id rfl
theorem q_fld0 {c : Nat} {t : Tr} {fs : List Tr} : fldE c 0 (.ins c (t :: fs)) = .ok t := fldE1
theorem q_ctx {Q : Pg} {k i : Nat} {ts : List Tr} : (Q.ctx k).call i ts = callK Q k i ts := id rfl
theorem q_cgl {Q : Pg} {k g : Nat} : (Q.ctx k).gl g = Q.gl g := id rfl
theorem q_cwf {Q : Pg} {k : Nat} : (Q.ctx k).wf = Q.wf := id rfl
theorem q_size {n : Nat} (h : n ≤ 16777216) : sizeOk n = true := decide_eq_true h
theorem q_ixt {xs : List Tr} {i : Int} {x : Tr} (h : atI xs i = some x) : ixE (.tup xs) (.int i) = .ok x := ixT_of h
end
end PF
namespace PF
theorem lt_len {i : Nat} {env : List Sl} (h : Nat.blt i env.length = true) : i < env.length := by
  rw [Nat.blt_eq] at h
  exact h
end PF
namespace PF
theorem call_f {Q : Pg} {i : Nat} {f : Fn} (h : Q.defs i = some (.fn f)) (k : Nat) (ts : List Tr) (hl : ts.length = f.np) : callK Q (k + 1) i ts = kEnd (execs (Q.ctx k) f.body (ts.map Sl.im ++ List.replicate (f.ns - f.np) Sl.un)) := call_fn h k ts hl
end PF

namespace PF
open PySem PySem.Spec PyProof.Rows L2 PySem.HandSPX
open Builtin.Int (intBits)
def cellB (a b c d : Int) : List Sm := [.iff (.cmp .lt (.lo 1) (.blt .len [.lo 0])) [.ret (.ix (.lo 0) (.lo 1))] [], .iff (.cmp .eq (.blt .len [.lo 0]) (.int 0)) [.ret (.bin .add (.bin .mul (.bin .mul (.lo 1) (.lo 1)) (.int a)) (.int b))] [], .ret (.bin .add (.bin .mul (.bin .mod (.ix (.lo 0) (.bin .mod (.bin .mul (.lo 1) (.int 3)) (.blt .len [.lo 0]))) (.int 2147483629)) (.int c)) (.bin .mul (.bin .mul (.lo 1) (.lo 1)) (.int d)))]
theorem atI_of {xs : List Tr} {i : Int} {x : Tr} (h0 : 0 ≤ i) (h : xs[i.toNat]? = some x) : atI xs i = some x := by
  have hl : i.toNat < xs.length := by
    rcases Nat.lt_or_ge i.toNat xs.length with z | z
    · exact z
    · rw [List.getElem?_eq_none z] at h; cases h
  unfold atI ixN
  rw [if_pos h0, if_pos (by omega)]
  exact h
theorem at_ints {ns : List Int} {i : Int} (h0 : 0 ≤ i) (h : i < ns.length) : ∃ z ∈ ns, atI (ns.map Tr.int) i = some (.int z) := by
  have hl : i.toNat < ns.length := by omega
  refine ⟨ns[i.toNat], List.getElem_mem hl, atI_of h0 ?_⟩
  rw [List.getElem?_map, List.getElem?_eq_getElem hl]
  rfl
theorem cell_gen {Q : Pg} {f : Nat} {a b c d : Int} (hf : Q.defs f = some (.fn ⟨2, 2, cellB a b c d⟩)) (ha : intBits a ≤ 64) (hB : intBits b ≤ 64) (hc : intBits c ≤ 64) (hd : intBits d ≤ 64) {ns : List Int} (hb : ∀ z ∈ ns, intBits z ≤ 1048576) (j : Int) (h0 : 0 ≤ j) (h1 : intBits j ≤ 64) :
    ∃ z, (∀ k, callK Q (k + 1) f [.lst (ns.map Tr.int), .int j] = .ok (.im (.int z))) ∧ intBits z ≤ 1048600 := by
  have hm1 : intBits (2147483629 : Int) ≤ 64 := by decide
  have hm2 : intBits (3 : Int) ≤ 64 := by decide
  by_cases h : j < ns.length
  · obtain ⟨z, hz, e⟩ := at_ints h0 h
    refine ⟨z, fun k => ?_, Nat.le_trans (hb z hz) (by decide)⟩
    rw [call_f hf k _ rfl]
    simp -implicitDefEqProofs (maxSteps := 400000) (disch := (first | with_reducible assumption | (with_reducible apply PF.mulOk_of <;> (repeat' (first | with_reducible assumption | with_reducible (apply PyProof.Rows.bits_add) | with_reducible (apply PyProof.Rows.bits_sub) | with_reducible (apply PyProof.Rows.bits_mul) | with_reducible (apply PyProof.Rows.bits_neg) | with_reducible (apply PF.bits_div (by first | omega | decide +kernel)) | with_reducible (apply PF.bits_mod (by first | omega | decide +kernel)) | (with_reducible show _ + _ ≤ 134217728; decide +kernel) | exact Nat.le_refl _))) | ((with_reducible apply PF.lt_len); with_unfolding_all rfl) | omega | decide +kernel)) only [PF.opI_mul, PF.opI_mod, PF.opI_fdiv, PF.ixT0, PF.ixT1, PF.cmp_eq, PF.cmp_ne, PF.cmp_lt, PF.cmp_le, PF.cmp_gt, PF.cmp_ge, PF.cmp_t2, PF.cmp_n2, PF.cmp_tt2, PF.cmp_nt2, PF.isInsT, PF.q_lo, PF.q_s1, PF.q_s2, PF.q_non, PF.q_bl, PF.q_int, PF.q_str, PF.q_gl, PF.q_bin, PF.q_bin1, PF.q_bin2, PF.q_kI, PF.q_kB, PF.q_kIm, PF.q_kFz, PF.q_neg, PF.q_neg1, PF.q_not, PF.q_not1, PF.q_cmp, PF.q_cmp1, PF.q_cmp2, PF.q_isN, PF.q_isN1, PF.q_and, PF.q_and1, PF.q_and2, PF.q_or, PF.q_or1, PF.q_or2, PF.q_ite, PF.q_ite1, PF.q_ite2, PF.q_tup, PF.q_tup1, PF.q_tup2, PF.q_lst, PF.q_lst1, PF.q_lst2, PF.q_ix, PF.q_ix1, PF.q_ix2, PF.q_call, PF.q_call1, PF.q_meth, PF.q_meth1, PF.q_meth2, PF.q_meth3, PF.q_fld, PF.q_fld1, PF.q_blt, PF.q_blt1, PF.q_isi, PF.q_isi0, PF.q_vs0, PF.q_vs1, PF.q_vs2, PF.q_vs3, PF.q_vb0, PF.q_vb1, PF.q_vb2, PF.q_vb3, PF.q_itE, PF.q_itE1, PF.q_it1, PF.q_it2, PF.q_it3, PF.q_asg, PF.q_asg0, PF.q_nx, PF.q_par, PF.q_par1, PF.q_ret, PF.q_ret1, PF.q_retN, PF.q_iff, PF.q_iff1, PF.q_iff2, PF.q_for, PF.q_for1, PF.q_fg0, PF.q_fg1, PF.q_fb, PF.q_f1, PF.q_f2, PF.q_rse, PF.q_es0, PF.q_es1, PF.q_cn, PF.q_cr, PF.q_rk1, PF.q_rk2, PF.q_see1, PF.q_see2, PF.q_see3, PF.q_fz1, PF.q_fz2, PF.q_out1, PF.q_out2, PF.q_out3, PF.q_op, PF.q_add, PF.q_sub, PF.q_isi1, PF.q_isi2, PF.q_isi3, PF.q_isi4, PF.q_isi5, PF.q_asg1, PF.q_asg2, PF.q_put1, PF.q_put2, PF.q_bnm, PF.q_bt0, PF.q_bt1, PF.q_bt2, PF.q_tg1, PF.q_tg2, PF.q_its1, PF.q_its2, PF.q_len1, PF.q_len2, PF.q_bint, PF.q_abs, PF.q_max, PF.q_fld0, PF.q_ctx, PF.q_cgl, PF.q_cwf, PF.q_size, List.map_cons, List.map_nil, Nat.reduceSub, Nat.sub_self, List.replicate, List.append_nil, List.cons_append, List.nil_append, List.length_cons, List.length_nil, List.getElem?_cons_zero, List.getElem?_cons_succ, List.set_cons_zero, List.set_cons_succ, Nat.reduceAdd, Nat.reduceLT, Nat.reduceLeDiff, Int.cast_ofNat_Int, Int.reduceEq, Int.reduceLT, Int.reduceLE, decide_true, decide_false, if_true, Bool.false_eq_true, if_false, Bool.not_true, Bool.not_false, Bool.and_true, Bool.true_and, Bool.or_true, Bool.or_false, Bool.and_self, ite_true, ite_false, cellB, List.length_map, h, ixL_of e]
  · by_cases hz : ns.length = 0
    · refine ⟨j * j * a + b, fun k => ?_, ?_⟩
      · rw [call_f hf k _ rfl]
        have hz' : ((ns.length : Nat) : Int) = 0 := by omega
        have h' : ¬ j < 0 := by omega
        simp -implicitDefEqProofs (maxSteps := 400000) (disch := (first | with_reducible assumption | (with_reducible apply PF.mulOk_of <;> (repeat' (first | with_reducible assumption | with_reducible (apply PyProof.Rows.bits_add) | with_reducible (apply PyProof.Rows.bits_sub) | with_reducible (apply PyProof.Rows.bits_mul) | with_reducible (apply PyProof.Rows.bits_neg) | with_reducible (apply PF.bits_div (by first | omega | decide +kernel)) | with_reducible (apply PF.bits_mod (by first | omega | decide +kernel)) | (with_reducible show _ + _ ≤ 134217728; decide +kernel) | exact Nat.le_refl _))) | ((with_reducible apply PF.lt_len); with_unfolding_all rfl) | omega | decide +kernel)) only [PF.opI_mul, PF.opI_mod, PF.opI_fdiv, PF.ixT0, PF.ixT1, PF.cmp_eq, PF.cmp_ne, PF.cmp_lt, PF.cmp_le, PF.cmp_gt, PF.cmp_ge, PF.cmp_t2, PF.cmp_n2, PF.cmp_tt2, PF.cmp_nt2, PF.isInsT, PF.q_lo, PF.q_s1, PF.q_s2, PF.q_non, PF.q_bl, PF.q_int, PF.q_str, PF.q_gl, PF.q_bin, PF.q_bin1, PF.q_bin2, PF.q_kI, PF.q_kB, PF.q_kIm, PF.q_kFz, PF.q_neg, PF.q_neg1, PF.q_not, PF.q_not1, PF.q_cmp, PF.q_cmp1, PF.q_cmp2, PF.q_isN, PF.q_isN1, PF.q_and, PF.q_and1, PF.q_and2, PF.q_or, PF.q_or1, PF.q_or2, PF.q_ite, PF.q_ite1, PF.q_ite2, PF.q_tup, PF.q_tup1, PF.q_tup2, PF.q_lst, PF.q_lst1, PF.q_lst2, PF.q_ix, PF.q_ix1, PF.q_ix2, PF.q_call, PF.q_call1, PF.q_meth, PF.q_meth1, PF.q_meth2, PF.q_meth3, PF.q_fld, PF.q_fld1, PF.q_blt, PF.q_blt1, PF.q_isi, PF.q_isi0, PF.q_vs0, PF.q_vs1, PF.q_vs2, PF.q_vs3, PF.q_vb0, PF.q_vb1, PF.q_vb2, PF.q_vb3, PF.q_itE, PF.q_itE1, PF.q_it1, PF.q_it2, PF.q_it3, PF.q_asg, PF.q_asg0, PF.q_nx, PF.q_par, PF.q_par1, PF.q_ret, PF.q_ret1, PF.q_retN, PF.q_iff, PF.q_iff1, PF.q_iff2, PF.q_for, PF.q_for1, PF.q_fg0, PF.q_fg1, PF.q_fb, PF.q_f1, PF.q_f2, PF.q_rse, PF.q_es0, PF.q_es1, PF.q_cn, PF.q_cr, PF.q_rk1, PF.q_rk2, PF.q_see1, PF.q_see2, PF.q_see3, PF.q_fz1, PF.q_fz2, PF.q_out1, PF.q_out2, PF.q_out3, PF.q_op, PF.q_add, PF.q_sub, PF.q_isi1, PF.q_isi2, PF.q_isi3, PF.q_isi4, PF.q_isi5, PF.q_asg1, PF.q_asg2, PF.q_put1, PF.q_put2, PF.q_bnm, PF.q_bt0, PF.q_bt1, PF.q_bt2, PF.q_tg1, PF.q_tg2, PF.q_its1, PF.q_its2, PF.q_len1, PF.q_len2, PF.q_bint, PF.q_abs, PF.q_max, PF.q_fld0, PF.q_ctx, PF.q_cgl, PF.q_cwf, PF.q_size, List.map_cons, List.map_nil, Nat.reduceSub, Nat.sub_self, List.replicate, List.append_nil, List.cons_append, List.nil_append, List.length_cons, List.length_nil, List.getElem?_cons_zero, List.getElem?_cons_succ, List.set_cons_zero, List.set_cons_succ, Nat.reduceAdd, Nat.reduceLT, Nat.reduceLeDiff, Int.cast_ofNat_Int, Int.reduceEq, Int.reduceLT, Int.reduceLE, decide_true, decide_false, if_true, Bool.false_eq_true, if_false, Bool.not_true, Bool.not_false, Bool.and_true, Bool.true_and, Bool.or_true, Bool.or_false, Bool.and_self, ite_true, ite_false, cellB, List.length_map, h', hz']
      · exact bits_of_le (bits_add (bits_mul (bits_mul h1 h1) ha) hB) (by decide)
    · have hp : (0 : Int) < ns.length := by omega
      obtain ⟨z, hz2, e⟩ := at_ints (ns := ns) (i := j * 3 % ns.length) (Int.emod_nonneg _ (by omega)) (Int.emod_lt_of_pos _ hp)
      have hz' : ¬ ((ns.length : Nat) : Int) = 0 := by omega
      have hz3 := hb z hz2
      refine ⟨z % 2147483629 * c + j * j * d, fun k => ?_, ?_⟩
      · rw [call_f hf k _ rfl]
        simp -implicitDefEqProofs (maxSteps := 400000) (disch := (first | with_reducible assumption | (with_reducible apply PF.mulOk_of <;> (repeat' (first | with_reducible assumption | with_reducible (apply PyProof.Rows.bits_add) | with_reducible (apply PyProof.Rows.bits_sub) | with_reducible (apply PyProof.Rows.bits_mul) | with_reducible (apply PyProof.Rows.bits_neg) | with_reducible (apply PF.bits_div (by first | omega | decide +kernel)) | with_reducible (apply PF.bits_mod (by first | omega | decide +kernel)) | (with_reducible show _ + _ ≤ 134217728; decide +kernel) | exact Nat.le_refl _))) | ((with_reducible apply PF.lt_len); with_unfolding_all rfl) | omega | decide +kernel)) only [PF.opI_mul, PF.opI_mod, PF.opI_fdiv, PF.ixT0, PF.ixT1, PF.cmp_eq, PF.cmp_ne, PF.cmp_lt, PF.cmp_le, PF.cmp_gt, PF.cmp_ge, PF.cmp_t2, PF.cmp_n2, PF.cmp_tt2, PF.cmp_nt2, PF.isInsT, PF.q_lo, PF.q_s1, PF.q_s2, PF.q_non, PF.q_bl, PF.q_int, PF.q_str, PF.q_gl, PF.q_bin, PF.q_bin1, PF.q_bin2, PF.q_kI, PF.q_kB, PF.q_kIm, PF.q_kFz, PF.q_neg, PF.q_neg1, PF.q_not, PF.q_not1, PF.q_cmp, PF.q_cmp1, PF.q_cmp2, PF.q_isN, PF.q_isN1, PF.q_and, PF.q_and1, PF.q_and2, PF.q_or, PF.q_or1, PF.q_or2, PF.q_ite, PF.q_ite1, PF.q_ite2, PF.q_tup, PF.q_tup1, PF.q_tup2, PF.q_lst, PF.q_lst1, PF.q_lst2, PF.q_ix, PF.q_ix1, PF.q_ix2, PF.q_call, PF.q_call1, PF.q_meth, PF.q_meth1, PF.q_meth2, PF.q_meth3, PF.q_fld, PF.q_fld1, PF.q_blt, PF.q_blt1, PF.q_isi, PF.q_isi0, PF.q_vs0, PF.q_vs1, PF.q_vs2, PF.q_vs3, PF.q_vb0, PF.q_vb1, PF.q_vb2, PF.q_vb3, PF.q_itE, PF.q_itE1, PF.q_it1, PF.q_it2, PF.q_it3, PF.q_asg, PF.q_asg0, PF.q_nx, PF.q_par, PF.q_par1, PF.q_ret, PF.q_ret1, PF.q_retN, PF.q_iff, PF.q_iff1, PF.q_iff2, PF.q_for, PF.q_for1, PF.q_fg0, PF.q_fg1, PF.q_fb, PF.q_f1, PF.q_f2, PF.q_rse, PF.q_es0, PF.q_es1, PF.q_cn, PF.q_cr, PF.q_rk1, PF.q_rk2, PF.q_see1, PF.q_see2, PF.q_see3, PF.q_fz1, PF.q_fz2, PF.q_out1, PF.q_out2, PF.q_out3, PF.q_op, PF.q_add, PF.q_sub, PF.q_isi1, PF.q_isi2, PF.q_isi3, PF.q_isi4, PF.q_isi5, PF.q_asg1, PF.q_asg2, PF.q_put1, PF.q_put2, PF.q_bnm, PF.q_bt0, PF.q_bt1, PF.q_bt2, PF.q_tg1, PF.q_tg2, PF.q_its1, PF.q_its2, PF.q_len1, PF.q_len2, PF.q_bint, PF.q_abs, PF.q_max, PF.q_fld0, PF.q_ctx, PF.q_cgl, PF.q_cwf, PF.q_size, List.map_cons, List.map_nil, Nat.reduceSub, Nat.sub_self, List.replicate, List.append_nil, List.cons_append, List.nil_append, List.length_cons, List.length_nil, List.getElem?_cons_zero, List.getElem?_cons_succ, List.set_cons_zero, List.set_cons_succ, Nat.reduceAdd, Nat.reduceLT, Nat.reduceLeDiff, Int.cast_ofNat_Int, Int.reduceEq, Int.reduceLT, Int.reduceLE, decide_true, decide_false, if_true, Bool.false_eq_true, if_false, Bool.not_true, Bool.not_false, Bool.and_true, Bool.true_and, Bool.or_true, Bool.or_false, Bool.and_self, ite_true, ite_false, cellB, List.length_map, h, hz', ixL_of e]
      · exact bits_of_le (bits_add (bits_mul (bits_mod (by decide) hm1) hc) (bits_mul (bits_mul h1 h1) hd)) (by decide)
end PF

namespace PF
open PySem PySem.Spec PyProof.Rows L2 PySem.HandSPX
open Builtin.Int (intBits)
/-! ### numbers of a frame, in plain Lean -/
def wA (m : Int) : Int := if m = 6 then 1 else if m = 8 then 2 else if m = 10 then 1 else if m = 12 then 3 else 0
def wB (m : Int) : Int := if m = 10 then 1 else 0
def mP (m a b c d : Int) : Int := a * c + wA m * (b * d)
def mR (m a b c d : Int) : Int := a * d + b * c + wB m * (b * d)
def d0 (m a b : Int) : Int := if m = 6 then a + b else a
def d1 (m a b : Int) : Int := if m = 4 ∨ m = 6 then 0 else b
def Sz (m : Int) : Prop := m = 4 ∨ m = 6 ∨ m = 8 ∨ m = 10 ∨ m = 12
theorem bits_wA (m : Int) : intBits (wA m) ≤ 2 := by
  unfold wA
  split
  · decide
  · split
    · decide
    · split
      · decide
      · split <;> decide
theorem bits_wB (m : Int) : intBits (wB m) ≤ 1 := by
  unfold wB
  split <;> decide
theorem t2 {a b c d : Int} (h : a = c) (h2 : b = d) : (Oc.ok (Rs.im (Tr.tup [Tr.int a, Tr.int b])) : Oc Rs) = Oc.ok (Rs.im (Tr.tup [Tr.int c, Tr.int d])) := by rw [h, h2]
theorem num_times {m a b c d : Int} (hm : Sz m) (h1 : m < 8 → b = 0) (h2 : m < 8 → d = 0) : d0 m (a * c + b * d * wA m) (a * d + b * c + b * d * wB m) = mP m a b c d ∧ d1 m (a * c + b * d * wA m) (a * d + b * c + b * d * wB m) = mR m a b c d := by
  unfold Sz at hm
  unfold d0 d1 mP mR
  by_cases h : m < 8
  · rw [h1 h, h2 h]
    constructor <;> split <;> grind
  · rw [if_neg (by omega), if_neg (by omega)]
    constructor <;> grind
/-- below 8 the second place is 0 -/
theorem mR_ok {m a b c d : Int} (h1 : m < 8 → b = 0) (h2 : m < 8 → d = 0) : m < 8 → mR m a b c d = 0 := fun h => by
  unfold mR
  rw [h1 h, h2 h]
  grind
theorem mP_comm {m a b c d : Int} : mP m c d a b = mP m a b c d := by unfold mP; grind
theorem mR_comm {m a b c d : Int} : mR m c d a b = mR m a b c d := by unfold mR; grind
theorem mP_add {m a b c d e f : Int} : mP m a b (c + e) (d + f) = mP m a b c d + mP m a b e f := by unfold mP; grind
theorem mR_add {m a b c d e f : Int} : mR m a b (c + e) (d + f) = mR m a b c d + mR m a b e f := by unfold mR; grind
theorem mP_assoc {m a b c d e f : Int} : mP m (mP m a b c d) (mR m a b c d) e f = mP m a b (mP m c d e f) (mR m c d e f) := by unfold mP mR; grind
theorem mR_assoc {m a b c d e f : Int} : mR m (mP m a b c d) (mR m a b c d) e f = mR m a b (mP m c d e f) (mR m c d e f) := by unfold mP mR; grind
theorem bits_mP {m a b c d : Int} {x y : Nat} (ha : intBits a ≤ x) (hb : intBits b ≤ x) (hc : intBits c ≤ y) (hd : intBits d ≤ y) : intBits (mP m a b c d) ≤ x + y + 4 := by
  unfold mP
  refine bits_of_le (bits_add (bits_mul ha hc) (bits_mul (bits_wA m) (bits_mul hb hd))) ?_
  omega
theorem bits_mR {m a b c d : Int} {x y : Nat} (ha : intBits a ≤ x) (hb : intBits b ≤ x) (hc : intBits c ≤ y) (hd : intBits d ≤ y) : intBits (mR m a b c d) ≤ x + y + 4 := by
  unfold mR
  refine bits_of_le (bits_add (bits_add (bits_mul ha hd) (bits_mul hb hc)) (bits_mul (bits_wB m) (bits_mul hb hd))) ?_
  omega
theorem bits_int (p : Prop) [Decidable p] : intBits (if p then (1 : Int) else 0) ≤ 1 := by
  split <;> decide
theorem pick4 (c : Int) (t0 t1 t2 t3 : Tr) : ∃ t, ixE (.lst [t0, t1, t2, t3]) (.int (c % 4)) = .ok t ∧ (t = t0 ∨ t = t1 ∨ t = t2 ∨ t = t3) := by
  have h : c % 4 = 0 ∨ c % 4 = 1 ∨ c % 4 = 2 ∨ c % 4 = 3 := by omega
  rcases h with h | h | h | h <;> rw [h]
  · exact ⟨t0, rfl, .inl rfl⟩
  · exact ⟨t1, rfl, .inr (.inl rfl)⟩
  · exact ⟨t2, rfl, .inr (.inr (.inl rfl))⟩
  · exact ⟨t3, rfl, .inr (.inr (.inr rfl))⟩
theorem rangeT_len (lo n : Int) : (rangeT lo n).length = n.toNat := by unfold rangeT; simp
end PF

namespace PF
open PySem PySem.Spec PyProof.Rows L2 PySem.HandSPX
open Builtin.Int (intBits)
/-! ### points, in plain Lean -/
structure Pt where
  x : Int
  y : Int
  u : Int
  v : Int
def Wp (m a b : Int) : Int := if m = 4 then 0 else if m = 6 then a else wA m * b
def Wq (m a b : Int) : Int := if m < 8 then 0 else a + wB m * b
theorem num_w {m a b : Int} (hm : Sz m) (h : m < 8 → b = 0) : mP m (d0 m 0 1) (d1 m 0 1) a b = Wp m a b ∧ mR m (d0 m 0 1) (d1 m 0 1) a b = Wq m a b := by
  unfold Sz at hm
  unfold mP mR d0 d1 Wp Wq
  by_cases h8 : m < 8
  · rw [h h8]
    rcases hm with rfl | rfl | rfl | rfl | rfl <;> simp <;> omega
  · rw [if_neg (by omega), if_neg (by omega), if_neg (by omega), if_neg (by omega), if_neg h8]
    constructor <;> grind
theorem Wq_ok {m a b : Int} : m < 8 → Wq m a b = 0 := fun h => if_pos h
theorem bits_Wp {m a b : Int} {n : Nat} (ha : intBits a ≤ n) (hb : intBits b ≤ n) : intBits (Wp m a b) ≤ n + 2 := by
  unfold Wp
  split
  · exact Nat.le_trans (show intBits (0 : Int) ≤ 0 by decide) (Nat.zero_le _)
  · split
    · omega
    · exact bits_of_le (bits_mul (bits_wA m) hb) (by omega)
theorem bits_Wq {m a b : Int} {n : Nat} (ha : intBits a ≤ n) (hb : intBits b ≤ n) : intBits (Wq m a b) ≤ n + 2 := by
  unfold Wq
  split
  · exact Nat.le_trans (show intBits (0 : Int) ≤ 0 by decide) (Nat.zero_le _)
  · exact bits_of_le (bits_add ha (bits_mul (bits_wB m) hb)) (by omega)
theorem Wp_neg {m a b : Int} : Wp m (-a) (-b) = -Wp m a b := by
  unfold Wp
  split
  · rfl
  · split <;> grind
theorem Wq_neg {m a b : Int} : Wq m (-a) (-b) = -Wq m a b := by unfold Wq; split <;> grind
theorem Wp_add {m a b c d : Int} : Wp m (a + c) (b + d) = Wp m a b + Wp m c d := by
  unfold Wp
  split
  · rfl
  · split <;> grind
theorem Wq_add {m a b c d : Int} : Wq m (a + c) (b + d) = Wq m a b + Wq m c d := by unfold Wq; split <;> grind
def stp (m : Int) (p : Pt) : Pt := ⟨-p.u, -p.v, p.x + Wp m p.u p.v, p.y + Wq m p.u p.v⟩
def mir (m : Int) (p : Pt) : Pt := ⟨p.x + Wp m p.u p.v, p.y + Wq m p.u p.v, -p.u, -p.v⟩
def ngP (p : Pt) : Pt := ⟨-p.x, -p.y, -p.u, -p.v⟩
def it (m : Int) : Nat → Pt → Pt
  | 0, p => p
  | n + 1, p => it m n (stp m p)
def OkP (m : Int) (p : Pt) : Prop := m < 8 → p.y = 0 ∧ p.v = 0
def BtP (n : Nat) (p : Pt) : Prop := intBits p.x ≤ n ∧ intBits p.y ≤ n ∧ intBits p.u ≤ n ∧ intBits p.v ≤ n
theorem pt_eq {p q : Pt} (h1 : p.x = q.x) (h2 : p.y = q.y) (h3 : p.u = q.u) (h4 : p.v = q.v) : p = q := by
  cases p
  cases q
  simp only at h1 h2 h3 h4
  rw [h1, h2, h3, h4]
theorem OkP.stp {m : Int} {p : Pt} (h : OkP m p) : OkP m (stp m p) := fun h8 => by
  have e := h h8
  have e2 : Wq m p.u p.v = 0 := Wq_ok h8
  show -p.v = 0 ∧ p.y + Wq m p.u p.v = 0
  omega
theorem OkP.mir {m : Int} {p : Pt} (h : OkP m p) : OkP m (mir m p) := fun h8 => by
  have e := h h8
  have e2 : Wq m p.u p.v = 0 := Wq_ok h8
  show p.y + Wq m p.u p.v = 0 ∧ -p.v = 0
  omega
theorem OkP.it {m : Int} : ∀ (n : Nat) {p : Pt}, OkP m p → OkP m (it m n p)
  | 0, p, h => h
  | n + 1, p, h => OkP.it n h.stp
theorem BtP.stp {m : Int} {n : Nat} {p : Pt} (h : BtP n p) : BtP (n + 4) (stp m p) := by
  obtain ⟨h1, h2, h3, h4⟩ := h
  refine ⟨?_, ?_, ?_, ?_⟩
  · exact bits_of_le (bits_neg h3) (by omega)
  · exact bits_of_le (bits_neg h4) (by omega)
  · exact bits_of_le (bits_add h1 (bits_Wp h3 h4)) (by omega)
  · exact bits_of_le (bits_add h2 (bits_Wq h3 h4)) (by omega)
theorem BtP.mir {m : Int} {n : Nat} {p : Pt} (h : BtP n p) : BtP (n + 4) (mir m p) := by
  obtain ⟨h1, h2, h3, h4⟩ := h
  refine ⟨?_, ?_, ?_, ?_⟩
  · exact bits_of_le (bits_add h1 (bits_Wp h3 h4)) (by omega)
  · exact bits_of_le (bits_add h2 (bits_Wq h3 h4)) (by omega)
  · exact bits_of_le (bits_neg h3) (by omega)
  · exact bits_of_le (bits_neg h4) (by omega)
theorem BtP.le {n k : Nat} {p : Pt} (h : BtP n p) (hk : n ≤ k) : BtP k p := ⟨bits_of_le h.1 hk, bits_of_le h.2.1 hk, bits_of_le h.2.2.1 hk, bits_of_le h.2.2.2 hk⟩
theorem BtP.it {m : Int} : ∀ (n : Nat) {b : Nat} {p : Pt}, BtP b p → BtP (b + 4 * n) (it m n p)
  | 0, b, p, h => h
  | n + 1, b, p, h => (BtP.it n h.stp).le (by omega)
theorem it1 {m : Int} {n : Nat} {p : Pt} : it m (n + 1) p = it m n (stp m p) := id rfl
theorem it_add {m : Int} : ∀ (a b : Nat) (p : Pt), it m (a + b) p = it m b (it m a p)
  | 0, b, p => by rw [Nat.zero_add]; rfl
  | a + 1, b, p => by
    rw [show a + 1 + b = (a + b) + 1 by omega, it1, it1]
    exact it_add a b _
theorem it1' {m : Int} {n : Nat} {p : Pt} : it m (n + 1) p = stp m (it m n p) := by rw [it_add]; rfl
theorem stp_neg {m : Int} {p : Pt} : stp m (ngP p) = ngP (stp m p) := by
  refine pt_eq rfl rfl ?_ ?_
  · show -p.x + Wp m (-p.u) (-p.v) = -(p.x + Wp m p.u p.v)
    rw [Wp_neg]; omega
  · show -p.y + Wq m (-p.u) (-p.v) = -(p.y + Wq m p.u p.v)
    rw [Wq_neg]; omega
theorem it_neg {m : Int} : ∀ (n : Nat) (p : Pt), it m n (ngP p) = ngP (it m n p)
  | 0, p => rfl
  | n + 1, p => by rw [it1, it1, stp_neg, it_neg n]
theorem neg_neg {p : Pt} : ngP (ngP p) = p := pt_eq (by show - -p.x = p.x; omega) (by show - -p.y = p.y; omega) (by show - -p.u = p.u; omega) (by show - -p.v = p.v; omega)
theorem half {m : Int} (hm : Sz m) {p : Pt} (h : OkP m p) : it m (m / 2).toNat p = ngP p := by
  obtain ⟨x, y, u, v⟩ := p
  unfold OkP at h
  simp only at h
  rcases hm with rfl | rfl | rfl | rfl | rfl
  · have e := h (by decide)
    show it 4 2 _ = _
    refine pt_eq ?_ ?_ ?_ ?_ <;> simp [it, stp, ngP, Wp, Wq, wA, wB] <;> omega
  · have e := h (by decide)
    show it 6 3 _ = _
    refine pt_eq ?_ ?_ ?_ ?_ <;> simp [it, stp, ngP, Wp, Wq, wA, wB] <;> omega
  · show it 8 4 _ = _
    refine pt_eq ?_ ?_ ?_ ?_ <;> simp [it, stp, ngP, Wp, Wq, wA, wB] <;> omega
  · show it 10 5 _ = _
    refine pt_eq ?_ ?_ ?_ ?_ <;> simp [it, stp, ngP, Wp, Wq, wA, wB] <;> omega
  · show it 12 6 _ = _
    refine pt_eq ?_ ?_ ?_ ?_ <;> simp [it, stp, ngP, Wp, Wq, wA, wB] <;> omega
theorem full {m : Int} (hm : Sz m) {p : Pt} (h : OkP m p) : it m m.toNat p = p := by
  have e : m.toNat = (m / 2).toNat + (m / 2).toNat := by unfold Sz at hm; omega
  rw [e, it_add, half hm h, it_neg, half hm h, neg_neg]
theorem it_mul {m : Int} (hm : Sz m) : ∀ (q : Nat) {p : Pt}, OkP m p → it m (m.toNat * q) p = p
  | 0, p, h => rfl
  | q + 1, p, h => by rw [Nat.mul_succ, it_add, it_mul hm q h, full hm h]
theorem it_mod {m : Int} (hm : Sz m) {p : Pt} (h : OkP m p) (n : Nat) : it m (n % m.toNat) p = it m n p := by
  have e : it m n p = it m (m.toNat * (n / m.toNat) + n % m.toNat) p := by rw [Nat.div_add_mod]
  rw [e, it_add, it_mul hm _ h]
/-- turned -/
def tu (m r : Int) (p : Pt) : Pt := it m (r % m).toNat p
theorem tu_add {m : Int} (hm : Sz m) {p : Pt} (h : OkP m p) (a b : Int) : tu m b (tu m a p) = tu m (a + b) p := by
  unfold tu
  rw [← it_add, ← it_mod hm h]
  congr 1
  rcases hm with rfl | rfl | rfl | rfl | rfl
  · show ((a % 4).toNat + (b % 4).toNat) % 4 = _
    omega
  · show ((a % 6).toNat + (b % 6).toNat) % 6 = _
    omega
  · show ((a % 8).toNat + (b % 8).toNat) % 8 = _
    omega
  · show ((a % 10).toNat + (b % 10).toNat) % 10 = _
    omega
  · show ((a % 12).toNat + (b % 12).toNat) % 12 = _
    omega
theorem tu_0 {m : Int} {p : Pt} : tu m 0 p = p := by unfold tu; rw [Int.zero_emod]; rfl
theorem tu_1 {m : Int} (hm : Sz m) {p : Pt} : tu m 1 p = stp m p := by rcases hm with rfl | rfl | rfl | rfl | rfl <;> rfl
theorem tu_m {m : Int} {p : Pt} : tu m m p = p := by unfold tu; rw [Int.emod_self]; rfl
theorem tu_half {m : Int} (hm : Sz m) {p : Pt} (h : OkP m p) : tu m (m / 2) p = ngP p := by
  rw [← half hm h]
  rcases hm with rfl | rfl | rfl | rfl | rfl <;> rfl
theorem smir {m : Int} {p : Pt} : stp m (mir m (stp m p)) = mir m p := by
  refine pt_eq ?_ ?_ ?_ ?_
  · show - -(p.x + Wp m p.u p.v) = p.x + Wp m p.u p.v
    omega
  · show - -(p.y + Wq m p.u p.v) = p.y + Wq m p.u p.v
    omega
  · show -p.u + Wp m (p.x + Wp m p.u p.v) (p.y + Wq m p.u p.v) + Wp m (-(p.x + Wp m p.u p.v)) (-(p.y + Wq m p.u p.v)) = -p.u
    rw [Wp_neg]; omega
  · show -p.v + Wq m (p.x + Wp m p.u p.v) (p.y + Wq m p.u p.v) + Wq m (-(p.x + Wp m p.u p.v)) (-(p.y + Wq m p.u p.v)) = -p.v
    rw [Wq_neg]; omega
theorem imir {m : Int} : ∀ (n : Nat) (p : Pt), it m n (mir m (it m n p)) = mir m p
  | 0, p => rfl
  | n + 1, p => by
    rw [it1' (p := p), it1, smir]
    exact imir n p
theorem mir_mir {m : Int} {p : Pt} : mir m (mir m p) = p := by
  refine pt_eq ?_ ?_ ?_ ?_
  · show p.x + Wp m p.u p.v + Wp m (-p.u) (-p.v) = p.x
    rw [Wp_neg]; omega
  · show p.y + Wq m p.u p.v + Wq m (-p.u) (-p.v) = p.y
    rw [Wq_neg]; omega
  · show - -p.u = p.u
    omega
  · show - -p.v = p.v
    omega
theorem mir_tu {m : Int} (hm : Sz m) {p : Pt} (h : OkP m p) (r : Int) : mir m (tu m r p) = tu m (-r) (mir m p) := by
  have e : mir m p = tu m r (mir m (tu m r p)) := (imir _ p).symm
  have o : OkP m (mir m (tu m r p)) := OkP.mir (OkP.it _ h)
  rw [e, tu_add hm o, Int.add_right_neg, tu_0]
def zP : Pt := ⟨0, 0, 0, 0⟩
theorem Wp_0 {m : Int} : Wp m 0 0 = 0 := by
  unfold Wp
  split
  · rfl
  · split <;> grind
theorem Wq_0 {m : Int} : Wq m 0 0 = 0 := by unfold Wq; split <;> grind
theorem stp_0 {m : Int} : stp m zP = zP := pt_eq rfl rfl (by show 0 + Wp m 0 0 = 0; rw [Wp_0]; rfl) (by show 0 + Wq m 0 0 = 0; rw [Wq_0]; rfl)
theorem it_0 {m : Int} : ∀ n : Nat, it m n zP = zP
  | 0 => rfl
  | n + 1 => by rw [it1, stp_0, it_0 n]
theorem mir_1 {m : Int} : mir m ⟨1, 0, 0, 0⟩ = ⟨1, 0, 0, 0⟩ := pt_eq (by show 1 + Wp m 0 0 = 1; rw [Wp_0]; rfl) (by show 0 + Wq m 0 0 = 0; rw [Wq_0]; rfl) rfl rfl
theorem tuP {m r : Int} {p : Pt} : it m (r % m).toNat p = tu m r p := id rfl
theorem ng1 {p : Pt} : (ngP p).x = -p.x := id rfl
theorem ng2 {p : Pt} : (ngP p).y = -p.y := id rfl
theorem ng3 {p : Pt} : (ngP p).u = -p.u := id rfl
theorem ng4 {p : Pt} : (ngP p).v = -p.v := id rfl
theorem modr {m : Int} (hm : Sz m) (r : Int) : 0 ≤ r % m ∧ r % m < 12 := by
  unfold Sz at hm
  have h1 := Int.emod_nonneg r (show m ≠ 0 by omega)
  have h2 := Int.emod_lt_of_pos r (show 0 < m by omega)
  omega
end PF

namespace PF
open PySem PySem.Spec PyProof.Rows L2 PySem.HandSPX
open Builtin.Int (intBits)
/-! ### crosses, in plain Lean -/
def cX (m : Int) (p q : Pt) : Int := mP m p.x p.y q.u q.v - mP m p.u p.v q.x q.y
def cY (m : Int) (p q : Pt) : Int := mR m p.x p.y q.u q.v - mR m p.u p.v q.x q.y
def adP (p q : Pt) : Pt := ⟨p.x + q.x, p.y + q.y, p.u + q.u, p.v + q.v⟩
def scl (m : Int) (p : Pt) (a b : Int) : Pt := ⟨mP m p.x p.y a b, mR m p.x p.y a b, mP m p.u p.v a b, mR m p.u p.v a b⟩
section
variable {m : Int} {p q t : Pt}
theorem cY_ok (hp : OkP m p) (hq : OkP m q) : m < 8 → cY m p q = 0 := fun h => by
  have e1 := mR_ok (a := p.x) (c := q.u) (fun h => (hp h).1) (fun h => (hq h).2) h
  have e2 := mR_ok (a := p.u) (c := q.x) (fun h => (hp h).2) (fun h => (hq h).1) h
  unfold cY
  omega
theorem OkP.ad (hp : OkP m p) (hq : OkP m q) : OkP m (adP p q) := fun h => by
  have e1 := hp h
  have e2 := hq h
  show p.y + q.y = 0 ∧ p.v + q.v = 0
  omega
theorem OkP.scl {a b : Int} (hp : OkP m p) (hb : m < 8 → b = 0) : OkP m (scl m p a b) := fun h => ⟨mR_ok (fun h => (hp h).1) hb h, mR_ok (fun h => (hp h).2) hb h⟩
theorem BtP.ad {n : Nat} (hp : BtP n p) (hq : BtP n q) : BtP (n + 1) (adP p q) :=
  ⟨bits_of_le (bits_add hp.1 hq.1) (by omega), bits_of_le (bits_add hp.2.1 hq.2.1) (by omega), bits_of_le (bits_add hp.2.2.1 hq.2.2.1) (by omega), bits_of_le (bits_add hp.2.2.2 hq.2.2.2) (by omega)⟩
theorem BtP.scl {n k : Nat} {a b : Int} (hp : BtP n p) (ha : intBits a ≤ k) (hb : intBits b ≤ k) : BtP (n + k + 4) (scl m p a b) :=
  ⟨bits_mP hp.1 hp.2.1 ha hb, bits_mR hp.1 hp.2.1 ha hb, bits_mP hp.2.2.1 hp.2.2.2 ha hb, bits_mR hp.2.2.1 hp.2.2.2 ha hb⟩
theorem bits_cX {n k : Nat} (hp : BtP n p) (hq : BtP k q) : intBits (cX m p q) ≤ n + k + 5 := by
  unfold cX
  exact bits_of_le (bits_sub (bits_mP hp.1 hp.2.1 hq.2.2.1 hq.2.2.2) (bits_mP hp.2.2.1 hp.2.2.2 hq.1 hq.2.1)) (by omega)
theorem bits_cY {n k : Nat} (hp : BtP n p) (hq : BtP k q) : intBits (cY m p q) ≤ n + k + 5 := by
  unfold cY
  exact bits_of_le (bits_sub (bits_mR hp.1 hp.2.1 hq.2.2.1 hq.2.2.2) (bits_mR hp.2.2.1 hp.2.2.2 hq.1 hq.2.1)) (by omega)
theorem c_self : cX m p p = 0 ∧ cY m p p = 0 := by
  unfold cX cY mP mR
  constructor <;> grind
theorem c_swap : cX m q p = -cX m p q ∧ cY m q p = -cY m p q := by
  unfold cX cY mP mR
  constructor <;> grind
theorem c_add : cX m p (adP q t) = cX m p q + cX m p t ∧ cY m p (adP q t) = cY m p q + cY m p t := by
  unfold cX cY mP mR adP
  constructor <;> grind
theorem c_scl {a b : Int} : cX m (scl m p a b) q = mP m (cX m p q) (cY m p q) a b ∧ cY m (scl m p a b) q = mR m (cX m p q) (cY m p q) a b := by
  unfold cX cY scl mP mR
  constructor <;> grind
theorem c_stp (hm : Sz m) (hp : OkP m p) (hq : OkP m q) : cX m (stp m p) (stp m q) = cX m p q ∧ cY m (stp m p) (stp m q) = cY m p q := by
  obtain ⟨x, y, u, v⟩ := p
  obtain ⟨x', y', u', v'⟩ := q
  unfold OkP at hp hq
  simp only at hp hq
  rcases hm with rfl | rfl | rfl | rfl | rfl
  · have e1 := hp (by decide)
    have e2 := hq (by decide)
    obtain ⟨rfl, rfl⟩ := e1
    obtain ⟨rfl, rfl⟩ := e2
    simp only [cX, cY, stp, mP, mR, Wp, Wq, wA, wB]
    constructor <;> grind
  · have e1 := hp (by decide)
    have e2 := hq (by decide)
    obtain ⟨rfl, rfl⟩ := e1
    obtain ⟨rfl, rfl⟩ := e2
    simp only [cX, cY, stp, mP, mR, Wp, Wq, wA, wB]
    constructor <;> grind
  · simp only [cX, cY, stp, mP, mR, Wp, Wq, wA, wB]
    constructor <;> grind
  · simp only [cX, cY, stp, mP, mR, Wp, Wq, wA, wB]
    constructor <;> grind
  · simp only [cX, cY, stp, mP, mR, Wp, Wq, wA, wB]
    constructor <;> grind
theorem c_mir (hm : Sz m) (hp : OkP m p) (hq : OkP m q) : cX m (mir m p) (mir m q) = -cX m p q ∧ cY m (mir m p) (mir m q) = -cY m p q := by
  obtain ⟨x, y, u, v⟩ := p
  obtain ⟨x', y', u', v'⟩ := q
  unfold OkP at hp hq
  simp only at hp hq
  rcases hm with rfl | rfl | rfl | rfl | rfl
  · have e1 := hp (by decide)
    have e2 := hq (by decide)
    obtain ⟨rfl, rfl⟩ := e1
    obtain ⟨rfl, rfl⟩ := e2
    simp only [cX, cY, mir, mP, mR, Wp, Wq, wA, wB]
    constructor <;> grind
  · have e1 := hp (by decide)
    have e2 := hq (by decide)
    obtain ⟨rfl, rfl⟩ := e1
    obtain ⟨rfl, rfl⟩ := e2
    simp only [cX, cY, mir, mP, mR, Wp, Wq, wA, wB]
    constructor <;> grind
  · simp only [cX, cY, mir, mP, mR, Wp, Wq, wA, wB]
    constructor <;> grind
  · simp only [cX, cY, mir, mP, mR, Wp, Wq, wA, wB]
    constructor <;> grind
  · simp only [cX, cY, mir, mP, mR, Wp, Wq, wA, wB]
    constructor <;> grind
theorem c_it (hm : Sz m) : ∀ (n : Nat) {p q : Pt}, OkP m p → OkP m q → cX m (it m n p) (it m n q) = cX m p q ∧ cY m (it m n p) (it m n q) = cY m p q
  | 0, _, _, _, _ => ⟨rfl, rfl⟩
  | n + 1, p, q, hp, hq => by
    have e := c_it hm n hp.stp hq.stp
    have f := c_stp hm hp hq
    exact ⟨e.1.trans f.1, e.2.trans f.2⟩
theorem c_10 : cX m ⟨1, 0, 0, 0⟩ ⟨0, 0, 1, 0⟩ = 1 ∧ cY m ⟨1, 0, 0, 0⟩ ⟨0, 0, 1, 0⟩ = 0 := by
  unfold cX cY mP mR
  constructor <;> simp only <;> grind
end
end PF

namespace PF
open PySem PySem.Spec PyProof.Rows L2 PySem.HandSPX
open Builtin.Int (intBits)
/-! ### moves, in plain Lean -/
structure Mv where
  t : Int
  f : Int
  o : Pt
def car (m t f : Int) (p : Pt) : Pt := tu m t (if f = 1 then mir m p else p)
def mvd (m : Int) (a : Mv) (p : Pt) : Pt := adP (car m a.t a.f p) a.o
def joT (m : Int) (a b : Mv) : Int := (if b.f = 1 then b.t - a.t else b.t + a.t) % m
def joi (m : Int) (a b : Mv) : Mv := ⟨joT m a b, (a.f + b.f) % 2, mvd m b a.o⟩
def baT (m : Int) (a : Mv) : Int := if a.f = 1 then a.t else -a.t % m
def bak (m : Int) (a : Mv) : Mv := ⟨baT m a, a.f, car m (baT m a) a.f (ngP a.o)⟩
def still : Mv := ⟨0, 0, zP⟩
structure OkM (m : Int) (a : Mv) : Prop where
  t0 : 0 ≤ a.t
  t1 : a.t < m
  f : a.f = 0 ∨ a.f = 1
  o : OkP m a.o
section
variable {m : Int} {p q : Pt} {a b c : Mv}
theorem OkP.ng (h : OkP m p) : OkP m (ngP p) := fun h8 => by
  have e := h h8
  show -p.y = 0 ∧ -p.v = 0
  omega
theorem OkP.tu {r : Int} (h : OkP m p) : OkP m (tu m r p) := OkP.it _ h
theorem OkP.car {t f : Int} (h : OkP m p) : OkP m (car m t f p) := by
  unfold PF.car
  split
  · exact h.mir.tu
  · exact h.tu
theorem BtP.ng {n : Nat} (h : BtP n p) : BtP n (ngP p) := ⟨bits_neg h.1, bits_neg h.2.1, bits_neg h.2.2.1, bits_neg h.2.2.2⟩
theorem BtP.tu {n : Nat} {r : Int} (hm : Sz m) (h : BtP n p) : BtP (n + 48) (tu m r p) := (BtP.it _ h).le (by have := modr hm r; omega)
theorem BtP.car {n : Nat} {t f : Int} (hm : Sz m) (h : BtP n p) : BtP (n + 52) (car m t f p) := by
  unfold PF.car
  split
  · exact (h.mir.tu hm).le (by omega)
  · exact (h.tu hm).le (by omega)
theorem BtP.mvd {n : Nat} (hm : Sz m) (h : BtP n p) (ho : BtP n a.o) : BtP (n + 53) (mvd m a p) := (BtP.ad (h.car hm) (ho.le (by omega))).le (by omega)
theorem stp_ad : stp m (adP p q) = adP (stp m p) (stp m q) := by
  refine pt_eq ?_ ?_ ?_ ?_
  · show -(p.u + q.u) = -p.u + -q.u
    omega
  · show -(p.v + q.v) = -p.v + -q.v
    omega
  · show p.x + q.x + Wp m (p.u + q.u) (p.v + q.v) = p.x + Wp m p.u p.v + (q.x + Wp m q.u q.v)
    rw [Wp_add]; omega
  · show p.y + q.y + Wq m (p.u + q.u) (p.v + q.v) = p.y + Wq m p.u p.v + (q.y + Wq m q.u q.v)
    rw [Wq_add]; omega
theorem it_ad : ∀ (n : Nat) (p q : Pt), it m n (adP p q) = adP (it m n p) (it m n q)
  | 0, p, q => rfl
  | n + 1, p, q => by rw [it1, it1, it1, stp_ad, it_ad n]
theorem mir_ad : mir m (adP p q) = adP (mir m p) (mir m q) := by
  refine pt_eq ?_ ?_ ?_ ?_
  · show p.x + q.x + Wp m (p.u + q.u) (p.v + q.v) = p.x + Wp m p.u p.v + (q.x + Wp m q.u q.v)
    rw [Wp_add]; omega
  · show p.y + q.y + Wq m (p.u + q.u) (p.v + q.v) = p.y + Wq m p.u p.v + (q.y + Wq m q.u q.v)
    rw [Wq_add]; omega
  · show -(p.u + q.u) = -p.u + -q.u
    omega
  · show -(p.v + q.v) = -p.v + -q.v
    omega
theorem mir_ng : mir m (ngP p) = ngP (mir m p) := by
  refine pt_eq ?_ ?_ rfl rfl
  · show -p.x + Wp m (-p.u) (-p.v) = -(p.x + Wp m p.u p.v)
    rw [Wp_neg]; omega
  · show -p.y + Wq m (-p.u) (-p.v) = -(p.y + Wq m p.u p.v)
    rw [Wq_neg]; omega
theorem car_ad {t f : Int} : car m t f (adP p q) = adP (car m t f p) (car m t f q) := by
  unfold car tu
  split
  · rw [mir_ad, it_ad]
  · rw [it_ad]
theorem car_ng {t f : Int} : car m t f (ngP p) = ngP (car m t f p) := by
  unfold car tu
  split
  · rw [mir_ng, it_neg]
  · rw [it_neg]
theorem mir_0 : mir m zP = zP := pt_eq (by show 0 + Wp m 0 0 = 0; rw [Wp_0]; rfl) (by show 0 + Wq m 0 0 = 0; rw [Wq_0]; rfl) rfl rfl
theorem car_0 {t f : Int} : car m t f zP = zP := by
  unfold car tu
  split
  · rw [mir_0, it_0]
  · rw [it_0]
theorem ad_as {p q r : Pt} : adP (adP p q) r = adP p (adP q r) := pt_eq (Int.add_assoc ..) (Int.add_assoc ..) (Int.add_assoc ..) (Int.add_assoc ..)
theorem ad_cm : adP p q = adP q p := pt_eq (Int.add_comm ..) (Int.add_comm ..) (Int.add_comm ..) (Int.add_comm ..)
theorem ad_ng : adP p (ngP p) = zP := pt_eq (Int.add_right_neg _) (Int.add_right_neg _) (Int.add_right_neg _) (Int.add_right_neg _)
theorem ad_0 : adP p zP = p := pt_eq (Int.add_zero _) (Int.add_zero _) (Int.add_zero _) (Int.add_zero _)
theorem ad_0' : adP zP p = p := by rw [ad_cm, ad_0]
theorem tu_mod {r : Int} : tu m (r % m) p = tu m r p := by unfold tu; rw [Int.emod_emod]
theorem car_car (ha : a.f = 0 ∨ a.f = 1) (hb : b.f = 0 ∨ b.f = 1) (hm : Sz m) (hp : OkP m p) : car m b.t b.f (car m a.t a.f p) = car m (joT m a b) ((a.f + b.f) % 2) p := by
  unfold car joT
  rw [tu_mod]
  rcases hb with hb | hb <;> rcases ha with ha | ha <;> rw [ha, hb]
  · show tu m b.t (tu m a.t p) = tu m (b.t + a.t) p
    rw [tu_add hm hp, Int.add_comm]
  · show tu m b.t (tu m a.t (mir m p)) = tu m (b.t + a.t) (mir m p)
    rw [tu_add hm hp.mir, Int.add_comm]
  · show tu m b.t (mir m (tu m a.t p)) = tu m (b.t - a.t) (mir m p)
    rw [mir_tu hm hp, tu_add hm hp.mir, show -a.t + b.t = b.t - a.t by omega]
  · show tu m b.t (mir m (tu m a.t (mir m p))) = tu m (b.t - a.t) p
    rw [mir_tu hm hp.mir, mir_mir, tu_add hm hp, show -a.t + b.t = b.t - a.t by omega]
theorem mvd_mvd (ha : OkM m a) (hb : OkM m b) (hm : Sz m) (hp : OkP m p) : mvd m b (mvd m a p) = mvd m (joi m a b) p := by
  show adP (car m b.t b.f (adP (car m a.t a.f p) a.o)) b.o = adP (car m (joT m a b) ((a.f + b.f) % 2) p) (adP (car m b.t b.f a.o) b.o)
  rw [car_ad, car_car ha.f hb.f hm hp, ad_as]
theorem joT_ok (hm : Sz m) : 0 ≤ joT m a b ∧ joT m a b < m := by
  unfold joT
  unfold Sz at hm
  exact ⟨Int.emod_nonneg _ (by omega), Int.emod_lt_of_pos _ (by omega)⟩
theorem joi_ok (hm : Sz m) (ha : OkM m a) (hb : OkM m b) : OkM m (joi m a b) :=
  ⟨(joT_ok hm).1, (joT_ok hm).2, by show (a.f + b.f) % 2 = 0 ∨ (a.f + b.f) % 2 = 1; omega, (ha.o.car).ad hb.o⟩
theorem mv_eq {a b : Mv} (h1 : a.t = b.t) (h2 : a.f = b.f) (h3 : a.o = b.o) : a = b := by
  cases a
  cases b
  simp only at h1 h2 h3
  rw [h1, h2, h3]
theorem joi_as (hm : Sz m) (ha : OkM m a) (hb : OkM m b) (hc : OkM m c) : joi m (joi m a b) c = joi m a (joi m b c) := by
  refine mv_eq ?_ ?_ (mvd_mvd hb hc hm ha.o)
  · show (if c.f = 1 then c.t - joT m a b else c.t + joT m a b) % m = (if (b.f + c.f) % 2 = 1 then joT m b c - a.t else joT m b c + a.t) % m
    unfold joT
    rcases hb.f with h1 | h1 <;> rcases hc.f with h2 | h2 <;> rw [h1, h2] <;> simp only [Int.reduceAdd, Int.reduceMod, Int.reduceEq, if_true, if_false, ite_true, ite_false] <;> rcases hm with rfl | rfl | rfl | rfl | rfl <;> omega
  · show ((a.f + b.f) % 2 + c.f) % 2 = (a.f + (b.f + c.f) % 2) % 2
    omega
theorem baT_ok (hm : Sz m) (ha : OkM m a) : 0 ≤ baT m a ∧ baT m a < m := by
  unfold baT
  split
  · exact ⟨ha.t0, ha.t1⟩
  · unfold Sz at hm
    exact ⟨Int.emod_nonneg _ (by omega), Int.emod_lt_of_pos _ (by omega)⟩
theorem bak_ok (hm : Sz m) (ha : OkM m a) : OkM m (bak m a) := ⟨(baT_ok hm ha).1, (baT_ok hm ha).2, ha.f, ha.o.ng.car⟩
theorem car_inv (hm : Sz m) (ha : OkM m a) (hp : OkP m p) : car m (baT m a) a.f (car m a.t a.f p) = p := by
  unfold car baT
  rcases ha.f with h | h <;> rw [h]
  · show tu m (-a.t % m) (tu m a.t p) = p
    rw [tu_mod, tu_add hm hp, Int.add_right_neg, tu_0]
  · show tu m a.t (mir m (tu m a.t (mir m p))) = p
    rw [mir_tu hm hp.mir, mir_mir, tu_add hm hp, show -a.t + a.t = 0 by omega, tu_0]
theorem car_inv' (hm : Sz m) (ha : OkM m a) (hp : OkP m p) : car m a.t a.f (car m (baT m a) a.f p) = p := by
  unfold car baT
  rcases ha.f with h | h <;> rw [h]
  · show tu m a.t (tu m (-a.t % m) p) = p
    rw [tu_mod, tu_add hm hp, show -a.t + a.t = 0 by omega, tu_0]
  · show tu m a.t (mir m (tu m a.t (mir m p))) = p
    rw [mir_tu hm hp.mir, mir_mir, tu_add hm hp, show -a.t + a.t = 0 by omega, tu_0]
theorem bak_mvd (hm : Sz m) (ha : OkM m a) (hp : OkP m p) : mvd m (bak m a) (mvd m a p) = p := by
  show adP (car m (baT m a) a.f (adP (car m a.t a.f p) a.o)) (car m (baT m a) a.f (ngP a.o)) = p
  rw [car_ad, car_ng, ad_as, ad_ng, ad_0, car_inv hm ha hp]
theorem joi_bak (hm : Sz m) (ha : OkM m a) : joi m a (bak m a) = still := by
  refine mv_eq ?_ ?_ ?_
  · show (if a.f = 1 then baT m a - a.t else baT m a + a.t) % m = 0
    unfold baT
    rcases ha.f with h | h <;> rw [h] <;> simp only [Int.reduceEq, if_true, if_false, ite_true, ite_false]
    · rcases hm with rfl | rfl | rfl | rfl | rfl <;> omega
    · rw [Int.sub_self, Int.zero_emod]
  · show (a.f + a.f) % 2 = 0
    omega
  · show adP (car m (baT m a) a.f a.o) (car m (baT m a) a.f (ngP a.o)) = zP
    rw [car_ng, ad_ng]
theorem bak_joi (hm : Sz m) (ha : OkM m a) : joi m (bak m a) a = still := by
  refine mv_eq ?_ ?_ ?_
  · show (if a.f = 1 then a.t - baT m a else a.t + baT m a) % m = 0
    unfold baT
    rcases ha.f with h | h <;> rw [h] <;> simp only [Int.reduceEq, if_true, if_false, ite_true, ite_false]
    · rcases hm with rfl | rfl | rfl | rfl | rfl <;> omega
    · rw [Int.sub_self, Int.zero_emod]
  · show (a.f + a.f) % 2 = 0
    omega
  · show adP (car m a.t a.f (car m (baT m a) a.f (ngP a.o))) a.o = zP
    rw [car_inv' hm ha ha.o.ng, ad_cm, ad_ng]
theorem bak_bak (hm : Sz m) (ha : OkM m a) : bak m (bak m a) = a := by
  have e : baT m (bak m a) = a.t := by
    show (if a.f = 1 then baT m a else -baT m a % m) = a.t
    unfold baT
    have h0 := ha.t0
    have h1 := ha.t1
    rcases ha.f with h | h <;> rw [h] <;> simp only [Int.reduceEq, if_true, if_false, ite_true, ite_false]
    rcases hm with rfl | rfl | rfl | rfl | rfl <;> omega
  refine mv_eq e rfl ?_
  show car m (baT m (bak m a)) a.f (ngP (car m (baT m a) a.f (ngP a.o))) = a.o
  rw [e, car_ng, car_ng, car_ng, neg_neg, car_inv' hm ha ha.o]
theorem still_joi (ha : OkM m a) : joi m still a = a := by
  have e := Int.emod_eq_of_lt ha.t0 ha.t1
  refine mv_eq ?_ ?_ ?_
  · show (if a.f = 1 then a.t - 0 else a.t + 0) % m = a.t
    rw [Int.sub_zero, Int.add_zero, ite_self, e]
  · show (0 + a.f) % 2 = a.f
    have := ha.f
    omega
  · show adP (car m a.t a.f zP) a.o = a.o
    rw [car_0, ad_0']
theorem joi_still (ha : OkM m a) : joi m a still = a := by
  have e := Int.emod_eq_of_lt ha.t0 ha.t1
  refine mv_eq ?_ ?_ ?_
  · show (0 + a.t) % m = a.t
    rw [Int.zero_add, e]
  · show (a.f + 0) % 2 = a.f
    have := ha.f
    omega
  · show adP (tu m 0 a.o) zP = a.o
    rw [tu_0, ad_0]
end
/-! ### running, the rest -/
section
variable {C : Ctx} {env : List Sl}
def kCh1 (C : Ctx) (o o' : CO) (b c : Ex) (env : List Sl) (r : Oc Rs) : Oc Rs := r >>= fun x => ev C b env >>= fun y => cmpE o x.see y.see >>= fun k =>
      if k then ev C c env >>= fun z => cmpE o' y.see z.see >>= fun k' => .ok (.im (.bl k')) else .ok (.im (.bl false))
def kCh2 (C : Ctx) (o o' : CO) (c : Ex) (env : List Sl) (x : Tr) (r : Oc Rs) : Oc Rs := r >>= fun y => cmpE o x y.see >>= fun k =>
      if k then ev C c env >>= fun z => cmpE o' y.see z.see >>= fun k' => .ok (.im (.bl k')) else .ok (.im (.bl false))
def kCh3 (C : Ctx) (o' : CO) (c : Ex) (env : List Sl) (y : Tr) (r : Oc Bool) : Oc Rs := r >>= fun k =>
      if k then ev C c env >>= fun z => cmpE o' y z.see >>= fun k' => .ok (.im (.bl k')) else .ok (.im (.bl false))
theorem r_ch {o o' : CO} {a b c : Ex} : ev C (.chain o o' a b c) env = kCh1 C o o' b c env (ev C a env) := id rfl
theorem r_ch1 {o o' : CO} {b c : Ex} {x : Rs} : kCh1 C o o' b c env (.ok x) = kCh2 C o o' c env x.see (ev C b env) := id rfl
theorem r_ch2 {o o' : CO} {c : Ex} {x : Tr} {y : Rs} : kCh2 C o o' c env x (.ok y) = kCh3 C o' c env y.see (cmpE o x y.see) := id rfl
theorem r_ch3 {o' : CO} {c : Ex} {y : Tr} : kCh3 C o' c env y (.ok true) = kCmp2 o' y (ev C c env) := id rfl
theorem r_ch4 {o' : CO} {c : Ex} {y : Tr} : kCh3 C o' c env y (.ok false) = .ok (.im (.bl false)) := id rfl
theorem r_l0 {a b c d : Tr} : ixE (.lst [a, b, c, d]) (.int 0) = .ok a := id rfl
theorem r_l1 {a b c d : Tr} : ixE (.lst [a, b, c, d]) (.int 1) = .ok b := id rfl
theorem r_l2 {a b c d : Tr} : ixE (.lst [a, b, c, d]) (.int 2) = .ok c := id rfl
theorem r_l3 {a b c d : Tr} : ixE (.lst [a, b, c, d]) (.int 3) = .ok d := id rfl
theorem r_t2 {a b c : Tr} : ixE (.tup [a, b, c]) (.int 2) = .ok c := id rfl
theorem r_cat1 {a b c d : Tr} : opE .add (.ow [a, b]) (.ow [c, d]) = .ok (.ow [a, b, c, d]) := id rfl
theorem r_cat2 {a b c d e f : Tr} : opE .add (.ow [a, b, c, d]) (.ow [e, f]) = .ok (.ow [a, b, c, d, e, f]) := id rfl
theorem r_lis {xs : List Tr} : bltE .list [.im (.tup xs)] = .ok (.ow xs) := id rfl
theorem eq_mv {t f a b c d t' f' a' b' c' d' : Int} : Tr.eq (.tup [.int t, .int f, .tup [.tup [.int a, .int b], .tup [.int c, .int d]]]) (.tup [.int t', .int f', .tup [.tup [.int a', .int b'], .tup [.int c', .int d']]]) =
    .ok (decide (t = t') && (decide (f = f') && (decide (a = a') && decide (b = b') && (decide (c = c') && decide (d = d'))))) := by
  have h : Tr.eq (.tup [.int t, .int f, .tup [.tup [.int a, .int b], .tup [.int c, .int d]]]) (.tup [.int t', .int f', .tup [.tup [.int a', .int b'], .tup [.int c', .int d']]]) =
    .ok (decide (t = t') && (decide (f = f') && (((decide (a = a') && (decide (b = b') && true)) && ((decide (c = c') && (decide (d = d') && true)) && true)) && true))) := rfl
  rw [h]
  simp only [Bool.and_true]
theorem cmp_mv {t f a b c d t' f' a' b' c' d' : Int} : cmpE .eq (.tup [.int t, .int f, .tup [.tup [.int a, .int b], .tup [.int c, .int d]]]) (.tup [.int t', .int f', .tup [.tup [.int a', .int b'], .tup [.int c', .int d']]]) =
    .ok (decide (t = t') && (decide (f = f') && (decide (a = a') && decide (b = b') && (decide (c = c') && decide (d = d'))))) := eq_mv
theorem cmp_nmv {t f a b c d t' f' a' b' c' d' : Int} : cmpE .ne (.tup [.int t, .int f, .tup [.tup [.int a, .int b], .tup [.int c, .int d]]]) (.tup [.int t', .int f', .tup [.tup [.int a', .int b'], .tup [.int c', .int d']]]) =
    .ok (!(decide (t = t') && (decide (f = f') && (decide (a = a') && decide (b = b') && (decide (c = c') && decide (d = d')))))) := by
  unfold cmpE
  simp only [eq_mv, Oc.ok_bind]
theorem lc4 {e : Ex} {s0 s1 s2 s3 s4 : Sl} {y0 y1 y2 y3 : Tr} (h0 : ev C e [s0, s1, s2, s3, .im (.int 0)] = .ok (.im y0)) (h1 : ev C e [s0, s1, s2, s3, .im (.int 1)] = .ok (.im y1)) (h2 : ev C e [s0, s1, s2, s3, .im (.int 2)] = .ok (.im y2)) (h3 : ev C e [s0, s1, s2, s3, .im (.int 3)] = .ok (.im y3)) :
    ev C (.lc (.nm 4) (.rng1 (.int 4)) [] e [4]) [s0, s1, s2, s3, s4] = .ok (.ow [y0, y1, y2, y3]) := by
  have r : rangeT 0 4 = [.int 0, .int 1, .int 2, .int 3] := rfl
  have f : ∀ x, (bindTg (.nm 4) x (wipeE [s0, s1, s2, s3, s4] [4])) = .ok [s0, s1, s2, s3, .im x] := fun x => rfl
  rw [show ev C (.lc (.nm 4) (.rng1 (.int 4)) [] e [4]) [s0, s1, s2, s3, s4] = (evIt C (.rng1 (.int 4)) [s0, s1, s2, s3, s4] >>= fun xs => (lcGo (fun x => (bindTg (.nm 4) x (wipeE [s0, s1, s2, s3, s4] [4]) >>= fun env' => evc C [] env' >>= fun k => if k then ev C e env' >>= Rs.fz >>= fun y => .ok (some y) else .ok none).noex) xs) >>= fun ys => if sizeOk (xs.length + 1) then .ok (.ow ys) else .no) from rfl]
  rw [show evIt C (.rng1 (.int 4)) [s0, s1, s2, s3, s4] = .ok (rangeT 0 4) from rfl, Oc.ok_bind, r]
  simp only [lcGo, f, Oc.ok_bind, evc, h0, h1, h2, h3, Rs.fz, Oc.noex, if_true]
  rfl
end
end PF

namespace PF
open PySem PySem.Spec PyProof.Rows L2 PySem.HandSPX
open Builtin.Int (intBits)
/-! ### signs, in plain Lean -/
def sgn (x : Int) : Int := (if decide (0 < x) = true then 1 else 0) - (if decide (x < 0) = true then 1 else 0)
theorem sgn_p {x : Int} (h : 0 < x) : sgn x = 1 := by
  unfold sgn
  rw [if_pos (decide_eq_true h), if_neg (by rw [decide_eq_true_eq]; omega)]; rfl
theorem sgn_n {x : Int} (h : x < 0) : sgn x = -1 := by
  unfold sgn
  rw [if_neg (by rw [decide_eq_true_eq]; omega), if_pos (decide_eq_true h)]; rfl
theorem sgn_0 : sgn 0 = 0 := rfl
theorem sgn_neg {x : Int} : sgn (-x) = -sgn x := by
  rcases Int.lt_trichotomy x 0 with h | h | h
  · rw [sgn_n h, sgn_p (by omega)]; rfl
  · subst h; rfl
  · rw [sgn_p h, sgn_n (by omega)]
theorem sgn_z {x : Int} : sgn x = 0 ↔ x = 0 := by
  rcases Int.lt_trichotomy x 0 with h | h | h
  · rw [sgn_n h]; omega
  · subst h; simp [sgn_0]
  · rw [sgn_p h]; omega
theorem bits_sgn (x : Int) : intBits (sgn x) ≤ 2 := by
  rcases Int.lt_trichotomy x 0 with h | h | h
  · rw [sgn_n h]; decide
  · subst h; decide
  · rw [sgn_p h]; decide
def rsg (o p u : Int) : Int := if 0 ≤ sgn o * sgn p then sgn (sgn o + sgn p) else if p * p * u < o * o then sgn o else sgn p
def ab (m b x : Int) : Bool := if m = 8 then decide (2 * b * b < x * x) else if m = 12 then decide (3 * b * b < x * x) else decide (b * b + x * b < x * x)
def sr (m b : Int) : Nat → Int → Int → Int
  | 0, lo, _ => lo
  | n + 1, lo, hi => if 1 < hi - lo then if ab m b ((lo + hi) / 2) = true then sr m b n lo ((lo + hi) / 2) else sr m b n ((lo + hi) / 2) hi else lo
theorem sr_ok {m b : Int} : ∀ (n : Nat) (lo hi : Int), hi - lo ≤ 2 ^ n → ab m b lo = false → ab m b hi = true → lo < hi → ab m b (sr m b n lo hi) = false ∧ ab m b (sr m b n lo hi + 1) = true ∧ lo ≤ sr m b n lo hi ∧ sr m b n lo hi < hi
  | 0, lo, hi, h, h0, h1, hl => by
    have e : hi = lo + 1 := by
      have : (2 : Int) ^ 0 = 1 := rfl
      omega
    subst e
    exact ⟨h0, h1, Int.le_refl _, hl⟩
  | n + 1, lo, hi, h, h0, h1, hl => by
    have e : (2 : Int) ^ (n + 1) = 2 * 2 ^ n := by rw [Int.pow_succ, Int.mul_comm]
    rw [e] at h
    unfold sr
    by_cases hc : 1 < hi - lo
    · rw [if_pos hc]
      have b1 : hi - (lo + hi) / 2 ≤ 2 ^ n := by
        generalize (2 : Int) ^ n = P at h
        omega
      have b2 : (lo + hi) / 2 - lo ≤ 2 ^ n := by
        generalize (2 : Int) ^ n = P at h
        omega
      by_cases ha : ab m b ((lo + hi) / 2) = true
      · rw [if_pos ha]
        obtain ⟨c1, c2, c3, c4⟩ := sr_ok n lo ((lo + hi) / 2) b2 h0 ha (by omega)
        exact ⟨c1, c2, c3, by omega⟩
      · rw [if_neg ha]
        obtain ⟨c1, c2, c3, c4⟩ := sr_ok n ((lo + hi) / 2) hi b1 (by simpa using ha) h1 (by omega)
        exact ⟨c1, c2, by omega, c4⟩
    · rw [if_neg hc]
      have e : hi = lo + 1 := by omega
      subst e
      exact ⟨h0, h1, Int.le_refl _, hl⟩
def Ir (m : Int) : Prop := m = 8 ∨ m = 10 ∨ m = 12
theorem ab_mono {m b x y : Int} (hm : Ir m) (hb : 0 ≤ b) (hx : 0 ≤ x) (hy : x ≤ y) (h : ab m b x = true) : ab m b y = true := by
  have sq : x * x ≤ y * y := Int.mul_le_mul hy hy hx (by omega)
  rcases hm with rfl | rfl | rfl
  · have h : decide (2 * b * b < x * x) = true := h
    show decide (2 * b * b < y * y) = true
    rw [decide_eq_true_eq] at h ⊢
    omega
  · have h : decide (b * b + x * b < x * x) = true := h
    show decide (b * b + y * b < y * y) = true
    rw [decide_eq_true_eq] at h ⊢
    have bb : 0 ≤ b * b := Int.mul_nonneg hb hb
    have e : x * x - x * b = x * (x - b) := (Int.mul_sub ..).symm
    have e2 : y * y - y * b = y * (y - b) := (Int.mul_sub ..).symm
    have hxb : 0 < x - b := by
      rcases (show 0 < x - b ∨ x - b ≤ 0 by omega) with z | z
      · exact z
      · exfalso
        have : x * (x - b) ≤ 0 := Int.mul_nonpos_of_nonneg_of_nonpos hx z
        omega
    have q : x * (x - b) ≤ y * (y - b) := Int.mul_le_mul hy (by omega) (by omega) (by omega)
    omega
  · have h : decide (3 * b * b < x * x) = true := h
    show decide (3 * b * b < y * y) = true
    rw [decide_eq_true_eq] at h ⊢
    omega
def flo (m b : Int) : Int := sr m b (intBits b + 1) 0 (2 * b + 1)
theorem two_b {b : Int} (hb : 0 ≤ b) : 2 * b + 1 - 0 ≤ 2 ^ (intBits b + 1) := by
  have h := intBits_le_iff.mp (Nat.le_refl (intBits b))
  have e : (2 : Int) ^ (intBits b + 1) = 2 * 2 ^ intBits b := by rw [Int.pow_succ, Int.mul_comm]
  have e2 : ((2 ^ intBits b : Nat) : Int) = (2 : Int) ^ intBits b := by simp
  rw [e, ← e2]
  omega
theorem flo_ok {m b : Int} (hm : Ir m) (hb : 0 ≤ b) : ab m b (flo m b) = false ∧ ab m b (flo m b + 1) = true ∧ 0 ≤ flo m b ∧ flo m b < 2 * b + 1 := by
  have bb : 0 ≤ b * b := Int.mul_nonneg hb hb
  refine sr_ok _ _ _ (two_b hb) ?_ ?_ (by omega)
  · rcases hm with rfl | rfl | rfl
    · show decide (2 * b * b < 0 * 0) = false
      rw [decide_eq_false_iff_not]
      have : 2 * b * b = 2 * (b * b) := Int.mul_assoc ..
      omega
    · show decide (b * b + 0 * b < 0 * 0) = false
      rw [decide_eq_false_iff_not]
      omega
    · show decide (3 * b * b < 0 * 0) = false
      rw [decide_eq_false_iff_not]
      have : 3 * b * b = 3 * (b * b) := Int.mul_assoc ..
      omega
  · have e : (2 * b + 1) * (2 * b + 1) = 4 * (b * b) + 4 * b + 1 := by grind
    rcases hm with rfl | rfl | rfl
    · show decide (2 * b * b < (2 * b + 1) * (2 * b + 1)) = true
      rw [decide_eq_true_eq, e]
      have : 2 * b * b = 2 * (b * b) := Int.mul_assoc ..
      omega
    · show decide (b * b + (2 * b + 1) * b < (2 * b + 1) * (2 * b + 1)) = true
      rw [decide_eq_true_eq, e]
      have : (2 * b + 1) * b = 2 * (b * b) + b := by grind
      omega
    · show decide (3 * b * b < (2 * b + 1) * (2 * b + 1)) = true
      rw [decide_eq_true_eq, e]
      have : 3 * b * b = 3 * (b * b) := Int.mul_assoc ..
      omega
theorem flo_le {m b x : Int} (hm : Ir m) (hb : 0 ≤ b) (hx : 0 ≤ x) : x ≤ flo m b ↔ ab m b x = false := by
  obtain ⟨h1, h2, h3, h4⟩ := flo_ok hm hb
  constructor
  · intro h
    cases e : ab m b x with
    | false => rfl
    | true => rw [ab_mono hm hb hx h e] at h1; cases h1
  · intro h
    rcases (show flo m b < x ∨ x ≤ flo m b by omega) with z | z
    · rw [ab_mono hm hb (by omega) (show flo m b + 1 ≤ x by omega) h2] at h
      cases h
    · exact z
def dpo (m a b : Int) : Int := if 0 ≤ a + flo m b then 1 else -1
def dsg (m a b : Int) : Int := if m < 8 ∨ b = 0 then sgn a else if b < 0 then -dpo m (-a) (-b) else dpo m a b
def sg (m a b : Int) : Int := if m < 8 then sgn a else if m = 10 then rsg (2 * a + b) b 5 else rsg a b (if m = 8 then 2 else 3)
theorem rsg_0 {o u : Int} : rsg o 0 u = sgn o := by
  unfold rsg
  rw [sgn_0, Int.mul_zero, if_pos (Int.le_refl _), Int.add_zero]
  rcases Int.lt_trichotomy o 0 with h | h | h
  · rw [sgn_n h]; rfl
  · subst h; rfl
  · rw [sgn_p h]; rfl
theorem rsg_pp {o p u : Int} (h : 0 ≤ o) (hp : 0 < p) : rsg o p u = 1 := by
  unfold rsg
  rw [sgn_p hp]
  rcases Int.lt_or_eq_of_le h with h | h
  · rw [sgn_p h]; rfl
  · subst h; rfl
theorem rsg_np {o p u : Int} (h : o < 0) (hp : 0 < p) : rsg o p u = if p * p * u < o * o then -1 else 1 := by
  unfold rsg
  rw [sgn_p hp, sgn_n h]
  rfl
theorem rsg_neg {o p u : Int} : rsg (-o) (-p) u = -rsg o p u := by
  unfold rsg
  rw [sgn_neg, sgn_neg, Int.neg_mul_neg, Int.neg_mul_neg, Int.neg_mul_neg]
  split
  · rw [show -sgn o + -sgn p = -(sgn o + sgn p) by omega, sgn_neg]
  · split <;> rfl
theorem sg_neg {m a b : Int} : sg m (-a) (-b) = -sg m a b := by
  unfold sg
  split
  · exact sgn_neg
  · split
    · rw [show 2 * -a + -b = -(2 * a + b) by omega, rsg_neg]
    · exact rsg_neg
theorem sg_pos {m a b : Int} (hm : Ir m) (hb : 0 < b) : sg m a b = dpo m a b := by
  obtain ⟨_, _, f0, _⟩ := flo_ok hm (show 0 ≤ b by omega)
  by_cases ha : 0 ≤ a
  · have e : dpo m a b = 1 := if_pos (by omega)
    rw [e]
    rcases hm with rfl | rfl | rfl
    · exact rsg_pp ha hb
    · exact rsg_pp (by omega) hb
    · exact rsg_pp ha hb
  · have fl := flo_le (x := -a) hm (show 0 ≤ b by omega) (by omega)
    have e : dpo m a b = if ab m b (-a) = false then 1 else -1 := by
      unfold dpo
      by_cases h : 0 ≤ a + flo m b
      · rw [if_pos h, if_pos (fl.mp (by omega))]
      · rw [if_neg h, if_neg (fun z => h (by have := fl.mpr z; omega))]
    rw [e]
    rcases hm with rfl | rfl | rfl
    · show rsg a b 2 = if decide (2 * b * b < -a * -a) = false then 1 else -1
      rw [rsg_np (by omega) hb, Int.neg_mul_neg]
      have e1 : 2 * b * b = 2 * (b * b) := Int.mul_assoc ..
      by_cases h : b * b * 2 < a * a
      · rw [if_pos h, if_neg (by rw [decide_eq_false_iff_not]; omega)]
      · rw [if_neg h, if_pos (by rw [decide_eq_false_iff_not]; omega)]
    · show rsg (2 * a + b) b 5 = if decide (b * b + -a * b < -a * -a) = false then 1 else -1
      rw [Int.neg_mul_neg]
      by_cases ho : 0 ≤ 2 * a + b
      · rw [rsg_pp ho hb, if_pos]
        rw [decide_eq_false_iff_not]
        have q : -a * -a ≤ -a * b := Int.mul_le_mul_of_nonneg_left (by omega) (by omega)
        rw [Int.neg_mul_neg] at q
        have bb : 0 ≤ b * b := Int.mul_nonneg (by omega) (by omega)
        omega
      · rw [rsg_np (by omega) hb]
        have e1 : (2 * a + b) * (2 * a + b) = 4 * (a * a) + 4 * (a * b) + b * b := by grind
        have e2 : -a * b = -(a * b) := Int.neg_mul ..
        rw [e1, e2]
        by_cases h : b * b * 5 < 4 * (a * a) + 4 * (a * b) + b * b
        · rw [if_pos h, if_neg (by rw [decide_eq_false_iff_not]; omega)]
        · rw [if_neg h, if_pos (by rw [decide_eq_false_iff_not]; omega)]
    · show rsg a b 3 = if decide (3 * b * b < -a * -a) = false then 1 else -1
      rw [rsg_np (by omega) hb, Int.neg_mul_neg]
      have e1 : 3 * b * b = 3 * (b * b) := Int.mul_assoc ..
      by_cases h : b * b * 3 < a * a
      · rw [if_pos h, if_neg (by rw [decide_eq_false_iff_not]; omega)]
      · rw [if_neg h, if_pos (by rw [decide_eq_false_iff_not]; omega)]
theorem sg_dsg {m a b : Int} (hm : Sz m) (h : m < 8 → b = 0) : sg m a b = dsg m a b := by
  unfold dsg
  by_cases h8 : m < 8
  · rw [if_pos (.inl h8)]
    exact if_pos h8
  · have hi : Ir m := by unfold Sz at hm; unfold Ir; omega
    by_cases h0 : b = 0
    · rw [if_pos (.inr h0)]
      subst h0
      unfold sg
      rw [if_neg h8]
      split
      · rw [rsg_0, Int.add_zero]
        rcases Int.lt_trichotomy a 0 with z | z | z
        · rw [sgn_n z, sgn_n (by omega)]
        · subst z; rfl
        · rw [sgn_p z, sgn_p (by omega)]
      · exact rsg_0
    · rw [if_neg (by omega)]
      by_cases hn : b < 0
      · rw [if_pos hn, ← sg_pos hi (by omega), sg_neg, Int.neg_neg]
      · rw [if_neg hn, sg_pos hi (by omega)]
theorem dsg_0 {m a b : Int} (h : m < 8 → b = 0) : dsg m a b = 0 ↔ a = 0 ∧ b = 0 := by
  unfold dsg
  by_cases h8 : m < 8 ∨ b = 0
  · have e : b = 0 := h8.elim h id
    rw [if_pos h8, sgn_z]
    exact ⟨fun z => ⟨z, e⟩, fun z => z.1⟩
  · rw [if_neg h8]
    unfold dpo
    have hb : ¬ b = 0 := fun z => h8 (.inr z)
    constructor
    · intro z
      exfalso
      split at z <;> split at z <;> omega
    · intro z
      exact absurd z.2 hb
theorem whl_go {c : List Sl → Oc Bool} {f : List Sl → Oc Fl} {N : Nat} {env e : List Sl} (h1 : c env = .ok true) (h2 : f env = .ok (.nx e)) : whlGo c f (N + 1) env = whlGo c f N e := by
  rw [whlGo, h1, Oc.ok_bind, if_pos rfl, h2]
  rfl
theorem whl_end {c : List Sl → Oc Bool} {f : List Sl → Oc Fl} {N : Nat} {env : List Sl} (h1 : c env = .ok false) : whlGo c f (N + 1) env = .ok (.nx env) := by
  rw [whlGo, h1]
  rfl
theorem r_30 {a b c : Tr} : ixE (.lst [a, b, c]) (.int 0) = .ok a := id rfl
theorem r_31 {a b c : Tr} : ixE (.lst [a, b, c]) (.int 1) = .ok b := id rfl
theorem r_32 {a b c : Tr} : ixE (.lst [a, b, c]) (.int 2) = .ok c := id rfl
end PF

namespace PF
open PySem PySem.Spec PyProof.Rows L2 PySem.HandSPX
open Builtin.Int (intBits)
/-! ### signs of products and sums, in plain Lean -/
theorem sgn_mul {x y : Int} : sgn (x * y) = sgn x * sgn y := by
  rcases Int.lt_trichotomy x 0 with h | h | h <;> rcases Int.lt_trichotomy y 0 with h2 | h2 | h2
  · rw [sgn_n h, sgn_n h2, sgn_p (Int.mul_pos_of_neg_of_neg h h2)]; rfl
  · subst h2; rw [Int.mul_zero, sgn_0, Int.mul_zero]
  · rw [sgn_n h, sgn_p h2, sgn_n (Int.mul_neg_of_neg_of_pos h h2)]; rfl
  · subst h; rw [Int.zero_mul, sgn_0, Int.zero_mul]
  · subst h; rw [Int.zero_mul, sgn_0, Int.zero_mul]
  · subst h; rw [Int.zero_mul, sgn_0, Int.zero_mul]
  · rw [sgn_p h, sgn_n h2, sgn_n (Int.mul_neg_of_pos_of_neg h h2)]; rfl
  · subst h2; rw [Int.mul_zero, sgn_0, Int.mul_zero]
  · rw [sgn_p h, sgn_p h2, sgn_p (Int.mul_pos h h2)]; rfl
/-- a greater square tells the sign of a sum -/
theorem sgn_dom {a b : Int} (h : b * b < a * a) : sgn (a + b) = sgn a := by
  have e : (a + b) * (a - b) = a * a - b * b := by grind
  rcases Int.lt_trichotomy a 0 with z | z | z
  · rw [sgn_n z, sgn_n]
    by_cases q : a + b < 0
    · exact q
    · exfalso
      have : (a + b) * (a - b) ≤ 0 := Int.mul_nonpos_of_nonneg_of_nonpos (by omega) (by omega)
      omega
  · subst z
    have : 0 ≤ b * b := by
      rcases (show 0 ≤ b ∨ b ≤ 0 by omega) with q | q
      · exact Int.mul_nonneg q q
      · exact Int.mul_nonneg_of_nonpos_of_nonpos q q
    omega
  · rw [sgn_p z, sgn_p]
    by_cases q : 0 < a + b
    · exact q
    · exfalso
      have : (a + b) * (a - b) ≤ 0 := Int.mul_nonpos_of_nonpos_of_nonneg (by omega) (by omega)
      omega
theorem sq0 (b : Int) : 0 ≤ b * b := by
  rcases (show 0 ≤ b ∨ b ≤ 0 by omega) with q | q
  · exact Int.mul_nonneg q q
  · exact Int.mul_nonneg_of_nonpos_of_nonpos q q
theorem sq_pos {b : Int} (h : b ≠ 0) : 0 < b * b := by
  rcases (show 0 < b ∨ b < 0 by omega) with q | q
  · exact Int.mul_pos q q
  · exact Int.mul_pos_of_neg_of_neg q q
/-- the sign of x + y sqrt D -/
def sD (D x y : Int) : Int := if D * (y * y) < x * x then sgn x else sgn y
theorem rsg_sD {D x y : Int} (hD : 0 < D) : rsg x y D = sD D x y := by
  unfold rsg sD
  have e : y * y * D = D * (y * y) := Int.mul_comm ..
  rw [e]
  rcases Int.lt_trichotomy x 0 with h | h | h <;> rcases Int.lt_trichotomy y 0 with h2 | h2 | h2
  · rw [sgn_n h, sgn_n h2, if_pos (show (0 : Int) ≤ -1 * -1 by decide), ite_self]; rfl
  · subst h2
    have : 0 < x * x := sq_pos (by omega)
    rw [sgn_n h, sgn_0, if_pos (by decide), if_pos (by omega)]; rfl
  · rw [sgn_n h, sgn_p h2, if_neg (by decide)]
  · subst h
    have : 0 < y * y := sq_pos (by omega)
    have q : 0 < D * (y * y) := Int.mul_pos hD this
    rw [sgn_0, sgn_n h2, if_pos (by decide), if_neg (by omega)]; rfl
  · subst h h2; rw [ite_self]; rfl
  · subst h
    have : 0 < y * y := sq_pos (by omega)
    have q : 0 < D * (y * y) := Int.mul_pos hD this
    rw [sgn_0, sgn_p h2, if_pos (by decide), if_neg (by omega)]; rfl
  · rw [sgn_p h, sgn_n h2, if_neg (by decide)]
  · subst h2
    have : 0 < x * x := sq_pos (by omega)
    rw [sgn_p h, sgn_0, if_pos (by decide), if_pos (by omega)]; rfl
  · rw [sgn_p h, sgn_p h2, if_pos (show (0 : Int) ≤ 1 * 1 by decide), ite_self]; rfl
def Pr (D : Int) : Prop := D = 2 ∨ D = 3 ∨ D = 5
theorem pr_dvd {D x y : Int} (hD : Pr D) (h : x * x = D * y) : ∃ q, x = D * q := by
  rcases hD with rfl | rfl | rfl
  · refine ⟨x / 2, ?_⟩
    have e : x = 2 * (x / 2) + x % 2 := by omega
    generalize x / 2 = q at e ⊢
    generalize hr : x % 2 = r at e
    have r2 : r = 0 ∨ r = 1 := by omega
    rcases r2 with rfl | rfl
    · omega
    · exfalso
      have : x * x = 2 * (2 * (q * q) + 2 * q) + 1 := by rw [e]; grind
      omega
  · refine ⟨x / 3, ?_⟩
    have e : x = 3 * (x / 3) + x % 3 := by omega
    generalize x / 3 = q at e ⊢
    generalize hr : x % 3 = r at e
    have r2 : r = 0 ∨ r = 1 ∨ r = 2 := by omega
    rcases r2 with rfl | rfl | rfl
    · omega
    · exfalso
      have : x * x = 3 * (3 * (q * q) + 2 * q) + 1 := by rw [e]; grind
      omega
    · exfalso
      have : x * x = 3 * (3 * (q * q) + 4 * q + 1) + 1 := by rw [e]; grind
      omega
  · refine ⟨x / 5, ?_⟩
    have e : x = 5 * (x / 5) + x % 5 := by omega
    generalize x / 5 = q at e ⊢
    generalize hr : x % 5 = r at e
    have r2 : r = 0 ∨ r = 1 ∨ r = 2 ∨ r = 3 ∨ r = 4 := by omega
    rcases r2 with rfl | rfl | rfl | rfl | rfl
    · omega
    · exfalso
      have : x * x = 5 * (5 * (q * q) + 2 * q) + 1 := by rw [e]; grind
      omega
    · exfalso
      have : x * x = 5 * (5 * (q * q) + 4 * q) + 4 := by rw [e]; grind
      omega
    · exfalso
      have : x * x = 5 * (5 * (q * q) + 6 * q + 1) + 4 := by rw [e]; grind
      omega
    · exfalso
      have : x * x = 5 * (5 * (q * q) + 8 * q + 3) + 1 := by rw [e]; grind
      omega
theorem irr {D : Int} (hD : Pr D) : ∀ (n : Nat) (x y : Int), x.natAbs ≤ n → x * x = D * (y * y) → x = 0 ∧ y = 0 := by
  have d0 : 0 < D := by unfold Pr at hD; omega
  intro n
  induction n with
  | zero =>
    intro x y hx h
    have : x = 0 := by omega
    subst this
    refine ⟨rfl, ?_⟩
    by_cases hy : y = 0
    · exact hy
    · exfalso
      have q := Int.mul_pos d0 (sq_pos hy)
      omega
  | succ n ih =>
    intro x y hx h
    obtain ⟨q, rfl⟩ := pr_dvd hD h
    have h2 : y * y = D * (q * q) := by
      have : D * (D * (q * q)) = D * (y * y) := by rw [← h]; grind
      exact (Int.eq_of_mul_eq_mul_left (by omega) this).symm
    obtain ⟨p, rfl⟩ := pr_dvd hD h2
    have h3 : q * q = D * (p * p) := by
      have : D * (D * (p * p)) = D * (q * q) := by rw [← h2]; grind
      exact (Int.eq_of_mul_eq_mul_left (by omega) this).symm
    by_cases hq : q = 0
    · subst hq
      have : D * p = 0 ∧ True := ⟨by
        by_cases hp : p = 0
        · subst hp; exact Int.mul_zero _
        · exfalso
          have q := Int.mul_pos d0 (sq_pos hp)
          omega, trivial⟩
      exact ⟨Int.mul_zero _, this.1⟩
    · have hs : q.natAbs ≤ n := by
        have e : (D * q).natAbs = D.natAbs * q.natAbs := Int.natAbs_mul ..
        have e2 : 2 ≤ D.natAbs := by unfold Pr at hD; omega
        have e3 : 2 * q.natAbs ≤ D.natAbs * q.natAbs := Nat.mul_le_mul_right _ e2
        omega
      obtain ⟨z, _⟩ := ih q p hs h3
      exact absurd z hq
theorem mul_lt2 {a b c d : Int} (ha : 0 ≤ a) (hc : 0 ≤ c) (h : a < b) (h2 : c < d) : a * c < b * d := by
  have e1 : a * c ≤ b * c := Int.mul_le_mul_of_nonneg_right (by omega) hc
  have e2 : b * c < b * d := Int.mul_lt_mul_of_pos_left h2 (by omega)
  omega
theorem sD_0 {D : Int} : sD D 0 0 = 0 := by
  unfold sD
  rw [sgn_0, ite_self]
theorem sD_gt {D x y : Int} (h : D * (y * y) < x * x) : sD D x y = sgn x := if_pos h
theorem sD_lt {D x y : Int} (h : x * x < D * (y * y)) : sD D x y = sgn y := if_neg (by omega)
theorem sD_mul {D x y u v : Int} (hD : Pr D) : sD D (x * u + D * (y * v)) (x * v + y * u) = sD D x y * sD D u v := by
  have d0 : 0 < D := by unfold Pr at hD; omega
  have nm : (x * u + D * (y * v)) * (x * u + D * (y * v)) - D * ((x * v + y * u) * (x * v + y * u)) = (x * x - D * (y * y)) * (u * u - D * (v * v)) := by grind
  have y0 : 0 ≤ D * (y * y) := Int.mul_nonneg (by omega) (sq0 y)
  have v0 : 0 ≤ D * (v * v) := Int.mul_nonneg (by omega) (sq0 v)
  have x0 := sq0 x
  have u0 := sq0 u
  have can : ∀ {a b : Int}, D * a < D * b → a < b := fun {a b} h => Int.lt_of_mul_lt_mul_left h (by omega)
  rcases (show D * (y * y) < x * x ∨ x * x = D * (y * y) ∨ x * x < D * (y * y) by omega) with h1 | h1 | h1
  · rcases (show D * (v * v) < u * u ∨ u * u = D * (v * v) ∨ u * u < D * (v * v) by omega) with h2 | h2 | h2
    · have p := Int.mul_pos (show 0 < x * x - D * (y * y) by omega) (show 0 < u * u - D * (v * v) by omega)
      rw [sD_gt h1, sD_gt h2, sD_gt (by omega), sgn_dom, sgn_mul]
      have q := mul_lt2 y0 v0 h1 h2
      have e1 : D * (y * v) * (D * (y * v)) = D * (y * y) * (D * (v * v)) := by grind
      have e2 : x * u * (x * u) = x * x * (u * u) := by grind
      omega
    · obtain ⟨rfl, rfl⟩ := irr hD u.natAbs u v (Nat.le_refl _) h2
      simp only [Int.mul_zero, Int.add_zero, sD_0]
    · have p := Int.mul_neg_of_pos_of_neg (show 0 < x * x - D * (y * y) by omega) (show u * u - D * (v * v) < 0 by omega)
      rw [sD_gt h1, sD_lt h2, sD_lt (by omega), sgn_dom, sgn_mul]
      have q := mul_lt2 y0 u0 h1 h2
      have e1 : D * (y * y) * (u * u) = D * (y * u * (y * u)) := by grind
      have e2 : x * x * (D * (v * v)) = D * (x * v * (x * v)) := by grind
      exact can (by omega)
  · obtain ⟨rfl, rfl⟩ := irr hD x.natAbs x y (Nat.le_refl _) h1
    simp only [Int.zero_mul, Int.mul_zero, Int.add_zero, sD_0]
  · rcases (show D * (v * v) < u * u ∨ u * u = D * (v * v) ∨ u * u < D * (v * v) by omega) with h2 | h2 | h2
    · have p := Int.mul_neg_of_neg_of_pos (show x * x - D * (y * y) < 0 by omega) (show 0 < u * u - D * (v * v) by omega)
      rw [sD_lt h1, sD_gt h2, sD_lt (by omega), Int.add_comm, sgn_dom, sgn_mul]
      have q := mul_lt2 x0 v0 h1 h2
      have e1 : x * x * (D * (v * v)) = D * (x * v * (x * v)) := by grind
      have e2 : D * (y * y) * (u * u) = D * (y * u * (y * u)) := by grind
      exact can (by omega)
    · obtain ⟨rfl, rfl⟩ := irr hD u.natAbs u v (Nat.le_refl _) h2
      simp only [Int.mul_zero, Int.add_zero, sD_0]
    · have p := Int.mul_pos_of_neg_of_neg (show x * x - D * (y * y) < 0 by omega) (show u * u - D * (v * v) < 0 by omega)
      rw [sD_lt h1, sD_lt h2, sD_gt (by omega), Int.add_comm, sgn_dom, sgn_mul, sgn_mul, sgn_p d0, Int.one_mul]
      have q := mul_lt2 x0 u0 h1 h2
      have e1 : D * (y * v) * (D * (y * v)) = D * (y * y) * (D * (v * v)) := by grind
      have e2 : x * u * (x * u) = x * x * (u * u) := by grind
      omega
theorem sgn_one {x : Int} : sgn x = 1 ↔ 0 < x := by
  rcases Int.lt_trichotomy x 0 with h | h | h
  · rw [sgn_n h]; omega
  · subst h; rw [sgn_0]; omega
  · rw [sgn_p h]; omega
/-- a whole number above 0, and one above 0 -/
theorem sD_addn {D n g h : Int} (hD : Pr D) (hn : 0 < n) (hp : sD D g h = 1) : sD D (n + g) h = 1 := by
  have h0 : 0 ≤ D * (h * h) := Int.mul_nonneg (by unfold Pr at hD; omega) (sq0 h)
  unfold sD at hp ⊢
  split at hp
  · rename_i q
    have g0 := sgn_one.mp hp
    have e : (n + g) * (n + g) = n * n + 2 * (n * g) + g * g := by grind
    have e1 := sq0 n
    have e2 := Int.mul_pos hn g0
    rw [if_pos (by omega)]
    exact sgn_one.mpr (by omega)
  · rename_i q
    split
    · rename_i q2
      refine sgn_one.mpr ?_
      by_cases z : 0 < n + g
      · exact z
      · exfalso
        have e : (n + g) * (n + g) = g * g + n * (n + g) + n * g := by grind
        have e1 : n * (n + g) ≤ 0 := Int.mul_nonpos_of_nonneg_of_nonpos (by omega) (by omega)
        have e2 : n * g ≤ 0 := Int.mul_nonpos_of_nonneg_of_nonpos (by omega) (by omega)
        omega
    · exact hp
theorem sD_conj {D x y : Int} (h : D * (y * y) < x * x) : sD D x (-y) = sgn x := by
  unfold sD
  rw [Int.neg_mul_neg, if_pos h]
theorem sD_add1 {D x y u v : Int} (hD : Pr D) (h : D * (y * y) < x * x) (h1 : sD D x y = 1) (h2 : sD D u v = 1) : sD D (x + u) (y + v) = 1 := by
  rw [sD_gt h] at h1
  have c : sD D x (-y) = 1 := by rw [sD_conj h, h1]
  have m1 := sD_mul (x := x) (y := -y) (u := u) (v := v) hD
  rw [c, h2] at m1
  have m2 := sD_mul (x := x) (y := -y) (u := x + u) (v := y + v) hD
  rw [c] at m2
  have a := sD_addn hD (show 0 < x * x - D * (y * y) by omega) m1
  have e1 : x * x - D * (y * y) + (x * u + D * (-y * v)) = x * (x + u) + D * (-y * (y + v)) := by grind
  have e2 : x * v + -y * u = x * (y + v) + -y * (x + u) := by grind
  rw [e1, e2, m2] at a
  omega
theorem sD_add {D x y u v : Int} (hD : Pr D) (h1 : sD D x y = 1) (h2 : sD D u v = 1) : sD D (x + u) (y + v) = 1 := by
  by_cases n1 : D * (y * y) < x * x
  · exact sD_add1 hD n1 h1 h2
  · by_cases n2 : D * (v * v) < u * u
    · rw [Int.add_comm x, Int.add_comm y]
      exact sD_add1 hD n2 h2 h1
    · have d0 : 0 < D := by unfold Pr at hD; omega
      have k1 : sgn y = 1 := by unfold sD at h1; rwa [if_neg n1] at h1
      have k2 : sgn v = 1 := by unfold sD at h2; rwa [if_neg n2] at h2
      have y0 := sgn_one.mp k1
      have v0 := sgn_one.mp k2
      have yv := Int.mul_pos d0 (Int.mul_pos y0 v0)
      have x0 := sq0 x
      have u0 := sq0 u
      unfold sD
      rw [if_neg]
      · exact sgn_one.mpr (by omega)
      · have e1 : (x + u) * (x + u) = x * x + u * u + 2 * (x * u) := by grind
        have e2 : D * ((y + v) * (y + v)) = D * (y * y) + D * (v * v) + 2 * (D * (y * v)) := by grind
        have q : x * u ≤ D * (y * v) := by
          by_cases z : x * u ≤ D * (y * v)
          · exact z
          · exfalso
            have q1 : D * (y * v) * (D * (y * v)) < x * u * (x * u) := mul_lt2 (by omega) (by omega) (by omega) (by omega)
            have q2 : x * x * (u * u) ≤ D * (y * y) * (D * (v * v)) := Int.mul_le_mul (by omega) (by omega) u0 (by omega)
            have e3 : D * (y * v) * (D * (y * v)) = D * (y * y) * (D * (v * v)) := by grind
            have e4 : x * u * (x * u) = x * x * (u * u) := by grind
            omega
        omega
theorem sD_two {D x y : Int} : sD D (2 * x) (2 * y) = sD D x y := by
  unfold sD
  have e1 : 2 * x * (2 * x) = 4 * (x * x) := by grind
  have e2 : D * (2 * y * (2 * y)) = 4 * (D * (y * y)) := by grind
  have s : ∀ z : Int, sgn (2 * z) = sgn z := fun z => by rw [sgn_mul, sgn_p (by decide), Int.one_mul]
  rw [e1, e2, s, s]
  by_cases h : D * (y * y) < x * x
  · rw [if_pos h, if_pos (by omega)]
  · rw [if_neg h, if_neg (by omega)]
theorem sg8 {a b : Int} : sg 8 a b = sD 2 a b := rsg_sD (by decide)
theorem sg12 {a b : Int} : sg 12 a b = sD 3 a b := rsg_sD (by decide)
theorem sg10 {a b : Int} : sg 10 a b = sD 5 (2 * a + b) b := rsg_sD (by decide)
theorem sg4 {a b : Int} : sg 4 a b = sgn a := rfl
theorem sg6 {a b : Int} : sg 6 a b = sgn a := rfl
theorem sg_mul {m a b c d : Int} (hm : Sz m) (h1 : m < 8 → b = 0) (h2 : m < 8 → d = 0) : sg m (mP m a b c d) (mR m a b c d) = sg m a b * sg m c d := by
  rcases hm with rfl | rfl | rfl | rfl | rfl
  · rw [sg4, sg4, sg4, ← sgn_mul]
    congr 1
    have e := h1 (by decide)
    subst e
    simp [mP]
  · rw [sg6, sg6, sg6, ← sgn_mul]
    congr 1
    have e := h1 (by decide)
    subst e
    simp [mP]
  · rw [sg8, sg8, sg8, ← sD_mul (.inl rfl)]
    congr 1
    unfold mR
    rw [show wB 8 = 0 from rfl]
    omega
  · rw [sg10, sg10, sg10, ← sD_mul (.inr (.inr rfl)), ← sD_two]
    unfold mP mR
    rw [show wA 10 = 1 from rfl, show wB 10 = 1 from rfl]
    congr 1 <;> grind
  · rw [sg12, sg12, sg12, ← sD_mul (.inr (.inl rfl))]
    congr 1
    unfold mR
    rw [show wB 12 = 0 from rfl]
    omega
theorem sg_add {m a b c d : Int} (hm : Sz m) (h1 : sg m a b = 1) (h2 : sg m c d = 1) : sg m (a + c) (b + d) = 1 := by
  rcases hm with rfl | rfl | rfl | rfl | rfl
  · rw [sg4] at h1 h2 ⊢
    rw [sgn_one] at h1 h2 ⊢
    omega
  · rw [sg6] at h1 h2 ⊢
    rw [sgn_one] at h1 h2 ⊢
    omega
  · rw [sg8] at h1 h2 ⊢
    exact sD_add (.inl rfl) h1 h2
  · rw [sg10] at h1 h2 ⊢
    rw [show 2 * (a + c) + (b + d) = 2 * a + b + (2 * c + d) by omega]
    exact sD_add (.inr (.inr rfl)) h1 h2
  · rw [sg12] at h1 h2 ⊢
    exact sD_add (.inr (.inl rfl)) h1 h2
theorem sgn_3 (x : Int) : sgn x = -1 ∨ sgn x = 0 ∨ sgn x = 1 := by
  rcases Int.lt_trichotomy x 0 with h | h | h
  · exact .inl (sgn_n h)
  · subst h; exact .inr (.inl rfl)
  · exact .inr (.inr (sgn_p h))
theorem dsg_3 (m a b : Int) : dsg m a b = -1 ∨ dsg m a b = 0 ∨ dsg m a b = 1 := by
  unfold dsg dpo
  split
  · exact sgn_3 a
  · split <;> split <;> simp
theorem sg_sum {m a b c d : Int} (hm : Sz m) (h1 : m < 8 → b = 0) (h2 : m < 8 → d = 0) (h : sg m a b = sg m c d) : sg m (a + c) (b + d) = sg m a b := by
  have e := sg_dsg (a := a) hm h1
  rcases dsg_3 m a b with z | z | z
  · have n1 : sg m (-a) (-b) = 1 := by rw [sg_neg, e, z]; rfl
    have n2 : sg m (-c) (-d) = 1 := by rw [sg_neg, ← h, e, z]; rfl
    have n3 := sg_add hm n1 n2
    rw [show -a + -c = -(a + c) by omega, show -b + -d = -(b + d) by omega, sg_neg] at n3
    omega
  · obtain ⟨rfl, rfl⟩ := (dsg_0 h1).mp z
    rw [Int.zero_add, Int.zero_add, ← h]
  · rw [e, z]
    exact sg_add hm (e.trans z) (h.symm.trans (e.trans z))
end PF

namespace PF
open PySem PySem.Spec PyProof.Rows L2 PySem.HandSPX
open Builtin.Int (intBits)
/-! ### ways and their crosses, in plain Lean -/
def wy (m t a b : Int) : Pt := tu m t ⟨a, b, 0, 0⟩
def z1 : Pt := ⟨1, 0, 0, 0⟩
/-- a number times a point -/
theorem scl_one {m a b : Int} : scl m z1 a b = ⟨a, b, 0, 0⟩ := by
  refine pt_eq ?_ ?_ ?_ ?_ <;> simp [scl, z1, mP, mR]
/-- the cross of two ways: lengths times the cross of 1 and the turn between -/
theorem c_wy {m t k a b c d : Int} (hm : Sz m) (hb : m < 8 → b = 0) (hd : m < 8 → d = 0) :
    cX m (wy m t a b) (wy m (t + k) c d) = cX m ⟨a, b, 0, 0⟩ (wy m k c d) ∧ cY m (wy m t a b) (wy m (t + k) c d) = cY m ⟨a, b, 0, 0⟩ (wy m k c d) := by
  have o1 : OkP m ⟨a, b, 0, 0⟩ := fun h => ⟨hb h, rfl⟩
  have o2 : OkP m ⟨c, d, 0, 0⟩ := fun h => ⟨hd h, rfl⟩
  have e : wy m (t + k) c d = tu m t (wy m k c d) := by
    unfold wy
    rw [tu_add hm o2, Int.add_comm]
  rw [e]
  exact c_it hm _ o1 o2.tu
theorem S_pos {m k : Int} (hm : Sz m) (h0 : 0 < k) (h1 : k < m / 2) : sg m (cX m z1 (wy m k 1 0)) (cY m z1 (wy m k 1 0)) = 1 := by
  rcases hm with rfl | rfl | rfl | rfl | rfl
  · have : k = 1 := by omega
    subst this; decide
  · have : k = 1 ∨ k = 2 := by omega
    rcases this with rfl | rfl <;> decide
  · have : k = 1 ∨ k = 2 ∨ k = 3 := by omega
    rcases this with rfl | rfl | rfl <;> decide
  · have : k = 1 ∨ k = 2 ∨ k = 3 ∨ k = 4 := by omega
    rcases this with rfl | rfl | rfl | rfl <;> decide
  · have : k = 1 ∨ k = 2 ∨ k = 3 ∨ k = 4 ∨ k = 5 := by omega
    rcases this with rfl | rfl | rfl | rfl | rfl <;> decide
theorem stp_scl {m a b : Int} {p : Pt} (hm : Sz m) (hp : OkP m p) (hb : m < 8 → b = 0) : stp m (scl m p a b) = scl m (stp m p) a b := by
  obtain ⟨x, y, u, v⟩ := p
  unfold OkP at hp
  simp only at hp
  rcases hm with rfl | rfl | rfl | rfl | rfl
  · obtain ⟨rfl, rfl⟩ := hp (by decide)
    obtain rfl := hb (by decide)
    refine pt_eq ?_ ?_ ?_ ?_ <;> simp only [stp, scl, mP, mR, Wp, Wq, wA, wB] <;> grind
  · obtain ⟨rfl, rfl⟩ := hp (by decide)
    obtain rfl := hb (by decide)
    refine pt_eq ?_ ?_ ?_ ?_ <;> simp only [stp, scl, mP, mR, Wp, Wq, wA, wB] <;> grind
  · refine pt_eq ?_ ?_ ?_ ?_ <;> simp only [stp, scl, mP, mR, Wp, Wq, wA, wB] <;> grind
  · refine pt_eq ?_ ?_ ?_ ?_ <;> simp only [stp, scl, mP, mR, Wp, Wq, wA, wB] <;> grind
  · refine pt_eq ?_ ?_ ?_ ?_ <;> simp only [stp, scl, mP, mR, Wp, Wq, wA, wB] <;> grind
theorem it_scl {m a b : Int} (hm : Sz m) (hb : m < 8 → b = 0) : ∀ (n : Nat) {p : Pt}, OkP m p → it m n (scl m p a b) = scl m (it m n p) a b
  | 0, p, h => rfl
  | n + 1, p, h => by rw [it1, it1, stp_scl hm h hb, it_scl hm hb n h.stp]
theorem wy_scl {m k a b : Int} (hm : Sz m) (hb : m < 8 → b = 0) : wy m k a b = scl m (wy m k 1 0) a b := by
  unfold wy tu
  rw [← scl_one (m := m) (a := a) (b := b), it_scl hm hb _ (fun _ => ⟨rfl, rfl⟩)]
  rfl
theorem c_scl2 {m a b : Int} {p q : Pt} : cX m p (scl m q a b) = mP m (cX m p q) (cY m p q) a b ∧ cY m p (scl m q a b) = mR m (cX m p q) (cY m p q) a b := by
  unfold cX cY scl mP mR
  constructor <;> grind
/-- the sign of the cross of two ways, the second turned on by k, 0 < k < m/2, both lengths above 0 -/
theorem wy_pos {m t k a b c d : Int} (hm : Sz m) (hb : m < 8 → b = 0) (hd : m < 8 → d = 0) (h0 : 0 < k) (h1 : k < m / 2) (pa : sg m a b = 1) (pc : sg m c d = 1) :
    sg m (cX m (wy m t a b) (wy m (t + k) c d)) (cY m (wy m t a b) (wy m (t + k) c d)) = 1 := by
  have oz : OkP m z1 := fun _ => ⟨rfl, rfl⟩
  have ow : OkP m (wy m k 1 0) := (show OkP m ⟨1, 0, 0, 0⟩ from fun _ => ⟨rfl, rfl⟩).tu
  obtain ⟨e1, e2⟩ := c_wy (t := t) (k := k) (a := a) (c := c) hm hb hd
  rw [e1, e2, wy_scl (a := c) hm hd, ← scl_one (m := m), c_scl2.1, c_scl2.2, c_scl.1, c_scl.2]
  have y0 : m < 8 → cY m z1 (wy m k 1 0) = 0 := cY_ok oz ow
  rw [sg_mul hm (mR_ok y0 hb) hd, sg_mul hm y0 hb, S_pos hm h0 h1, pa, pc]
  rfl
/-- q lies to the left of p -/
def Lf (m : Int) (p q : Pt) : Prop := sg m (cX m p q) (cY m p q) = 1
theorem c_add1 {m : Int} {p q t : Pt} : cX m (adP p q) t = cX m p t + cX m q t ∧ cY m (adP p q) t = cY m p t + cY m q t := by
  unfold cX cY mP mR adP
  constructor <;> grind
theorem c_ng1 {m : Int} {p q : Pt} : cX m (ngP p) q = -cX m p q ∧ cY m (ngP p) q = -cY m p q := by
  unfold cX cY mP mR ngP
  constructor <;> grind
theorem c_ng2 {m : Int} {p q : Pt} : cX m p (ngP q) = -cX m p q ∧ cY m p (ngP q) = -cY m p q := by
  unfold cX cY mP mR ngP
  constructor <;> grind
theorem Lf.add2 {m : Int} {p q t : Pt} (hm : Sz m) (h1 : Lf m p q) (h2 : Lf m p t) : Lf m p (adP q t) := by
  unfold Lf at h1 h2 ⊢
  rw [c_add.1, c_add.2]
  exact sg_add hm h1 h2
theorem Lf.add1 {m : Int} {p q t : Pt} (hm : Sz m) (h1 : Lf m p t) (h2 : Lf m q t) : Lf m (adP p q) t := by
  unfold Lf at h1 h2 ⊢
  rw [c_add1.1, c_add1.2]
  exact sg_add hm h1 h2
/-- a step of one's own changes nothing -/
theorem Lf.own2 {m : Int} {p q : Pt} (h : Lf m p q) : Lf m p (adP q p) := by
  unfold Lf at h ⊢
  rw [c_add.1, c_add.2, c_self.1, c_self.2, Int.add_zero, Int.add_zero]
  exact h
theorem Lf.rot {m : Int} {p q : Pt} (h : Lf m p q) : Lf m q (ngP p) := by
  unfold Lf at h ⊢
  rw [c_ng2.1, c_ng2.2, (c_swap (p := p) (q := q)).1, (c_swap (p := p) (q := q)).2, Int.neg_neg, Int.neg_neg]
  exact h
theorem Lf.ng {m : Int} {p q : Pt} (h : Lf m p q) : Lf m (ngP p) (ngP q) := by
  unfold Lf at h ⊢
  rw [c_ng1.1, c_ng1.2, c_ng2.1, c_ng2.2, Int.neg_neg, Int.neg_neg]
  exact h
theorem Lf.wy {m t k a b c d : Int} (hm : Sz m) (hb : m < 8 → b = 0) (hd : m < 8 → d = 0) (h0 : 0 < k) (h1 : k < m / 2) (pa : sg m a b = 1) (pc : sg m c d = 1) : Lf m (wy m t a b) (wy m (t + k) c d) := wy_pos hm hb hd h0 h1 pa pc
end PF

namespace PF
open PySem PySem.Spec PyProof.Rows L2 PySem.HandSPX
open Builtin.Int (intBits)
/-! ### signs by thirty figures, in plain Lean -/
theorem near_D {D T W E x y : Int} (hD : Pr D) (hT : 0 < T) (hW : 0 < W) (h1 : W * W ≤ D * (T * T)) (h2 : D * (T * T) ≤ W * W + E) (h3 : y * y * E < T * T) : sgn (x * T + y * W) = sD D x y := by
  have e1 : x * T * (x * T) = x * x * (T * T) := by grind
  have e2 : y * W * (y * W) = y * y * (W * W) := by grind
  have yy := sq0 y
  have tt := sq_pos (show T ≠ 0 by omega)
  have k1 : y * y * (W * W) ≤ y * y * (D * (T * T)) := Int.mul_le_mul_of_nonneg_left h1 yy
  have k2 : y * y * (D * (T * T)) ≤ y * y * (W * W + E) := Int.mul_le_mul_of_nonneg_left h2 yy
  have e3 : y * y * (D * (T * T)) = D * (y * y) * (T * T) := by grind
  have e4 : y * y * (W * W + E) = y * y * (W * W) + y * y * E := Int.mul_add ..
  rcases (show D * (y * y) < x * x ∨ x * x = D * (y * y) ∨ x * x < D * (y * y) by omega) with h | h | h
  · have k3 : (D * (y * y) + 1) * (T * T) ≤ x * x * (T * T) := Int.mul_le_mul_of_nonneg_right (by omega) (by omega)
    rw [Int.add_mul, Int.one_mul] at k3
    rw [sD_gt h, sgn_dom (by omega), sgn_mul, sgn_p hT, Int.mul_one]
  · obtain ⟨rfl, rfl⟩ := irr hD x.natAbs x y (Nat.le_refl _) h
    rw [Int.zero_mul, Int.zero_mul, sD_0]; rfl
  · have k3 : (x * x + 1) * (T * T) ≤ D * (y * y) * (T * T) := Int.mul_le_mul_of_nonneg_right (by omega) (by omega)
    rw [Int.add_mul, Int.one_mul] at k3
    rw [sD_lt h, Int.add_comm, sgn_dom (by omega), sgn_mul, sgn_p hW, Int.mul_one]
def wT (m : Int) : Int := if m = 8 then 1414213562373095048801688724209 else if m = 10 then 1618033988749894848204586834365 else if m = 12 then 1732050807568877293527446341505 else 0
theorem sq_le {b n : Int} (h0 : -n ≤ b) (h1 : b ≤ n) : b * b ≤ n * n := by
  rcases (show 0 ≤ b ∨ b ≤ 0 by omega) with q | q
  · exact Int.mul_le_mul h1 h1 q (by omega)
  · have e : -b * -b = b * b := Int.neg_mul_neg ..
    rw [← e]
    exact Int.mul_le_mul (by omega) (by omega) (by omega) (by omega)
theorem near_sg {m a b : Int} (hm : Sz m) (h : m < 8 → b = 0) (b0 : -1000000000000 ≤ b) (b1 : b ≤ 1000000000000) : sgn (a * 1000000000000000000000000000000 + b * wT m) = sg m a b := by
  have bb := sq_le b0 b1
  rcases hm with rfl | rfl | rfl | rfl | rfl
  · rw [h (by decide), Int.zero_mul, Int.add_zero, sgn_mul, sg4, show sgn 1000000000000000000000000000000 = 1 from sgn_p (by decide), Int.mul_one]
  · rw [h (by decide), Int.zero_mul, Int.add_zero, sgn_mul, sg6, show sgn 1000000000000000000000000000000 = 1 from sgn_p (by decide), Int.mul_one]
  · rw [sg8]
    refine near_D (E := 4000000000000000000000000000000) (.inl rfl) (by decide) (by decide) (by decide) (by decide) ?_
    omega
  · rw [sg10, ← near_D (T := 1000000000000000000000000000000) (W := 2236067977499789696409173668730) (E := 9000000000000000000000000000000) (x := 2 * a + b) (y := b) (.inr (.inr rfl)) (by decide) (by decide) (by decide) (by decide) (by omega)]
    rw [show (2 * a + b) * 1000000000000000000000000000000 + b * 2236067977499789696409173668730 = 2 * (a * 1000000000000000000000000000000 + b * wT 10) by rw [show wT 10 = 1618033988749894848204586834365 from rfl]; omega, sgn_mul, show sgn 2 = 1 from rfl, Int.one_mul]
  · rw [sg12]
    refine near_D (E := 4000000000000000000000000000000) (.inr (.inl rfl)) (by decide) (by decide) (by decide) (by decide) ?_
    omega
end PF

namespace PF
open PySem PySem.Spec PyProof.Rows L2 PySem.HandSPX
/-! ### rims of two or three ways, in plain Lean -/
def sbP (p q : Pt) : Pt := ⟨p.x - q.x, p.y - q.y, p.u - q.u, p.v - q.v⟩
/-- r lies to the left of the side from p to q -/
def Tri (m : Int) (p q r : Pt) : Prop := Lf m (sbP q p) (sbP r p)
theorem sb_ad {p q : Pt} : sbP (adP p q) p = q := pt_eq (by show p.x + q.x - p.x = q.x; omega) (by show p.y + q.y - p.y = q.y; omega) (by show p.u + q.u - p.u = q.u; omega) (by show p.v + q.v - p.v = q.v; omega)
/-- going on by a and then by b -/
theorem tri_go {m : Int} {p a b : Pt} (h : Lf m a b) : Tri m p (adP p a) (adP (adP p a) b) := by
  unfold Tri
  rw [ad_as, sb_ad, sb_ad, ad_cm]
  exact h.own2
theorem tri_rot {m : Int} {p q r : Pt} (h : Tri m p q r) : Tri m q r p := by
  have e : cX m (sbP r q) (sbP p q) = cX m (sbP q p) (sbP r p) ∧ cY m (sbP r q) (sbP p q) = cY m (sbP q p) (sbP r p) := by
    unfold cX cY sbP mP mR
    constructor <;> grind
  unfold Tri Lf at h ⊢
  rw [e.1, e.2]
  exact h
/-- corner i of the rim of three ways -/
def rim3 (p a b c : Pt) : Nat → Pt
  | 0 => p
  | 1 => adP p a
  | 2 => adP (adP p a) b
  | 3 => adP (adP (adP p a) b) c
  | 4 => adP (adP p b) c
  | _ => adP p c
section
variable {m : Int} {p a b c : Pt}
theorem sb_01 : sbP (rim3 p a b c 1) (rim3 p a b c 0) = a := by
  refine pt_eq ?_ ?_ ?_ ?_ <;> simp only [sbP, rim3, adP, ngP] <;> omega
theorem sb_02 : sbP (rim3 p a b c 2) (rim3 p a b c 0) = adP (a) (b) := by
  refine pt_eq ?_ ?_ ?_ ?_ <;> simp only [sbP, rim3, adP, ngP] <;> omega
theorem sb_03 : sbP (rim3 p a b c 3) (rim3 p a b c 0) = adP (adP (a) (b)) (c) := by
  refine pt_eq ?_ ?_ ?_ ?_ <;> simp only [sbP, rim3, adP, ngP] <;> omega
theorem sb_04 : sbP (rim3 p a b c 4) (rim3 p a b c 0) = adP (b) (c) := by
  refine pt_eq ?_ ?_ ?_ ?_ <;> simp only [sbP, rim3, adP, ngP] <;> omega
theorem sb_05 : sbP (rim3 p a b c 5) (rim3 p a b c 0) = c := by
  refine pt_eq ?_ ?_ ?_ ?_ <;> simp only [sbP, rim3, adP, ngP] <;> omega
theorem sb_12 : sbP (rim3 p a b c 2) (rim3 p a b c 1) = b := by
  refine pt_eq ?_ ?_ ?_ ?_ <;> simp only [sbP, rim3, adP, ngP] <;> omega
theorem sb_13 : sbP (rim3 p a b c 3) (rim3 p a b c 1) = adP (b) (c) := by
  refine pt_eq ?_ ?_ ?_ ?_ <;> simp only [sbP, rim3, adP, ngP] <;> omega
theorem sb_14 : sbP (rim3 p a b c 4) (rim3 p a b c 1) = adP (adP (ngP a) (b)) (c) := by
  refine pt_eq ?_ ?_ ?_ ?_ <;> simp only [sbP, rim3, adP, ngP] <;> omega
theorem sb_15 : sbP (rim3 p a b c 5) (rim3 p a b c 1) = adP (ngP a) (c) := by
  refine pt_eq ?_ ?_ ?_ ?_ <;> simp only [sbP, rim3, adP, ngP] <;> omega
theorem sb_23 : sbP (rim3 p a b c 3) (rim3 p a b c 2) = c := by
  refine pt_eq ?_ ?_ ?_ ?_ <;> simp only [sbP, rim3, adP, ngP] <;> omega
theorem sb_24 : sbP (rim3 p a b c 4) (rim3 p a b c 2) = adP (ngP a) (c) := by
  refine pt_eq ?_ ?_ ?_ ?_ <;> simp only [sbP, rim3, adP, ngP] <;> omega
theorem sb_25 : sbP (rim3 p a b c 5) (rim3 p a b c 2) = adP (adP (ngP a) (ngP b)) (c) := by
  refine pt_eq ?_ ?_ ?_ ?_ <;> simp only [sbP, rim3, adP, ngP] <;> omega
theorem sb_34 : sbP (rim3 p a b c 4) (rim3 p a b c 3) = ngP a := by
  refine pt_eq ?_ ?_ ?_ ?_ <;> simp only [sbP, rim3, adP, ngP] <;> omega
theorem sb_35 : sbP (rim3 p a b c 5) (rim3 p a b c 3) = adP (ngP a) (ngP b) := by
  refine pt_eq ?_ ?_ ?_ ?_ <;> simp only [sbP, rim3, adP, ngP] <;> omega
theorem sb_45 : sbP (rim3 p a b c 5) (rim3 p a b c 4) = ngP b := by
  refine pt_eq ?_ ?_ ?_ ?_ <;> simp only [sbP, rim3, adP, ngP] <;> omega
theorem tri_012 (hm : Sz m) (h1 : Lf m a b) (h2 : Lf m a c) (h3 : Lf m b c) : Tri m (rim3 p a b c 0) (rim3 p a b c 1) (rim3 p a b c 2) := by
  unfold Tri Lf
  rw [sb_01, sb_02]
  have e1 : cX m (a) (adP (a) (b)) = cX m a b := by
    simp only [c_add.1, c_add1.1, c_ng1.1, c_ng2.1, c_self.1, (c_swap (m := m) (p := a) (q := b)).1, (c_swap (m := m) (p := a) (q := c)).1, (c_swap (m := m) (p := b) (q := c)).1] <;> omega
  have e2 : cY m (a) (adP (a) (b)) = cY m a b := by
    simp only [c_add.2, c_add1.2, c_ng1.2, c_ng2.2, c_self.2, (c_swap (m := m) (p := a) (q := b)).2, (c_swap (m := m) (p := a) (q := c)).2, (c_swap (m := m) (p := b) (q := c)).2] <;> omega
  rw [e1, e2]
  exact h1
theorem tri_013 (hm : Sz m) (h1 : Lf m a b) (h2 : Lf m a c) (h3 : Lf m b c) : Tri m (rim3 p a b c 0) (rim3 p a b c 1) (rim3 p a b c 3) := by
  unfold Tri Lf
  rw [sb_01, sb_03]
  have e1 : cX m (a) (adP (adP (a) (b)) (c)) = cX m a b + cX m a c := by
    simp only [c_add.1, c_add1.1, c_ng1.1, c_ng2.1, c_self.1, (c_swap (m := m) (p := a) (q := b)).1, (c_swap (m := m) (p := a) (q := c)).1, (c_swap (m := m) (p := b) (q := c)).1] <;> omega
  have e2 : cY m (a) (adP (adP (a) (b)) (c)) = cY m a b + cY m a c := by
    simp only [c_add.2, c_add1.2, c_ng1.2, c_ng2.2, c_self.2, (c_swap (m := m) (p := a) (q := b)).2, (c_swap (m := m) (p := a) (q := c)).2, (c_swap (m := m) (p := b) (q := c)).2] <;> omega
  rw [e1, e2]
  exact sg_add hm h1 h2
theorem tri_014 (hm : Sz m) (h1 : Lf m a b) (h2 : Lf m a c) (h3 : Lf m b c) : Tri m (rim3 p a b c 0) (rim3 p a b c 1) (rim3 p a b c 4) := by
  unfold Tri Lf
  rw [sb_01, sb_04]
  have e1 : cX m (a) (adP (b) (c)) = cX m a b + cX m a c := by
    simp only [c_add.1, c_add1.1, c_ng1.1, c_ng2.1, c_self.1, (c_swap (m := m) (p := a) (q := b)).1, (c_swap (m := m) (p := a) (q := c)).1, (c_swap (m := m) (p := b) (q := c)).1] <;> omega
  have e2 : cY m (a) (adP (b) (c)) = cY m a b + cY m a c := by
    simp only [c_add.2, c_add1.2, c_ng1.2, c_ng2.2, c_self.2, (c_swap (m := m) (p := a) (q := b)).2, (c_swap (m := m) (p := a) (q := c)).2, (c_swap (m := m) (p := b) (q := c)).2] <;> omega
  rw [e1, e2]
  exact sg_add hm h1 h2
theorem tri_015 (hm : Sz m) (h1 : Lf m a b) (h2 : Lf m a c) (h3 : Lf m b c) : Tri m (rim3 p a b c 0) (rim3 p a b c 1) (rim3 p a b c 5) := by
  unfold Tri Lf
  rw [sb_01, sb_05]
  have e1 : cX m (a) (c) = cX m a c := by
    simp only [c_add.1, c_add1.1, c_ng1.1, c_ng2.1, c_self.1, (c_swap (m := m) (p := a) (q := b)).1, (c_swap (m := m) (p := a) (q := c)).1, (c_swap (m := m) (p := b) (q := c)).1] <;> omega
  have e2 : cY m (a) (c) = cY m a c := by
    simp only [c_add.2, c_add1.2, c_ng1.2, c_ng2.2, c_self.2, (c_swap (m := m) (p := a) (q := b)).2, (c_swap (m := m) (p := a) (q := c)).2, (c_swap (m := m) (p := b) (q := c)).2] <;> omega
  rw [e1, e2]
  exact h2
theorem tri_023 (hm : Sz m) (h1 : Lf m a b) (h2 : Lf m a c) (h3 : Lf m b c) : Tri m (rim3 p a b c 0) (rim3 p a b c 2) (rim3 p a b c 3) := by
  unfold Tri Lf
  rw [sb_02, sb_03]
  have e1 : cX m (adP (a) (b)) (adP (adP (a) (b)) (c)) = cX m a c + cX m b c := by
    simp only [c_add.1, c_add1.1, c_ng1.1, c_ng2.1, c_self.1, (c_swap (m := m) (p := a) (q := b)).1, (c_swap (m := m) (p := a) (q := c)).1, (c_swap (m := m) (p := b) (q := c)).1] <;> omega
  have e2 : cY m (adP (a) (b)) (adP (adP (a) (b)) (c)) = cY m a c + cY m b c := by
    simp only [c_add.2, c_add1.2, c_ng1.2, c_ng2.2, c_self.2, (c_swap (m := m) (p := a) (q := b)).2, (c_swap (m := m) (p := a) (q := c)).2, (c_swap (m := m) (p := b) (q := c)).2] <;> omega
  rw [e1, e2]
  exact sg_add hm h2 h3
theorem tri_024 (hm : Sz m) (h1 : Lf m a b) (h2 : Lf m a c) (h3 : Lf m b c) : Tri m (rim3 p a b c 0) (rim3 p a b c 2) (rim3 p a b c 4) := by
  unfold Tri Lf
  rw [sb_02, sb_04]
  have e1 : cX m (adP (a) (b)) (adP (b) (c)) = cX m a b + cX m a c + cX m b c := by
    simp only [c_add.1, c_add1.1, c_ng1.1, c_ng2.1, c_self.1, (c_swap (m := m) (p := a) (q := b)).1, (c_swap (m := m) (p := a) (q := c)).1, (c_swap (m := m) (p := b) (q := c)).1] <;> omega
  have e2 : cY m (adP (a) (b)) (adP (b) (c)) = cY m a b + cY m a c + cY m b c := by
    simp only [c_add.2, c_add1.2, c_ng1.2, c_ng2.2, c_self.2, (c_swap (m := m) (p := a) (q := b)).2, (c_swap (m := m) (p := a) (q := c)).2, (c_swap (m := m) (p := b) (q := c)).2] <;> omega
  rw [e1, e2]
  exact sg_add hm (sg_add hm h1 h2) h3
theorem tri_025 (hm : Sz m) (h1 : Lf m a b) (h2 : Lf m a c) (h3 : Lf m b c) : Tri m (rim3 p a b c 0) (rim3 p a b c 2) (rim3 p a b c 5) := by
  unfold Tri Lf
  rw [sb_02, sb_05]
  have e1 : cX m (adP (a) (b)) (c) = cX m a c + cX m b c := by
    simp only [c_add.1, c_add1.1, c_ng1.1, c_ng2.1, c_self.1, (c_swap (m := m) (p := a) (q := b)).1, (c_swap (m := m) (p := a) (q := c)).1, (c_swap (m := m) (p := b) (q := c)).1] <;> omega
  have e2 : cY m (adP (a) (b)) (c) = cY m a c + cY m b c := by
    simp only [c_add.2, c_add1.2, c_ng1.2, c_ng2.2, c_self.2, (c_swap (m := m) (p := a) (q := b)).2, (c_swap (m := m) (p := a) (q := c)).2, (c_swap (m := m) (p := b) (q := c)).2] <;> omega
  rw [e1, e2]
  exact sg_add hm h2 h3
theorem tri_034 (hm : Sz m) (h1 : Lf m a b) (h2 : Lf m a c) (h3 : Lf m b c) : Tri m (rim3 p a b c 0) (rim3 p a b c 3) (rim3 p a b c 4) := by
  unfold Tri Lf
  rw [sb_03, sb_04]
  have e1 : cX m (adP (adP (a) (b)) (c)) (adP (b) (c)) = cX m a b + cX m a c := by
    simp only [c_add.1, c_add1.1, c_ng1.1, c_ng2.1, c_self.1, (c_swap (m := m) (p := a) (q := b)).1, (c_swap (m := m) (p := a) (q := c)).1, (c_swap (m := m) (p := b) (q := c)).1] <;> omega
  have e2 : cY m (adP (adP (a) (b)) (c)) (adP (b) (c)) = cY m a b + cY m a c := by
    simp only [c_add.2, c_add1.2, c_ng1.2, c_ng2.2, c_self.2, (c_swap (m := m) (p := a) (q := b)).2, (c_swap (m := m) (p := a) (q := c)).2, (c_swap (m := m) (p := b) (q := c)).2] <;> omega
  rw [e1, e2]
  exact sg_add hm h1 h2
theorem tri_035 (hm : Sz m) (h1 : Lf m a b) (h2 : Lf m a c) (h3 : Lf m b c) : Tri m (rim3 p a b c 0) (rim3 p a b c 3) (rim3 p a b c 5) := by
  unfold Tri Lf
  rw [sb_03, sb_05]
  have e1 : cX m (adP (adP (a) (b)) (c)) (c) = cX m a c + cX m b c := by
    simp only [c_add.1, c_add1.1, c_ng1.1, c_ng2.1, c_self.1, (c_swap (m := m) (p := a) (q := b)).1, (c_swap (m := m) (p := a) (q := c)).1, (c_swap (m := m) (p := b) (q := c)).1] <;> omega
  have e2 : cY m (adP (adP (a) (b)) (c)) (c) = cY m a c + cY m b c := by
    simp only [c_add.2, c_add1.2, c_ng1.2, c_ng2.2, c_self.2, (c_swap (m := m) (p := a) (q := b)).2, (c_swap (m := m) (p := a) (q := c)).2, (c_swap (m := m) (p := b) (q := c)).2] <;> omega
  rw [e1, e2]
  exact sg_add hm h2 h3
theorem tri_045 (hm : Sz m) (h1 : Lf m a b) (h2 : Lf m a c) (h3 : Lf m b c) : Tri m (rim3 p a b c 0) (rim3 p a b c 4) (rim3 p a b c 5) := by
  unfold Tri Lf
  rw [sb_04, sb_05]
  have e1 : cX m (adP (b) (c)) (c) = cX m b c := by
    simp only [c_add.1, c_add1.1, c_ng1.1, c_ng2.1, c_self.1, (c_swap (m := m) (p := a) (q := b)).1, (c_swap (m := m) (p := a) (q := c)).1, (c_swap (m := m) (p := b) (q := c)).1] <;> omega
  have e2 : cY m (adP (b) (c)) (c) = cY m b c := by
    simp only [c_add.2, c_add1.2, c_ng1.2, c_ng2.2, c_self.2, (c_swap (m := m) (p := a) (q := b)).2, (c_swap (m := m) (p := a) (q := c)).2, (c_swap (m := m) (p := b) (q := c)).2] <;> omega
  rw [e1, e2]
  exact h3
theorem tri_123 (hm : Sz m) (h1 : Lf m a b) (h2 : Lf m a c) (h3 : Lf m b c) : Tri m (rim3 p a b c 1) (rim3 p a b c 2) (rim3 p a b c 3) := by
  unfold Tri Lf
  rw [sb_12, sb_13]
  have e1 : cX m (b) (adP (b) (c)) = cX m b c := by
    simp only [c_add.1, c_add1.1, c_ng1.1, c_ng2.1, c_self.1, (c_swap (m := m) (p := a) (q := b)).1, (c_swap (m := m) (p := a) (q := c)).1, (c_swap (m := m) (p := b) (q := c)).1] <;> omega
  have e2 : cY m (b) (adP (b) (c)) = cY m b c := by
    simp only [c_add.2, c_add1.2, c_ng1.2, c_ng2.2, c_self.2, (c_swap (m := m) (p := a) (q := b)).2, (c_swap (m := m) (p := a) (q := c)).2, (c_swap (m := m) (p := b) (q := c)).2] <;> omega
  rw [e1, e2]
  exact h3
theorem tri_124 (hm : Sz m) (h1 : Lf m a b) (h2 : Lf m a c) (h3 : Lf m b c) : Tri m (rim3 p a b c 1) (rim3 p a b c 2) (rim3 p a b c 4) := by
  unfold Tri Lf
  rw [sb_12, sb_14]
  have e1 : cX m (b) (adP (adP (ngP a) (b)) (c)) = cX m a b + cX m b c := by
    simp only [c_add.1, c_add1.1, c_ng1.1, c_ng2.1, c_self.1, (c_swap (m := m) (p := a) (q := b)).1, (c_swap (m := m) (p := a) (q := c)).1, (c_swap (m := m) (p := b) (q := c)).1] <;> omega
  have e2 : cY m (b) (adP (adP (ngP a) (b)) (c)) = cY m a b + cY m b c := by
    simp only [c_add.2, c_add1.2, c_ng1.2, c_ng2.2, c_self.2, (c_swap (m := m) (p := a) (q := b)).2, (c_swap (m := m) (p := a) (q := c)).2, (c_swap (m := m) (p := b) (q := c)).2] <;> omega
  rw [e1, e2]
  exact sg_add hm h1 h3
theorem tri_125 (hm : Sz m) (h1 : Lf m a b) (h2 : Lf m a c) (h3 : Lf m b c) : Tri m (rim3 p a b c 1) (rim3 p a b c 2) (rim3 p a b c 5) := by
  unfold Tri Lf
  rw [sb_12, sb_15]
  have e1 : cX m (b) (adP (ngP a) (c)) = cX m a b + cX m b c := by
    simp only [c_add.1, c_add1.1, c_ng1.1, c_ng2.1, c_self.1, (c_swap (m := m) (p := a) (q := b)).1, (c_swap (m := m) (p := a) (q := c)).1, (c_swap (m := m) (p := b) (q := c)).1] <;> omega
  have e2 : cY m (b) (adP (ngP a) (c)) = cY m a b + cY m b c := by
    simp only [c_add.2, c_add1.2, c_ng1.2, c_ng2.2, c_self.2, (c_swap (m := m) (p := a) (q := b)).2, (c_swap (m := m) (p := a) (q := c)).2, (c_swap (m := m) (p := b) (q := c)).2] <;> omega
  rw [e1, e2]
  exact sg_add hm h1 h3
theorem tri_134 (hm : Sz m) (h1 : Lf m a b) (h2 : Lf m a c) (h3 : Lf m b c) : Tri m (rim3 p a b c 1) (rim3 p a b c 3) (rim3 p a b c 4) := by
  unfold Tri Lf
  rw [sb_13, sb_14]
  have e1 : cX m (adP (b) (c)) (adP (adP (ngP a) (b)) (c)) = cX m a b + cX m a c := by
    simp only [c_add.1, c_add1.1, c_ng1.1, c_ng2.1, c_self.1, (c_swap (m := m) (p := a) (q := b)).1, (c_swap (m := m) (p := a) (q := c)).1, (c_swap (m := m) (p := b) (q := c)).1] <;> omega
  have e2 : cY m (adP (b) (c)) (adP (adP (ngP a) (b)) (c)) = cY m a b + cY m a c := by
    simp only [c_add.2, c_add1.2, c_ng1.2, c_ng2.2, c_self.2, (c_swap (m := m) (p := a) (q := b)).2, (c_swap (m := m) (p := a) (q := c)).2, (c_swap (m := m) (p := b) (q := c)).2] <;> omega
  rw [e1, e2]
  exact sg_add hm h1 h2
theorem tri_135 (hm : Sz m) (h1 : Lf m a b) (h2 : Lf m a c) (h3 : Lf m b c) : Tri m (rim3 p a b c 1) (rim3 p a b c 3) (rim3 p a b c 5) := by
  unfold Tri Lf
  rw [sb_13, sb_15]
  have e1 : cX m (adP (b) (c)) (adP (ngP a) (c)) = cX m a b + cX m a c + cX m b c := by
    simp only [c_add.1, c_add1.1, c_ng1.1, c_ng2.1, c_self.1, (c_swap (m := m) (p := a) (q := b)).1, (c_swap (m := m) (p := a) (q := c)).1, (c_swap (m := m) (p := b) (q := c)).1] <;> omega
  have e2 : cY m (adP (b) (c)) (adP (ngP a) (c)) = cY m a b + cY m a c + cY m b c := by
    simp only [c_add.2, c_add1.2, c_ng1.2, c_ng2.2, c_self.2, (c_swap (m := m) (p := a) (q := b)).2, (c_swap (m := m) (p := a) (q := c)).2, (c_swap (m := m) (p := b) (q := c)).2] <;> omega
  rw [e1, e2]
  exact sg_add hm (sg_add hm h1 h2) h3
theorem tri_145 (hm : Sz m) (h1 : Lf m a b) (h2 : Lf m a c) (h3 : Lf m b c) : Tri m (rim3 p a b c 1) (rim3 p a b c 4) (rim3 p a b c 5) := by
  unfold Tri Lf
  rw [sb_14, sb_15]
  have e1 : cX m (adP (adP (ngP a) (b)) (c)) (adP (ngP a) (c)) = cX m a b + cX m b c := by
    simp only [c_add.1, c_add1.1, c_ng1.1, c_ng2.1, c_self.1, (c_swap (m := m) (p := a) (q := b)).1, (c_swap (m := m) (p := a) (q := c)).1, (c_swap (m := m) (p := b) (q := c)).1] <;> omega
  have e2 : cY m (adP (adP (ngP a) (b)) (c)) (adP (ngP a) (c)) = cY m a b + cY m b c := by
    simp only [c_add.2, c_add1.2, c_ng1.2, c_ng2.2, c_self.2, (c_swap (m := m) (p := a) (q := b)).2, (c_swap (m := m) (p := a) (q := c)).2, (c_swap (m := m) (p := b) (q := c)).2] <;> omega
  rw [e1, e2]
  exact sg_add hm h1 h3
theorem tri_234 (hm : Sz m) (h1 : Lf m a b) (h2 : Lf m a c) (h3 : Lf m b c) : Tri m (rim3 p a b c 2) (rim3 p a b c 3) (rim3 p a b c 4) := by
  unfold Tri Lf
  rw [sb_23, sb_24]
  have e1 : cX m (c) (adP (ngP a) (c)) = cX m a c := by
    simp only [c_add.1, c_add1.1, c_ng1.1, c_ng2.1, c_self.1, (c_swap (m := m) (p := a) (q := b)).1, (c_swap (m := m) (p := a) (q := c)).1, (c_swap (m := m) (p := b) (q := c)).1] <;> omega
  have e2 : cY m (c) (adP (ngP a) (c)) = cY m a c := by
    simp only [c_add.2, c_add1.2, c_ng1.2, c_ng2.2, c_self.2, (c_swap (m := m) (p := a) (q := b)).2, (c_swap (m := m) (p := a) (q := c)).2, (c_swap (m := m) (p := b) (q := c)).2] <;> omega
  rw [e1, e2]
  exact h2
theorem tri_235 (hm : Sz m) (h1 : Lf m a b) (h2 : Lf m a c) (h3 : Lf m b c) : Tri m (rim3 p a b c 2) (rim3 p a b c 3) (rim3 p a b c 5) := by
  unfold Tri Lf
  rw [sb_23, sb_25]
  have e1 : cX m (c) (adP (adP (ngP a) (ngP b)) (c)) = cX m a c + cX m b c := by
    simp only [c_add.1, c_add1.1, c_ng1.1, c_ng2.1, c_self.1, (c_swap (m := m) (p := a) (q := b)).1, (c_swap (m := m) (p := a) (q := c)).1, (c_swap (m := m) (p := b) (q := c)).1] <;> omega
  have e2 : cY m (c) (adP (adP (ngP a) (ngP b)) (c)) = cY m a c + cY m b c := by
    simp only [c_add.2, c_add1.2, c_ng1.2, c_ng2.2, c_self.2, (c_swap (m := m) (p := a) (q := b)).2, (c_swap (m := m) (p := a) (q := c)).2, (c_swap (m := m) (p := b) (q := c)).2] <;> omega
  rw [e1, e2]
  exact sg_add hm h2 h3
theorem tri_245 (hm : Sz m) (h1 : Lf m a b) (h2 : Lf m a c) (h3 : Lf m b c) : Tri m (rim3 p a b c 2) (rim3 p a b c 4) (rim3 p a b c 5) := by
  unfold Tri Lf
  rw [sb_24, sb_25]
  have e1 : cX m (adP (ngP a) (c)) (adP (adP (ngP a) (ngP b)) (c)) = cX m a b + cX m b c := by
    simp only [c_add.1, c_add1.1, c_ng1.1, c_ng2.1, c_self.1, (c_swap (m := m) (p := a) (q := b)).1, (c_swap (m := m) (p := a) (q := c)).1, (c_swap (m := m) (p := b) (q := c)).1] <;> omega
  have e2 : cY m (adP (ngP a) (c)) (adP (adP (ngP a) (ngP b)) (c)) = cY m a b + cY m b c := by
    simp only [c_add.2, c_add1.2, c_ng1.2, c_ng2.2, c_self.2, (c_swap (m := m) (p := a) (q := b)).2, (c_swap (m := m) (p := a) (q := c)).2, (c_swap (m := m) (p := b) (q := c)).2] <;> omega
  rw [e1, e2]
  exact sg_add hm h1 h3
theorem tri_345 (hm : Sz m) (h1 : Lf m a b) (h2 : Lf m a c) (h3 : Lf m b c) : Tri m (rim3 p a b c 3) (rim3 p a b c 4) (rim3 p a b c 5) := by
  unfold Tri Lf
  rw [sb_34, sb_35]
  have e1 : cX m (ngP a) (adP (ngP a) (ngP b)) = cX m a b := by
    simp only [c_add.1, c_add1.1, c_ng1.1, c_ng2.1, c_self.1, (c_swap (m := m) (p := a) (q := b)).1, (c_swap (m := m) (p := a) (q := c)).1, (c_swap (m := m) (p := b) (q := c)).1] <;> omega
  have e2 : cY m (ngP a) (adP (ngP a) (ngP b)) = cY m a b := by
    simp only [c_add.2, c_add1.2, c_ng1.2, c_ng2.2, c_self.2, (c_swap (m := m) (p := a) (q := b)).2, (c_swap (m := m) (p := a) (q := c)).2, (c_swap (m := m) (p := b) (q := c)).2] <;> omega
  rw [e1, e2]
  exact h1
end
end PF

namespace PF
open PySem PySem.Spec PyProof.Rows L2 PySem.HandSPX
open Builtin.Int (intBits)
/-! ### numbers and points as trees; lists of them; comprehensions, loops and own lists by rewriting -/
def nu (a b : Int) : Tr := .tup [.int a, .int b]
def pt (p : Pt) : Tr := .tup [nu p.x p.y, nu p.u p.v]
def fr (m : Int) : Tr := .ins 0 [.int m]
theorem g_nu {a b : Int} : Tr.tup [.int a, .int b] = nu a b := id rfl
theorem g_pt {a b c d : Int} : Tr.tup [nu a b, nu c d] = pt ⟨a, b, c, d⟩ := id rfl
theorem g_n0 {a b : Int} : ixE (nu a b) (.int 0) = .ok (.int a) := id rfl
theorem g_n1 {a b : Int} : ixE (nu a b) (.int 1) = .ok (.int b) := id rfl
theorem g_p0 {p : Pt} : ixE (pt p) (.int 0) = .ok (nu p.x p.y) := id rfl
theorem g_p1 {p : Pt} : ixE (pt p) (.int 1) = .ok (nu p.u p.v) := id rfl
theorem g_pi {p : Pt} : itemsOf (pt p) = .ok [nu p.x p.y, nu p.u p.v] := id rfl
theorem g_pa {env : List Sl} {i j : Nat} {p : Pt} : asgR (.tp [i, j]) (.im (pt p)) env = bindTp [i, j] [nu p.x p.y, nu p.u p.v] env := id rfl
theorem g_pb {env : List Sl} {i j : Nat} {p : Pt} : bindTg (.tp [i, j]) (pt p) env = bindTp [i, j] [nu p.x p.y, nu p.u p.v] env := id rfl
theorem g_fi {m : Int} : isIns 0 (fr m) = true := id rfl
theorem g_ff {m : Int} : fldE 0 0 (fr m) = .ok (.int m) := id rfl
theorem g_ce {a b c d : Int} : cmpE .eq (nu a b) (nu c d) = .ok (decide (a = c) && decide (b = d)) := cmp_t2
theorem g_cn {a b c d : Int} : cmpE .ne (nu a b) (nu c d) = .ok (!(decide (a = c) && decide (b = d))) := cmp_n2
def peq (p q : Pt) : Bool := decide (p.x = q.x) && decide (p.y = q.y) && (decide (p.u = q.u) && decide (p.v = q.v))
theorem g_pe {p q : Pt} : cmpE .eq (pt p) (pt q) = .ok (peq p q) := eq_tt2
theorem g_pn {p q : Pt} : cmpE .ne (pt p) (pt q) = .ok (!peq p q) := cmp_nt2
theorem g_teq {p q : Pt} : Tr.eq (pt p) (pt q) = .ok (peq p q) := eq_tt2
theorem peq_iff {p q : Pt} : peq p q = true ↔ p = q := by
  unfold peq
  simp only [Bool.and_eq_true, decide_eq_true_eq]
  constructor
  · rintro ⟨⟨h1, h2⟩, h3, h4⟩
    exact pt_eq h1 h2 h3 h4
  · rintro rfl
    exact ⟨⟨rfl, rfl⟩, rfl, rfl⟩
theorem peq_refl {p : Pt} : peq p p = true := peq_iff.mpr rfl
section
variable {C : Ctx} {env : List Sl}
def fI (C : Ctx) (tg : Tg) (cs : List Ex) (e : Ex) (own : List Nat) (env : List Sl) (x : Tr) : Oc (Option Tr) := (bindTg tg x (wipeE env own) >>= fun env' => evc C cs env' >>= fun k => if k then ev C e env' >>= Rs.fz >>= fun y => .ok (some y) else .ok none).noex
def kLc (C : Ctx) (tg : Tg) (cs : List Ex) (e : Ex) (own : List Nat) (env : List Sl) (r : Oc (List Tr)) : Oc Rs := r >>= fun xs => lcGo (fI C tg cs e own env) xs >>= fun ys => if sizeOk (xs.length + 1) then .ok (.ow ys) else .no
def kLc2 (n : Nat) (r : Oc (List Tr)) : Oc Rs := r >>= fun ys => if sizeOk (n + 1) then .ok (.ow ys) else .no
def kFI (C : Ctx) (cs : List Ex) (e : Ex) (r : Oc (List Sl)) : Oc (Option Tr) := (r >>= fun env' => evc C cs env' >>= fun k => if k then ev C e env' >>= Rs.fz >>= fun y => .ok (some y) else .ok none).noex
def kFI1 (C : Ctx) (e : Ex) (env : List Sl) (r : Oc Bool) : Oc (Option Tr) := (r >>= fun k => if k then ev C e env >>= Rs.fz >>= fun y => .ok (some y) else .ok none).noex
def kFI2 (r : Oc Tr) : Oc (Option Tr) := (r >>= fun y => .ok (some y)).noex
def kEc (C : Ctx) (es : List Ex) (env : List Sl) (r : Oc Rs) : Oc Bool := r >>= fun x => oBool x.see >>= fun k => if k then evc C es env else .ok false
def kLg (f : Tr → Oc (Option Tr)) (xs : List Tr) (r : Oc (Option Tr)) : Oc (List Tr) := r >>= fun o => lcGo f xs >>= fun ys => .ok (match o with
    | some y => y :: ys
    | none => ys)
def kLg2 (o : Option Tr) (r : Oc (List Tr)) : Oc (List Tr) := r >>= fun ys => .ok (match o with
    | some y => y :: ys
    | none => ys)
theorem s_lc {tg : Tg} {it : Ii} {cs : List Ex} {e : Ex} {own : List Nat} : ev C (.lc tg it cs e own) env = kLc C tg cs e own env (evIt C it env) := id rfl
theorem s_lc1 {tg : Tg} {cs : List Ex} {e : Ex} {own : List Nat} {xs : List Tr} : kLc C tg cs e own env (.ok xs) = kLc2 xs.length (lcGo (fI C tg cs e own env) xs) := id rfl
def kLc3 (ys : List Tr) (b : Bool) : Oc Rs := if b then .ok (.ow ys) else .no
theorem s_lc2 {n : Nat} {ys : List Tr} : kLc2 n (.ok ys) = kLc3 ys (sizeOk (n + 1)) := id rfl
theorem s_lc3 {ys : List Tr} : kLc3 ys true = .ok (.ow ys) := id rfl
theorem s_fI {tg : Tg} {cs : List Ex} {e : Ex} {own : List Nat} {x : Tr} : fI C tg cs e own env x = kFI C cs e (bindTg tg x (wipeE env own)) := id rfl
theorem s_fI1 {cs : List Ex} {e : Ex} : kFI C cs e (.ok env) = kFI1 C e env (evc C cs env) := id rfl
theorem s_fI2 {e : Ex} : kFI1 C e env (.ok true) = kFI2 (kFz (ev C e env)) := id rfl
theorem s_fI3 {e : Ex} : kFI1 C e env (.ok false) = .ok none := id rfl
theorem s_fI4 {y : Tr} : kFI2 (.ok y) = .ok (some y) := id rfl
theorem s_ec0 : evc C [] env = .ok true := id rfl
theorem s_ec1 {e : Ex} {es : List Ex} : evc C (e :: es) env = kEc C es env (ev C e env) := id rfl
theorem s_ec2 {es : List Ex} : kEc C es env (.ok (.im (.bl true))) = evc C es env := id rfl
theorem s_ec3 {es : List Ex} : kEc C es env (.ok (.im (.bl false))) = .ok false := id rfl
theorem s_lg0 {f : Tr → Oc (Option Tr)} : lcGo f [] = .ok [] := id rfl
theorem s_lg1 {f : Tr → Oc (Option Tr)} {x : Tr} {xs : List Tr} : lcGo f (x :: xs) = kLg f xs (f x) := id rfl
theorem s_lg2 {f : Tr → Oc (Option Tr)} {o : Option Tr} {xs : List Tr} : kLg f xs (.ok o) = kLg2 o (lcGo f xs) := id rfl
theorem s_lg3 {y : Tr} {ys : List Tr} : kLg2 (some y) (.ok ys) = .ok (y :: ys) := id rfl
theorem s_lg4 {ys : List Tr} : kLg2 none (.ok ys) = .ok ys := id rfl
theorem s_w0 : wipeE env [] = env := id rfl
theorem s_w1 {v : Nat} {vs : List Nat} : wipeE env (v :: vs) = (wipeE env vs).set v .un := id rfl
def kFre (i : Nat) (env : List Sl) (o : Option Sl) : Oc Fl := match o with
    | some (.ow xs) => .ok (.nx (env.set i (.im (.lst xs))))
    | _ => .ok (.nx env)
theorem s_fre {i : Nat} : exec C (.fre i) env = kFre i env env[i]? := id rfl
theorem s_fre1 {i : Nat} {xs : List Tr} : kFre i env (some (.ow xs)) = .ok (.nx (env.set i (.im (.lst xs)))) := id rfl
theorem s_fre2 {i : Nat} {t : Tr} : kFre i env (some (.im t)) = .ok (.nx env) := id rfl
theorem s_fre3 {i : Nat} : kFre i env (some .un) = .ok (.nx env) := id rfl
def kSlo (o : Option Sl) : Oc (List Tr) := match o with
    | some (.ow xs) => .ok xs
    | _ => .no
def kApp (C : Ctx) (i : Nat) (e : Ex) (env : List Sl) (o : Option Sl) : Oc Fl := kSlo o >>= fun xs => ev C e env >>= Rs.fz >>= fun t => if sizeOk (xs.length + 1) then .ok (.nx (env.set i (.ow (xs ++ [t])))) else .no
def kApp2 (i : Nat) (xs : List Tr) (env : List Sl) (r : Oc Tr) : Oc Fl := r >>= fun t => if sizeOk (xs.length + 1) then .ok (.nx (env.set i (.ow (xs ++ [t])))) else .no
theorem s_app {i : Nat} {e : Ex} : exec C (.app i e) env = kApp C i e env env[i]? := id rfl
theorem s_app1 {i : Nat} {e : Ex} {xs : List Tr} : kApp C i e env (some (.ow xs)) = kApp2 i xs env (kFz (ev C e env)) := id rfl
def kApp3 (i : Nat) (xs : List Tr) (t : Tr) (env : List Sl) (b : Bool) : Oc Fl := if b then .ok (.nx (env.set i (.ow (xs ++ [t])))) else .no
theorem s_app2 {i : Nat} {xs : List Tr} {t : Tr} : kApp2 i xs env (.ok t) = kApp3 i xs t env (sizeOk (xs.length + 1)) := id rfl
theorem s_app3 {i : Nat} {xs : List Tr} {t : Tr} : kApp3 i xs t env true = .ok (.nx (env.set i (.ow (xs ++ [t])))) := id rfl
def kPop (C : Ctx) (i : Nat) (e : Ex) (env : List Sl) (o : Option Sl) : Oc Fl := kSlo o >>= fun xs => ev C e env >>= Rs.fz >>= fun t => popT xs t >>= fun ys => .ok (.nx (env.set i (.ow ys)))
def kPop2 (i : Nat) (xs : List Tr) (env : List Sl) (r : Oc Tr) : Oc Fl := r >>= fun t => popT xs t >>= fun ys => .ok (.nx (env.set i (.ow ys)))
theorem s_pop {i : Nat} {e : Ex} : exec C (.pop i e) env = kPop C i e env env[i]? := id rfl
theorem s_pop1 {i : Nat} {e : Ex} {xs : List Tr} : kPop C i e env (some (.ow xs)) = kPop2 i xs env (kFz (ev C e env)) := id rfl
theorem s_pop2 {i k : Nat} {xs : List Tr} (h : k < xs.length) (h2 : xs.length ≤ 10000000) : kPop2 i xs env (.ok (.int (k : Int))) = .ok (.nx (env.set i (.ow (xs.eraseIdx k)))) := by
  have h3 : popT xs (.int (k : Int)) = .ok (xs.eraseIdx k) := by
    show (if (smallI (k : Int) && decide (0 ≤ (k : Int)) && decide ((k : Int) < xs.length)) = true then Oc.ok (xs.eraseIdx (k : Int).toNat) else Oc.no) = _
    unfold smallI
    rw [if_pos]
    · rfl
    · simp only [Bool.and_eq_true, decide_eq_true_eq]
      omega
  unfold kPop2
  rw [Oc.ok_bind, h3]
  rfl
def whlK (C : Ctx) (c : Ex) (b : List Sm) (n : Nat) (env : List Sl) : Oc Fl := whlGo (fun e => ev C c e >>= fun x => oBool x.see) (fun e => execs C b e) n env
def kW (C : Ctx) (c : Ex) (b : List Sm) (n : Nat) (env : List Sl) (r : Oc Rs) : Oc Fl := (r >>= fun x => oBool x.see) >>= fun k => if k then execs C b env >>= fun
      | .nx e => whlK C c b n e
      | .ct e => whlK C c b n e
      | .bk e => .ok (.nx e)
      | .rt r => .ok (.rt r)
    else .ok (.nx env)
def kW2 (C : Ctx) (c : Ex) (b : List Sm) (n : Nat) (r : Oc Fl) : Oc Fl := r >>= fun
      | .nx e => whlK C c b n e
      | .ct e => whlK C c b n e
      | .bk e => .ok (.nx e)
      | .rt r => .ok (.rt r)
theorem s_whl {c : Ex} {b : List Sm} : exec C (.whl c b) env = whlK C c b C.wf env := id rfl
theorem s_wh1 {c : Ex} {b : List Sm} {n : Nat} : whlK C c b (n + 1) env = kW C c b n env (ev C c env) := id rfl
theorem s_wh2 {c : Ex} {b : List Sm} {n : Nat} : kW C c b n env (.ok (.im (.bl true))) = kW2 C c b n (execs C b env) := id rfl
theorem s_wh3 {c : Ex} {b : List Sm} {n : Nat} : kW C c b n env (.ok (.im (.bl false))) = .ok (.nx env) := id rfl
theorem s_wh4 {c : Ex} {b : List Sm} {n : Nat} {e : List Sl} : kW2 C c b n (.ok (.nx e)) = whlK C c b n e := id rfl
def kNotN (r : Oc Rs) : Oc Rs := r >>= fun x => .ok (.im (.bl (!isNonT x.see)))
theorem s_nn {a : Ex} : ev C (.notN a) env = kNotN (ev C a env) := id rfl
theorem s_nn1 {x : Rs} : kNotN (.ok x) = .ok (.im (.bl (!isNonT x.see))) := id rfl
theorem s_nnp {p : Pt} : isNonT (pt p) = false := id rfl
theorem s_nnn : isNonT .non = true := id rfl
end
theorem s_tol {xs : List Tr} : bltE .list [.im (.lst xs)] = .ok (.ow xs) := id rfl
theorem s_tol2 {xs : List Tr} : bltE .list [.ow xs] = .ok (.ow xs) := id rfl
theorem s_tol3 {xs : List Tr} : bltE .list [.br xs] = .ok (.ow xs) := id rfl
theorem s_tup {xs : List Tr} : bltE .tuple [.ow xs] = .ok (.im (.tup xs)) := id rfl
theorem s_tup2 {xs : List Tr} : bltE .tuple [.im (.lst xs)] = .ok (.im (.tup xs)) := id rfl
theorem s_len {xs : List Tr} : bltE .len [.br xs] = .ok (.im (.int (xs.length : Int))) := id rfl
theorem s_len2 {xs : List Tr} : bltE .len [.ow xs] = .ok (.im (.int (xs.length : Int))) := id rfl
theorem s_abs {i : Int} : bltE .abs [.im (.int i)] = .ok (.im (.int (if i < 0 then -i else i))) := id rfl
theorem s_fzb {xs : List Tr} : (Rs.br xs).fz = .no := id rfl
theorem s_bint {b : Bool} : bltE .int [.im (.bl b)] = .ok (.im (.int (if b = true then 1 else 0))) := id rfl
/-! ### whole lists -/
theorem lc_of {α : Type} {F : α → Tr} {f : Tr → Oc (Option Tr)} {g : α → Tr} : ∀ {S : List α}, (∀ p ∈ S, f (F p) = .ok (some (g p))) → lcGo f (S.map F) = .ok (S.map g)
  | [], _ => rfl
  | p :: S, h => by
    rw [List.map_cons, s_lg1, h p List.mem_cons_self, s_lg2, lc_of (fun q hq => h q (List.mem_cons_of_mem _ hq)), s_lg3, List.map_cons]
theorem rng_map (n : Nat) : rangeT 0 (n : Int) = (List.range n).map (fun k : Nat => Tr.int (k : Int)) := by
  unfold rangeT
  rw [Int.toNat_natCast]
  refine List.map_congr_left fun k _ => ?_
  rw [Int.zero_add]
theorem lc_rng {f : Tr → Oc (Option Tr)} {g : Nat → Tr} {n : Nat} (h : ∀ k : Nat, k < n → f (.int (k : Int)) = .ok (some (g k))) : lcGo f (rangeT 0 (n : Int)) = .ok ((List.range n).map g) := by
  rw [rng_map]
  exact lc_of (fun p hp => h p (List.mem_range.mp hp))
theorem rng_len (n : Nat) : (rangeT 0 (n : Int)).length = n := by rw [rangeT_len, Int.toNat_natCast]
theorem asBm {α : Type} {P : α → Bool} : ∀ (S : List α), asBools (S.map fun p => Tr.bl (P p)) = .ok (S.map P)
  | [] => rfl
  | p :: S => by
    rw [List.map_cons, asBools, show oBool (.bl (P p)) = .ok (P p) from rfl, Oc.ok_bind, asBm S, Oc.ok_bind, List.map_cons]
theorem asIm {α : Type} {P : α → Int} : ∀ (S : List α), asInts (S.map fun p => Tr.int (P p)) = .ok (S.map P)
  | [] => rfl
  | p :: S => by
    rw [List.map_cons, asInts, show oInt (.int (P p)) = .ok (P p) from rfl, Oc.ok_bind, asIm S, Oc.ok_bind, List.map_cons]
theorem s_all {α : Type} {P : α → Bool} {S : List α} : bltE .all [.ow (S.map fun p => Tr.bl (P p))] = .ok (.im (.bl (S.all P))) := by
  rw [show bltE .all [.ow (S.map fun p => Tr.bl (P p))] = (asBools (S.map fun p => Tr.bl (P p)) >>= fun is => .ok (.im (.bl (is.all id)))) from rfl, asBm, Oc.ok_bind, List.all_map]
  rfl
theorem s_min {α : Type} {P : α → Int} {S : List α} (h : S ≠ []) : bltE .min1 [.ow (S.map fun p => Tr.int (P p))] = .ok (.im (.int (minL (S.map P)))) := by
  rw [show bltE .min1 [.ow (S.map fun p => Tr.int (P p))] = (asInts (S.map fun p => Tr.int (P p)) >>= fun is => if is.isEmpty then .no else .ok (.im (.int (minL is)))) from rfl, asIm, Oc.ok_bind, if_neg]
  rw [Bool.not_eq_true, List.isEmpty_eq_false_iff]
  exact fun z => h (List.map_eq_nil_iff.mp z)
/-- a loop that goes on to its end -/
theorem for_fold {α : Type} {C : Ctx} {tg : Tg} {b : List Sm} {F : α → Tr} {I : List α → List Sl → Prop} {S : List α}
    (h : ∀ p e, p ∈ S → ∀ pre, I pre e → ∃ e', kBd C b (bindTg tg (F p) e) = .ok (.nx e') ∧ I (pre ++ [p]) e') : ∀ (pre post : List α), pre ++ post = S → ∀ e, I pre e → ∃ e', forK C tg b (post.map F) e = .ok (.nx e') ∧ I S e'
  | pre, [], hp, e, hi => ⟨e, rfl, by rw [← hp, List.append_nil]; exact hi⟩
  | pre, p :: post, hp, e, hi => by
    obtain ⟨e1, h1, h2⟩ := h p e (by rw [← hp]; exact List.mem_append_right _ List.mem_cons_self) pre hi
    obtain ⟨e2, h3, h4⟩ := for_fold h (pre ++ [p]) post (by rw [← hp, List.append_assoc]; rfl) e1 h2
    exact ⟨e2, by rw [List.map_cons, q_fg1, h1, q_f1, h3], h4⟩
/-- a loop that seeks -/
theorem for_any {α : Type} {C : Ctx} {tg : Tg} {b : List Sm} {F : α → Tr} {P : α → Bool} {r : Rs} {I : List Sl → Prop} : ∀ {S : List α},
    (∀ p ∈ S, ∀ e, I e → (P p = true → kBd C b (bindTg tg (F p) e) = .ok (.rt r)) ∧ (P p = false → ∃ e', kBd C b (bindTg tg (F p) e) = .ok (.nx e') ∧ I e')) → ∀ e, I e →
    (S.any P = true → forK C tg b (S.map F) e = .ok (.rt r)) ∧ (S.any P = false → ∃ e', forK C tg b (S.map F) e = .ok (.nx e') ∧ I e')
  | [], h, e, hi => ⟨fun z => (by cases z), fun _ => ⟨e, rfl, hi⟩⟩
  | p :: S, h, e, hi => by
    obtain ⟨h1, h2⟩ := h p List.mem_cons_self e hi
    cases hp : P p with
    | true =>
      refine ⟨fun _ => ?_, fun z => ?_⟩
      · rw [List.map_cons, q_fg1, h1 hp, q_f2]
      · rw [List.any_cons, hp] at z; cases z
    | false =>
      obtain ⟨e1, k1, k2⟩ := h2 hp
      obtain ⟨g1, g2⟩ := for_any (fun q hq => h q (List.mem_cons_of_mem _ hq)) e1 k2
      rw [List.any_cons, hp, Bool.false_or, List.map_cons, q_fg1, k1, q_f1]
      exact ⟨g1, g2⟩
/-! ### places in lists of points -/
def gt (S : List Pt) (k : Nat) : Pt := S.getD k zP
def pv (n k : Nat) : Nat := if k = 0 then n - 1 else k - 1
theorem pv_lt {n k : Nat} (h : k < n) : pv n k < n := by unfold pv; split <;> omega
theorem gt_ix {S : List Pt} {k : Nat} (h : k < S.length) : gt S k = S[k] := by
  unfold gt
  rw [List.getD_eq_getElem?_getD, List.getElem?_eq_getElem h]
  rfl
theorem gt_mem {S : List Pt} {k : Nat} (h : k < S.length) : gt S k ∈ S := by
  rw [gt_ix h]
  exact List.getElem_mem h
theorem gt_get {S : List Pt} {k : Nat} (h : k < S.length) : S[k]? = some (gt S k) := by
  rw [gt_ix h, List.getElem?_eq_getElem h]
theorem mem_gt {S : List Pt} {p : Pt} (h : p ∈ S) : ∃ k, k < S.length ∧ p = gt S k := by
  obtain ⟨k, hk, e⟩ := List.getElem_of_mem h
  refine ⟨k, hk, ?_⟩
  rw [gt_ix hk, e]
theorem at_pt {S : List Pt} {k : Nat} (h : k < S.length) : ixE (.lst (S.map pt)) (.int (k : Int)) = .ok (pt (gt S k)) := by
  refine ixL_of (atI_of (by omega) ?_)
  rw [Int.toNat_natCast, List.getElem?_map, gt_get h]
  rfl
theorem at_pv {S : List Pt} {k : Nat} (h : k < S.length) : ixE (.lst (S.map pt)) (.int ((k : Int) - 1)) = .ok (pt (gt S (pv S.length k))) := by
  by_cases z : k = 0
  · subst z
    refine ixL_of ?_
    unfold atI ixN
    rw [List.length_map, if_neg (by omega), if_pos (by omega)]
    show (S.map pt)[_]? = _
    rw [show (((0 : Nat) : Int) - 1 + (S.length : Int)).toNat = pv S.length 0 by unfold pv; rw [if_pos rfl]; omega, List.getElem?_map, gt_get (pv_lt h)]
    rfl
  · rw [show (k : Int) - 1 = ((pv S.length k : Nat) : Int) by unfold pv; rw [if_neg z]; omega]
    exact at_pt (pv_lt h)
theorem modN (c : Int) {n : Nat} (h : 0 < n) : ∃ k : Nat, k < n ∧ c % (n : Int) = (k : Int) := by
  have h1 := Int.emod_nonneg c (show (n : Int) ≠ 0 by omega)
  have h2 := Int.emod_lt_of_pos c (show (0 : Int) < n by omega)
  exact ⟨(c % (n : Int)).toNat, by omega, by omega⟩
theorem gt_map {f : Pt → Pt} {S : List Pt} {k : Nat} (h : k < S.length) : gt (S.map f) k = f (gt S k) := by
  rw [gt_ix (by rw [List.length_map]; exact h), List.getElem_map, gt_ix h]
def sdT (s : Pt × Pt) : Tr := .tup [pt s.1, pt s.2]
def sd (S : List Pt) : List (Pt × Pt) := (List.range S.length).map fun k => (gt S (pv S.length k), gt S k)
theorem g_s0 {s : Pt × Pt} : ixE (sdT s) (.int 0) = .ok (pt s.1) := id rfl
theorem g_s1 {s : Pt × Pt} : ixE (sdT s) (.int 1) = .ok (pt s.2) := id rfl
theorem g_sa {env : List Sl} {i j : Nat} {s : Pt × Pt} : bindTg (.tp [i, j]) (sdT s) env = bindTp [i, j] [pt s.1, pt s.2] env := id rfl
theorem sd_mem {S : List Pt} {s : Pt × Pt} (h : s ∈ sd S) : s.1 ∈ S ∧ s.2 ∈ S := by
  obtain ⟨k, hk, rfl⟩ := List.mem_map.mp h
  have hk := List.mem_range.mp hk
  exact ⟨gt_mem (pv_lt hk), gt_mem hk⟩
/-! ### bounds -/
def Bd (n : Int) (p : Pt) : Prop := (-n ≤ p.x ∧ p.x ≤ n) ∧ (-n ≤ p.y ∧ p.y ≤ n) ∧ (-n ≤ p.u ∧ p.u ≤ n) ∧ (-n ≤ p.v ∧ p.v ≤ n)
theorem Bd.le {n k : Int} {p : Pt} (h : Bd n p) (hk : n ≤ k) : Bd k p := by
  unfold Bd at h ⊢
  omega
theorem Bd.ad {n k : Int} {p q : Pt} (h : Bd n p) (h2 : Bd k q) : Bd (n + k) (adP p q) := by
  unfold Bd at h h2 ⊢
  show (-(n + k) ≤ p.x + q.x ∧ p.x + q.x ≤ n + k) ∧ (-(n + k) ≤ p.y + q.y ∧ p.y + q.y ≤ n + k) ∧ (-(n + k) ≤ p.u + q.u ∧ p.u + q.u ≤ n + k) ∧ (-(n + k) ≤ p.v + q.v ∧ p.v + q.v ≤ n + k)
  omega
theorem Bd.sb {n k : Int} {p q : Pt} (h : Bd n p) (h2 : Bd k q) : Bd (n + k) (sbP p q) := by
  unfold Bd at h h2 ⊢
  show (-(n + k) ≤ p.x - q.x ∧ p.x - q.x ≤ n + k) ∧ (-(n + k) ≤ p.y - q.y ∧ p.y - q.y ≤ n + k) ∧ (-(n + k) ≤ p.u - q.u ∧ p.u - q.u ≤ n + k) ∧ (-(n + k) ≤ p.v - q.v ∧ p.v - q.v ≤ n + k)
  omega
theorem OkP.sb {m : Int} {p q : Pt} (hp : OkP m p) (hq : OkP m q) : OkP m (sbP p q) := fun h => by
  obtain ⟨a, b⟩ := hp h
  obtain ⟨c, d⟩ := hq h
  exact ⟨by show p.y - q.y = 0; omega, by show p.v - q.v = 0; omega⟩
theorem bits_of_bd {n x : Int} (h : -n ≤ x ∧ x ≤ n) (hn : n ≤ 1152921504606846976) : intBits x ≤ 64 := intBits_le_64 (by omega) (by omega)
theorem Bd.bt {n : Int} {p : Pt} (h : Bd n p) (hn : n ≤ 1152921504606846976) : BtP 64 p := ⟨bits_of_bd h.1 hn, bits_of_bd h.2.1 hn, bits_of_bd h.2.2.1 hn, bits_of_bd h.2.2.2 hn⟩
/-- a point of one's frame that is near enough for signs by thirty figures -/
def Gd (m : Int) (p : Pt) : Prop := OkP m p ∧ Bd 200000 p
theorem mul_bd {a b x y : Int} (h : -a ≤ x ∧ x ≤ a) (h2 : -b ≤ y ∧ y ≤ b) : -(a * b) ≤ x * y ∧ x * y ≤ a * b := by
  have ha : 0 ≤ a := by omega
  have hb : 0 ≤ b := by omega
  rcases (show 0 ≤ x ∨ x ≤ 0 by omega) with z | z <;> rcases (show 0 ≤ y ∨ y ≤ 0 by omega) with w | w
  · have := Int.mul_nonneg z w
    have := Int.mul_le_mul h.2 h2.2 w ha
    omega
  · have := Int.mul_nonneg z (show 0 ≤ -y by omega)
    have := Int.mul_le_mul h.2 (show -y ≤ b by omega) (by omega) ha
    rw [Int.mul_neg] at *
    omega
  · have := Int.mul_nonneg (show 0 ≤ -x by omega) w
    have := Int.mul_le_mul (show -x ≤ a by omega) h2.2 w ha
    rw [Int.neg_mul] at *
    omega
  · have := Int.mul_nonneg (show 0 ≤ -x by omega) (show 0 ≤ -y by omega)
    have := Int.mul_le_mul (show -x ≤ a by omega) (show -y ≤ b by omega) (by omega) ha
    rw [Int.neg_mul_neg] at *
    omega
theorem bd_mR {m a b c d n k : Int} (ha : -n ≤ a ∧ a ≤ n) (hb : -n ≤ b ∧ b ≤ n) (hc : -k ≤ c ∧ c ≤ k) (hd : -k ≤ d ∧ d ≤ k) : -(3 * (n * k)) ≤ mR m a b c d ∧ mR m a b c d ≤ 3 * (n * k) := by
  have h1 := mul_bd ha hd
  have h2 := mul_bd hb hc
  have h3 := mul_bd hb hd
  unfold mR wB
  split <;> omega
theorem bd_mP {m a b c d n k : Int} (ha : -n ≤ a ∧ a ≤ n) (hb : -n ≤ b ∧ b ≤ n) (hc : -k ≤ c ∧ c ≤ k) (hd : -k ≤ d ∧ d ≤ k) : -(4 * (n * k)) ≤ mP m a b c d ∧ mP m a b c d ≤ 4 * (n * k) := by
  have h1 := mul_bd ha hc
  have h3 := mul_bd hb hd
  unfold mP wA
  split
  · omega
  · split
    · omega
    · split
      · omega
      · split <;> omega
theorem bd_cY {m n k : Int} {p q : Pt} (h : Bd n p) (h2 : Bd k q) : -(6 * (n * k)) ≤ cY m p q ∧ cY m p q ≤ 6 * (n * k) := by
  have h1 := bd_mR (m := m) h.1 h.2.1 h2.2.2.1 h2.2.2.2
  have h3 := bd_mR (m := m) h.2.2.1 h.2.2.2 h2.1 h2.2.1
  unfold cY
  omega
theorem bd_cX {m n k : Int} {p q : Pt} (h : Bd n p) (h2 : Bd k q) : -(8 * (n * k)) ≤ cX m p q ∧ cX m p q ≤ 8 * (n * k) := by
  have h1 := bd_mP (m := m) h.1 h.2.1 h2.2.2.1 h2.2.2.2
  have h3 := bd_mP (m := m) h.2.2.1 h.2.2.2 h2.1 h2.2.1
  unfold cX
  omega
/-- at which hand r lies -/
def hd (m : Int) (p q r : Pt) : Int := sg m (cX m (sbP q p) (sbP r p)) (cY m (sbP q p) (sbP r p))
theorem hd_near {m : Int} (hm : Sz m) {p q r : Pt} (hp : Gd m p) (hq : Gd m q) (hr : Gd m r) : sgn (cX m (sbP q p) (sbP r p) * 1000000000000000000000000000000 + cY m (sbP q p) (sbP r p) * wT m) = hd m p q r := by
  have b := bd_cY (m := m) (hq.2.sb hp.2) (hr.2.sb hp.2)
  exact near_sg hm (cY_ok (hq.1.sb hp.1) (hr.1.sb hp.1)) (by omega) (by omega)
def ptd (m : Int) (S T : List Pt) : Bool := (sd S).any fun s => T.all fun r => decide (hd m s.1 s.2 r < 1)
end PF

namespace PF
open PySem PySem.Spec PyProof.Rows L2 PySem.HandSPX
open Builtin.Int (intBits)
/-! ### shapes without bays, in plain Lean -/
def Conv (m : Int) (S : List Pt) : Prop := ∀ i j l, i < j → j < l → l < S.length → Tri m (gt S i) (gt S j) (gt S l)
theorem gt_erase {S : List Pt} {i j : Nat} : gt (S.eraseIdx i) j = gt S (if j < i then j else j + 1) := by
  unfold gt
  rw [List.getD_eq_getElem?_getD, List.getD_eq_getElem?_getD, List.getElem?_eraseIdx]
  by_cases h : j < i
  · rw [if_pos h, if_pos h]
  · rw [if_neg h, if_neg h]
theorem Conv.erase {m : Int} {S : List Pt} (h : Conv m S) {i : Nat} (hi : i < S.length) : Conv m (S.eraseIdx i) := by
  intro a b c h1 h2 h3
  rw [List.length_eraseIdx, if_pos hi] at h3
  rw [gt_erase, gt_erase, gt_erase]
  refine h _ _ _ ?_ ?_ ?_
  · split <;> split <;> omega
  · split <;> split <;> omega
  · split <;> omega
theorem Conv.third {m : Int} {S : List Pt} (h : Conv m S) {k j : Nat} (hk : k < S.length) (hj : j < S.length) (h1 : j ≠ k) (h2 : j ≠ pv S.length k) : hd m (gt S (pv S.length k)) (gt S k) (gt S j) = 1 := by
  show Tri m _ _ _
  unfold pv at h2 ⊢
  split at h2
  · rename_i z
    subst z
    rw [if_pos rfl]
    exact tri_rot (tri_rot (h 0 j (S.length - 1) (by omega) (by omega) (by omega)))
  · rename_i z
    rw [if_neg z]
    by_cases q : j < k - 1
    · exact tri_rot (h j (k - 1) k q (by omega) hk)
    · exact h (k - 1) k j (by omega) (by omega) hj
theorem sb_self {p : Pt} : sbP p p = zP := pt_eq (Int.sub_self _) (Int.sub_self _) (Int.sub_self _) (Int.sub_self _)
theorem c_z2 {m : Int} {p : Pt} : cX m p zP = 0 ∧ cY m p zP = 0 := by
  unfold cX cY mP mR zP
  constructor <;> grind
theorem sg_00 {m : Int} (hm : Sz m) : sg m 0 0 = 0 := by rcases hm with rfl | rfl | rfl | rfl | rfl <;> rfl
theorem hd_a {m : Int} (hm : Sz m) {p q : Pt} : hd m p q p = 0 := by
  unfold hd
  rw [sb_self, c_z2.1, c_z2.2, sg_00 hm]
theorem hd_b {m : Int} (hm : Sz m) {p q : Pt} : hd m p q q = 0 := by
  unfold hd
  rw [c_self.1, c_self.2, sg_00 hm]
/-- all corners lie on a side or to its left -/
theorem Conv.ge {m : Int} (hm : Sz m) {S : List Pt} (h : Conv m S) {k : Nat} (hk : k < S.length) {r : Pt} (hr : r ∈ S) : hd m (gt S (pv S.length k)) (gt S k) r = 1 ∨ hd m (gt S (pv S.length k)) (gt S k) r = 0 := by
  obtain ⟨j, hj, rfl⟩ := mem_gt hr
  by_cases h1 : j = k
  · subst h1; exact .inr (hd_b hm)
  · by_cases h2 : j = pv S.length k
    · subst h2; exact .inr (hd_a hm)
    · exact .inl (h.third hk hj h1 h2)
theorem third_ix {n k : Nat} (hn : 3 ≤ n) (hk : k < n) : ∃ j, j < n ∧ j ≠ k ∧ j ≠ pv n k := by
  unfold pv
  split
  · exact ⟨1, by omega, by omega, by omega⟩
  · by_cases h : k + 1 < n
    · exact ⟨k + 1, by omega, by omega, by omega⟩
    · exact ⟨0, by omega, by omega, by omega⟩
theorem ptd_false {m : Int} {S T : List Pt} (h : ∀ k, k < S.length → ∃ r ∈ T, hd m (gt S (pv S.length k)) (gt S k) r = 1) : ptd m S T = false := by
  unfold ptd sd
  rw [List.any_map, List.any_eq_false]
  intro k hk
  obtain ⟨r, hr, e⟩ := h k (List.mem_range.mp hk)
  rw [Function.comp, List.all_eq_true]
  intro z
  have z := of_decide_eq_true (z r hr)
  simp only at z
  rw [e] at z
  omega
theorem ptd_true {m : Int} {S T : List Pt} {k : Nat} (hk : k < S.length) (h : ∀ r ∈ T, hd m (gt S (pv S.length k)) (gt S k) r < 1) : ptd m S T = true := by
  unfold ptd sd
  rw [List.any_map, List.any_eq_true]
  refine ⟨k, List.mem_range.mpr hk, ?_⟩
  rw [Function.comp, List.all_eq_true]
  exact fun r hr => decide_eq_true (h r hr)
theorem Conv.self {m : Int} {S : List Pt} (h : Conv m S) (hn : 3 ≤ S.length) : ptd m S S = false := by
  refine ptd_false fun k hk => ?_
  obtain ⟨j, hj, h1, h2⟩ := third_ix hn hk
  exact ⟨_, gt_mem hj, h.third hk hj h1 h2⟩
/-! sums of points -/
def wid (c : Int) (p : Pt) : Pt := ⟨c * p.x, c * p.y, c * p.u, c * p.v⟩
def tt : List Pt → Pt
  | [] => zP
  | p :: S => adP p (tt S)
theorem ad_assoc {p q r : Pt} : adP (adP p q) r = adP p (adP q r) := pt_eq (Int.add_assoc _ _ _) (Int.add_assoc _ _ _) (Int.add_assoc _ _ _) (Int.add_assoc _ _ _)
theorem ad_z {p : Pt} : adP p zP = p := pt_eq (Int.add_zero _) (Int.add_zero _) (Int.add_zero _) (Int.add_zero _)
theorem z_ad {p : Pt} : adP zP p = p := pt_eq (Int.zero_add _) (Int.zero_add _) (Int.zero_add _) (Int.zero_add _)
theorem tt_app : ∀ {S T : List Pt}, tt (S ++ T) = adP (tt S) (tt T)
  | [], T => z_ad.symm
  | p :: S, T => by rw [List.cons_append, tt, tt, tt_app, ad_assoc]
theorem tt_lin {c : Int} {q : Pt} : ∀ (S : List Pt), tt (S.map fun s => sbP (wid c s) q) = sbP (wid c (tt S)) (wid (S.length : Int) q)
  | [] => pt_eq (by show (0 : Int) = c * 0 - ((0 : Nat) : Int) * q.x; simp) (by show (0 : Int) = c * 0 - ((0 : Nat) : Int) * q.y; simp) (by show (0 : Int) = c * 0 - ((0 : Nat) : Int) * q.u; simp) (by show (0 : Int) = c * 0 - ((0 : Nat) : Int) * q.v; simp)
  | s :: S => by
    rw [List.map_cons, tt, tt_lin S, tt, List.length_cons]
    have e : ∀ a b x : Int, c * a - x + (c * b - (S.length : Int) * x) = c * (a + b) - ((S.length + 1 : Nat) : Int) * x := fun a b x => by
      rw [Int.mul_add, Int.natCast_add, Int.add_mul]
      omega
    exact pt_eq (e _ _ _) (e _ _ _) (e _ _ _) (e _ _ _)
theorem wid_1 {p : Pt} : wid 1 p = p := pt_eq (Int.one_mul _) (Int.one_mul _) (Int.one_mul _) (Int.one_mul _)
theorem sb_wid {c : Int} {p q : Pt} : sbP (wid c p) (wid c q) = wid c (sbP p q) := pt_eq (Int.mul_sub _ _ _).symm (Int.mul_sub _ _ _).symm (Int.mul_sub _ _ _).symm (Int.mul_sub _ _ _).symm
theorem c_wid1 {m c : Int} {p q : Pt} : cX m (wid c p) q = c * cX m p q ∧ cY m (wid c p) q = c * cY m p q := by
  unfold cX cY mP mR wid
  constructor <;> grind
theorem c_wid2 {m c : Int} {p q : Pt} : cX m p (wid c q) = c * cX m p q ∧ cY m p (wid c q) = c * cY m p q := by
  unfold cX cY mP mR wid
  constructor <;> grind
theorem sg_w {m c a b : Int} (hm : Sz m) (hb : m < 8 → b = 0) (hc : 0 < c) : sg m (c * a) (c * b) = sg m a b := by
  have e := sg_mul (m := m) (a := c) (b := 0) (c := a) (d := b) hm (fun _ => rfl) hb
  have e1 : mP m c 0 a b = c * a := by unfold mP; rw [Int.zero_mul, Int.mul_zero, Int.add_zero]
  have e2 : mR m c 0 a b = c * b := by unfold mR; rw [Int.zero_mul, Int.zero_mul, Int.mul_zero, Int.add_zero, Int.add_zero]
  rw [e1, e2] at e
  rw [e]
  have : sg m c 0 = 1 := by
    have p0 : sgn c = 1 := sgn_p hc
    rcases hm with rfl | rfl | rfl | rfl | rfl
    · exact p0
    · exact p0
    · rw [sg8]; unfold sD; rw [if_pos (by have := Int.mul_pos hc hc; omega)]; exact p0
    · rw [sg10]; unfold sD; rw [if_pos (by have := Int.mul_pos hc hc; grind)]; exact sgn_p (by omega)
    · rw [sg12]; unfold sD; rw [if_pos (by have := Int.mul_pos hc hc; omega)]; exact p0
  rw [this, Int.one_mul]
/-- above 0 or 0 -/
def NN (m a b : Int) : Prop := sg m a b = 1 ∨ (a = 0 ∧ b = 0)
theorem sg_z {m a b : Int} (hm : Sz m) (hb : m < 8 → b = 0) (h : sg m a b = 0) : a = 0 ∧ b = 0 := by
  rw [sg_dsg hm hb] at h
  exact (dsg_0 hb).mp h
theorem sgn3 (x : Int) : sgn x = 1 ∨ sgn x = 0 ∨ sgn x = -1 := by
  rcases Int.lt_trichotomy x 0 with h | h | h
  · exact .inr (.inr (sgn_n h))
  · subst h; exact .inr (.inl sgn_0)
  · exact .inl (sgn_p h)
theorem sg3 {m a b : Int} (hm : Sz m) : sg m a b = 1 ∨ sg m a b = 0 ∨ sg m a b = -1 := by
  rcases hm with rfl | rfl | rfl | rfl | rfl
  · exact sgn3 _
  · exact sgn3 _
  · rw [sg8]; unfold sD; split <;> exact sgn3 _
  · rw [sg10]; unfold sD; split <;> exact sgn3 _
  · rw [sg12]; unfold sD; split <;> exact sgn3 _
theorem NN.of {m a b : Int} (hm : Sz m) (hb : m < 8 → b = 0) (h : sg m a b ≠ -1) : NN m a b := by
  rcases sg3 (a := a) (b := b) hm with z | z | z
  · exact .inl z
  · exact .inr (sg_z hm hb z)
  · exact absurd z h
theorem NN.add {m a b c d : Int} (hm : Sz m) (h1 : NN m a b) (h2 : NN m c d) : NN m (a + c) (b + d) := by
  rcases h1 with h1 | ⟨rfl, rfl⟩
  · rcases h2 with h2 | ⟨rfl, rfl⟩
    · exact .inl (sg_add hm h1 h2)
    · rw [Int.add_zero, Int.add_zero]; exact .inl h1
  · rw [Int.zero_add, Int.zero_add]; exact h2
theorem sg_addN {m a b c d : Int} (hm : Sz m) (h1 : sg m a b = 1) (h2 : NN m c d) : sg m (a + c) (b + d) = 1 := by
  rcases h2 with h2 | ⟨rfl, rfl⟩
  · exact sg_add hm h1 h2
  · rw [Int.add_zero, Int.add_zero]; exact h1
/-- what lies to the left adds up -/
theorem NN.tt {m : Int} (hm : Sz m) {d : Pt} {f : Pt → Pt} : ∀ {S : List Pt}, (∀ s ∈ S, NN m (cX m d (f s)) (cY m d (f s))) → NN m (cX m d (tt (S.map f))) (cY m d (tt (S.map f)))
  | [], _ => .inr c_z2
  | s :: S, h => by
    rw [List.map_cons, PF.tt, c_add.1, c_add.2]
    exact (h s List.mem_cons_self).add hm (NN.tt hm fun q hq => h q (List.mem_cons_of_mem _ hq))
theorem sg_tt {m : Int} (hm : Sz m) {d : Pt} {f : Pt → Pt} : ∀ {S : List Pt}, (∀ s ∈ S, NN m (cX m d (f s)) (cY m d (f s))) → (∃ s ∈ S, sg m (cX m d (f s)) (cY m d (f s)) = 1) → sg m (cX m d (tt (S.map f))) (cY m d (tt (S.map f))) = 1
  | [], _, h2 => by obtain ⟨_, h, _⟩ := h2; cases h
  | s :: S, h, ⟨p, hp, hs⟩ => by
    rw [List.map_cons, PF.tt, c_add.1, c_add.2]
    rcases List.mem_cons.mp hp with rfl | hp
    · exact sg_addN hm hs (NN.tt hm fun q hq => h q (List.mem_cons_of_mem _ hq))
    · rw [Int.add_comm, Int.add_comm (cY m d _)]
      exact sg_addN hm (sg_tt hm (fun q hq => h q (List.mem_cons_of_mem _ hq)) ⟨p, hp, hs⟩) (h s List.mem_cons_self)
def amid (S : List Pt) : List Pt := S.map fun p => adP p (tt S)
def OkL (m : Int) (S : List Pt) : Prop := ∀ p ∈ S, OkP m p
theorem OkP.wid {m c : Int} {p : Pt} (h : OkP m p) : OkP m (wid c p) := fun h8 => by
  obtain ⟨a, b⟩ := h h8
  exact ⟨by show c * p.y = 0; rw [a, Int.mul_zero], by show c * p.v = 0; rw [b, Int.mul_zero]⟩
theorem OkL.tt {m : Int} : ∀ {S : List Pt}, OkL m S → OkP m (tt S)
  | [], _ => fun _ => ⟨rfl, rfl⟩
  | p :: S, h => (h p List.mem_cons_self).ad (OkL.tt fun q hq => h q (List.mem_cons_of_mem _ hq))
theorem Conv.NN {m : Int} (hm : Sz m) {S : List Pt} (h : Conv m S) (ok : OkL m S) {k : Nat} (hk : k < S.length) {r : Pt} (hr : r ∈ S) : NN m (cX m (sbP (gt S k) (gt S (pv S.length k))) (sbP r (gt S (pv S.length k)))) (cY m (sbP (gt S k) (gt S (pv S.length k))) (sbP r (gt S (pv S.length k)))) := by
  have o1 := ok _ (gt_mem hk)
  have o2 := ok _ (gt_mem (pv_lt hk))
  rcases h.ge hm hk hr with z | z
  · exact .inl z
  · exact .inr (sg_z hm (cY_ok (o1.sb o2) ((ok _ hr).sb o2)) z)
theorem great_amid {m : Int} (hm : Sz m) {S : List Pt} (h : Conv m S) (ok : OkL m S) (hn : 3 ≤ S.length) : ptd m (S.map (wid ((S.length : Int) + 1))) (amid S) = false := by
  refine ptd_false fun k hk => ?_
  rw [List.length_map] at hk ⊢
  obtain ⟨j, hj, h1, h2⟩ := third_ix hn hk
  refine ⟨adP (gt S j) (tt S), List.mem_map.mpr ⟨_, gt_mem hj, rfl⟩, ?_⟩
  rw [gt_map (pv_lt hk), gt_map hk]
  have o1 := ok _ (gt_mem hk)
  have o2 := ok _ (gt_mem (pv_lt hk))
  have t := h.third hk hj h1 h2
  have g : ∀ s ∈ S, PF.NN m _ _ := fun s hs => h.NN hm ok hk hs
  generalize gt S (pv S.length k) = p at *
  generalize gt S k = q at *
  have s := NN.tt hm (f := fun s => sbP s p) g
  have l := tt_lin (c := 1) (q := p) S
  simp only [wid_1] at l
  rw [l] at s
  have e : sbP (adP (gt S j) (tt S)) (wid ((S.length : Int) + 1) p) = adP (sbP (gt S j) p) (sbP (tt S) (wid (S.length : Int) p)) := by
    have e : ∀ a b x : Int, a + b - ((S.length : Int) + 1) * x = a - x + (b - (S.length : Int) * x) := fun a b x => by
      rw [Int.add_mul]
      omega
    exact pt_eq (e _ _ _) (e _ _ _) (e _ _ _) (e _ _ _)
  unfold hd at t ⊢
  rw [e, sb_wid, c_wid1.1, c_wid1.2, c_add.1, c_add.2, sg_w hm ?_ (by omega)]
  · exact sg_addN hm t s
  · intro h8
    have y1 := cY_ok (o1.sb o2) ((ok _ (gt_mem hj)).sb o2) h8
    have y2 := cY_ok (o1.sb o2) ((ok.tt).sb (o2.wid (c := (S.length : Int)))) h8
    rw [y1, y2]; rfl
theorem amid_great {m : Int} (hm : Sz m) {S : List Pt} (h : Conv m S) (ok : OkL m S) (hn : 3 ≤ S.length) : ptd m (amid S) (S.map (wid ((S.length : Int) + 1))) = false := by
  refine ptd_false fun k hk => ?_
  unfold amid at hk ⊢
  rw [List.length_map] at hk ⊢
  rw [gt_map (pv_lt hk), gt_map hk]
  obtain ⟨j, hj, h1, h2⟩ := third_ix hn hk
  have t := h.third hk hj h1 h2
  have o1 := ok _ (gt_mem hk)
  have o2 := ok _ (gt_mem (pv_lt hk))
  have g : ∀ s ∈ S, PF.NN m _ _ := fun s hs => h.NN hm ok hk hs
  generalize gt S (pv S.length k) = p at *
  generalize gt S k = q at *
  have ed : sbP (adP q (tt S)) (adP p (tt S)) = sbP q p := by
    have e : ∀ a b c : Int, a + c - (b + c) = a - b := fun a b c => by omega
    exact pt_eq (e _ _ _) (e _ _ _) (e _ _ _) (e _ _ _)
  by_cases z : ∃ r ∈ S.map (wid ((S.length : Int) + 1)), hd m (adP p (tt S)) (adP q (tt S)) r = 1
  · exact z
  · exfalso
    have pos := sg_tt hm (f := fun s => sbP s p) g ⟨_, gt_mem hj, t⟩
    have neg := NN.tt hm (d := ngP (sbP q p)) (f := fun s => sbP (wid ((S.length : Int) + 1) s) (adP p (tt S))) (S := S) (fun s hs => by
      have os := ((ok _ hs).wid (c := (S.length : Int) + 1)).sb (o2.ad ok.tt)
      have y := cY_ok (o1.sb o2) os
      rw [c_ng1.1, c_ng1.2]
      refine NN.of hm (fun h8 => by rw [y h8]; rfl) ?_
      intro w
      rw [sg_neg] at w
      refine z ⟨_, List.mem_map.mpr ⟨_, hs, rfl⟩, ?_⟩
      unfold hd
      rw [ed]
      omega)
    rw [tt_lin] at neg
    have l := tt_lin (c := 1) (q := p) S
    simp only [wid_1] at l
    rw [l] at pos
    have e : sbP (wid ((S.length : Int) + 1) (tt S)) (wid (S.length : Int) (adP p (tt S))) = sbP (tt S) (wid (S.length : Int) p) := by
      have e : ∀ a b : Int, ((S.length : Int) + 1) * a - (S.length : Int) * (b + a) = a - (S.length : Int) * b := fun a b => by
        rw [Int.add_mul, Int.mul_add]
        omega
      exact pt_eq (e _ _) (e _ _) (e _ _) (e _ _)
    rw [e, c_ng1.1, c_ng1.2] at neg
    rcases neg with n | ⟨n1, n2⟩
    · rw [sg_neg, pos] at n; omega
    · rw [show cX m (sbP q p) (sbP (tt S) (wid (S.length : Int) p)) = 0 by omega, show cY m (sbP q p) (sbP (tt S) (wid (S.length : Int) p)) = 0 by omega, sg_00 hm] at pos
      omega
/-- turned half about the middle of a side -/
def hal (S : List Pt) (k : Nat) : List Pt := S.map fun p => sbP (adP (gt S (pv S.length k)) (gt S k)) p
theorem hd_hal {m : Int} {a b s : Pt} : hd m a b (sbP (adP a b) s) = -hd m a b s := by
  unfold hd
  rw [← sg_neg]
  have e : sbP (sbP (adP a b) s) a = adP (sbP b a) (ngP (sbP s a)) := by
    have e : ∀ a b c : Int, a + b - c - a = b - a + -(c - a) := fun a b c => by omega
    exact pt_eq (e _ _ _) (e _ _ _) (e _ _ _) (e _ _ _)
  rw [e, c_add.1, c_add.2, c_self.1, c_self.2, c_ng2.1, c_ng2.2, Int.zero_add, Int.zero_add]
theorem Conv.hal {m : Int} (hm : Sz m) {S : List Pt} (h : Conv m S) {k : Nat} (hk : k < S.length) : ptd m S (hal S k) = true := by
  refine ptd_true hk fun r hr => ?_
  obtain ⟨s, hs, rfl⟩ := List.mem_map.mp hr
  rw [hd_hal]
  rcases h.ge hm hk hs with z | z <;> rw [z] <;> decide
/-! ways and rims, with bounds -/
theorem wy_ok {m t a b : Int} (hb : m < 8 → b = 0) : OkP m (wy m t a b) := (show OkP m ⟨a, b, 0, 0⟩ from fun h => ⟨hb h, rfl⟩).tu
theorem wy_mod {m t a b : Int} (hm : Sz m) : wy m (t % m) a b = wy m t a b := by
  unfold wy tu
  rw [Int.emod_emod]
theorem Bd.scl1 {m a b : Int} {n k : Int} {p : Pt} (h : Bd n p) (ha : -k ≤ a ∧ a ≤ k) (hb : -k ≤ b ∧ b ≤ k) : Bd (4 * (n * k)) (scl m p a b) := by
  have h1 := bd_mP (m := m) h.1 h.2.1 ha hb
  have h2 := bd_mR (m := m) h.1 h.2.1 ha hb
  have h3 := bd_mP (m := m) h.2.2.1 h.2.2.2 ha hb
  have h4 := bd_mR (m := m) h.2.2.1 h.2.2.2 ha hb
  refine ⟨h1, ?_, h3, ?_⟩
  · show _ ≤ mR m p.x p.y a b ∧ mR m p.x p.y a b ≤ _
    omega
  · show _ ≤ mR m p.u p.v a b ∧ mR m p.u p.v a b ≤ _
    omega
theorem Bd.wid {n k c : Int} {p : Pt} (h : Bd n p) (hc : -k ≤ c ∧ c ≤ k) : Bd (k * n) (wid c p) := ⟨mul_bd hc h.1, mul_bd hc h.2.1, mul_bd hc h.2.2.1, mul_bd hc h.2.2.2⟩
end PF

namespace PF
open PySem PySem.Spec PyProof.Rows L2 PySem.HandSPX
open Builtin.Int (intBits)
/-! ### rims of drawn ways -/
theorem g_l0 {a : Tr} {l : List Tr} : ixE (.lst (a :: l)) (.int 0) = .ok a := ixL_of at0
theorem g_l1 {a b : Tr} {l : List Tr} : ixE (.lst (a :: b :: l)) (.int 1) = .ok b := ixL_of at1
theorem g_l2 {a b c : Tr} {l : List Tr} : ixE (.lst (a :: b :: c :: l)) (.int 2) = .ok c := by
  refine ixL_of (atI_of (by decide) rfl)
theorem g_l3 {a b c d : Tr} {l : List Tr} : ixE (.lst (a :: b :: c :: d :: l)) (.int 3) = .ok d := by
  refine ixL_of (atI_of (by decide) rfl)
theorem g_sm (n : Nat) (h : n ≤ 10000000) : smallI (n : Int) = true := by
  unfold smallI
  rw [Bool.and_eq_true]
  exact ⟨decide_eq_true (by omega), decide_eq_true (by omega)⟩
theorem g_sm2 : smallI 2 = true := rfl
theorem g_sm3 : smallI 3 = true := rfl
theorem g_sm4 : smallI 4 = true := rfl
theorem g_r2 : rangeT 0 2 = [.int 0, .int 1] := rfl
theorem g_r3 : rangeT 0 3 = [.int 0, .int 1, .int 2] := rfl
theorem g_r4 : rangeT 0 4 = [.int 0, .int 1, .int 2, .int 3] := rfl
def kCat (xs ys : List Tr) (b : Bool) : Oc Rs := if b then .ok (.ow (xs ++ ys)) else .no
theorem g_cat {xs ys : List Tr} : opE .add (.im (.lst xs)) (.ow ys) = kCat xs ys (sizeOk (xs.length + ys.length)) := id rfl
theorem g_catm {xs ys : List Tr} : opE .add (.ow xs) (.ow ys) = kCat xs ys (sizeOk (xs.length + ys.length)) := id rfl
theorem g_cat2 {xs ys : List Tr} : kCat xs ys true = .ok (.ow (xs ++ ys)) := id rfl
/-- a loop that goes on to its end, for what stands behind it -/
theorem at_fold {α : Type} {C : Ctx} {tg : Tg} {b : List Sm} {F : α → Tr} (I : List α → List Sl → Prop) {S : List α} {e : List Sl} {ρ : Type} (G : Oc Fl → ρ) {R : ρ}
    (h : ∀ p e, p ∈ S → ∀ pre, I pre e → ∃ e', kBd C b (bindTg tg (F p) e) = .ok (.nx e') ∧ I (pre ++ [p]) e') (hi : I [] e) (hg : ∀ e', I S e' → G (.ok (.nx e')) = R) : G (forK C tg b (S.map F) e) = R := by
  obtain ⟨e', h1, h2⟩ := for_fold h [] S rfl e hi
  rw [h1]
  exact hg e' h2
theorem at_any {α : Type} {C : Ctx} {tg : Tg} {b : List Sm} {F : α → Tr} (P : α → Bool) (I : List Sl → Prop) (r : Rs) {S : List α} {e : List Sl} {ρ : Type} (G : Oc Fl → ρ) {R : ρ}
    (h : ∀ p ∈ S, ∀ e, I e → (P p = true → kBd C b (bindTg tg (F p) e) = .ok (.rt r)) ∧ (P p = false → ∃ e', kBd C b (bindTg tg (F p) e) = .ok (.nx e') ∧ I e')) (hi : I e)
    (h1 : S.any P = true → G (.ok (.rt r)) = R) (h2 : S.any P = false → ∀ e', I e' → G (.ok (.nx e')) = R) : G (forK C tg b (S.map F) e) = R := by
  obtain ⟨k1, k2⟩ := for_any h e hi
  cases z : S.any P with
  | true => rw [k1 z]; exact h1 z
  | false =>
    obtain ⟨e', k3, k4⟩ := k2 z
    rw [k3]
    exact h2 z e' k4
def bd8 (n : Int) (p : Pt) : Bool := decide (-n ≤ p.x) && decide (p.x ≤ n) && (decide (-n ≤ p.y) && decide (p.y ≤ n)) && (decide (-n ≤ p.u) && decide (p.u ≤ n)) && (decide (-n ≤ p.v) && decide (p.v ≤ n))
theorem bd8_of {n : Int} {p : Pt} (h : bd8 n p = true) : Bd n p := by
  unfold bd8 at h
  simp only [Bool.and_eq_true, decide_eq_true_eq] at h
  exact ⟨h.1.1.1, h.1.1.2, h.1.2, h.2⟩
def wyN (m t a b : Nat) : Pt := it m t ⟨a, b, 0, 0⟩
theorem wyN_b : ([4, 6, 8, 10, 12].all fun m => (List.range 12).all fun t => (List.range 5).all fun a => (List.range 3).all fun b => (decide (m < 8) && decide (b ≠ 0)) || bd8 8 (wyN m t a b)) = true := by decide +kernel
theorem wyN_b0 : ([4, 6, 8, 10, 12].all fun m => (List.range 12).all fun t => (List.range 9).all fun a => bd8 16 (wyN m t a 0)) = true := by decide +kernel
theorem wyN_all {m : Nat} (hm : m ∈ [4, 6, 8, 10, 12]) {t : Nat} (ht : t < 12) {a : Nat} (ha : a < 5) {b : Nat} (hb : b < 3) : (m < 8 ∧ b ≠ 0) ∨ bd8 8 (wyN m t a b) = true := by
  have h := List.all_eq_true.mp (List.all_eq_true.mp (List.all_eq_true.mp (List.all_eq_true.mp wyN_b m hm) t (List.mem_range.mpr ht)) a (List.mem_range.mpr ha)) b (List.mem_range.mpr hb)
  rcases Bool.or_eq_true_iff.mp h with z | z
  · rw [Bool.and_eq_true] at z
    exact .inl ⟨of_decide_eq_true z.1, of_decide_eq_true z.2⟩
  · exact .inr z
theorem wyN_all0 {m : Nat} (hm : m ∈ [4, 6, 8, 10, 12]) {t : Nat} (ht : t < 12) {a : Nat} (ha : a < 9) : bd8 16 (wyN m t a 0) = true :=
  List.all_eq_true.mp (List.all_eq_true.mp (List.all_eq_true.mp wyN_b0 m hm) t (List.mem_range.mpr ht)) a (List.mem_range.mpr ha)
theorem wy_N {m t a b : Int} (hm : Sz m) (a0 : 0 ≤ a) (b0 : 0 ≤ b) : ∃ (m' t' : Nat), m' ∈ [4, 6, 8, 10, 12] ∧ (m' : Int) = m ∧ t' < 12 ∧ wy m t a b = wyN m' t' a.toNat b.toNat := by
  have r := modr hm t
  have h1 : ((a.toNat : Nat) : Int) = a := Int.toNat_of_nonneg a0
  have h2 : ((b.toNat : Nat) : Int) = b := Int.toNat_of_nonneg b0
  have h3 : ((m.toNat : Nat) : Int) = m := by unfold Sz at hm; omega
  refine ⟨m.toNat, (t % m).toNat, ?_, h3, by omega, ?_⟩
  · rcases hm with rfl | rfl | rfl | rfl | rfl <;> decide
  · unfold wy tu wyN
    rw [h1, h2, h3]
theorem wy_bd {m t a b : Int} (hm : Sz m) (a0 : 0 ≤ a) (a1 : a < 5) (b0 : 0 ≤ b) (b1 : b < 3) (h : m < 8 → b = 0) : Bd 8 (wy m t a b) := by
  obtain ⟨m', t', h1, h2, h3, e⟩ := wy_N (t := t) hm a0 b0
  rw [e]
  rcases wyN_all h1 h3 (a := a.toNat) (by omega) (b := b.toNat) (by omega) with ⟨z, w⟩ | z
  · exact absurd (h (by omega)) (by omega)
  · exact bd8_of z
theorem wy_bd0 {m t a : Int} (hm : Sz m) (a0 : 0 ≤ a) (a1 : a < 9) : Bd 16 (wy m t a 0) := by
  obtain ⟨m', t', h1, h2, h3, e⟩ := wy_N (t := t) (b := 0) hm a0 (Int.le_refl _)
  rw [e]
  exact bd8_of (wyN_all0 h1 h3 (by omega))
theorem sg_len {m a b : Int} (hm : Sz m) (a0 : 0 < a) (b0 : 0 ≤ b) (h : m < 8 → b = 0) : sg m a b = 1 := by
  rcases hm with rfl | rfl | rfl | rfl | rfl
  · exact sgn_p a0
  · exact sgn_p a0
  · rw [sg8]; unfold sD; split
    · exact sgn_p a0
    · refine sgn_p ?_
      rename_i z
      have := Int.mul_pos a0 a0
      by_cases q : b = 0
      · subst q; exact absurd (by omega) z
      · omega
  · rw [sg10]; unfold sD; split
    · exact sgn_p (by omega)
    · refine sgn_p ?_
      rename_i z
      by_cases q : b = 0
      · subst q
        have := Int.mul_pos a0 a0
        exact absurd (by grind) z
      · omega
  · rw [sg12]; unfold sD; split
    · exact sgn_p a0
    · refine sgn_p ?_
      rename_i z
      have := Int.mul_pos a0 a0
      by_cases q : b = 0
      · subst q; exact absurd (by omega) z
      · omega
def ng0 (p : Pt) : Pt := sbP ⟨0, 0, 0, 0⟩ p
def rimA (p a b : Pt) : List Pt := [p, adP p a, adP (adP p a) b, adP (adP (adP p a) b) (sbP ⟨0, 0, 0, 0⟩ a)]
def rimB (p a b c : Pt) : List Pt := [p, adP p a, adP (adP p a) b, adP (adP (adP p a) b) c, adP (adP (adP (adP p a) b) c) (sbP ⟨0, 0, 0, 0⟩ a), adP (adP (adP (adP (adP p a) b) c) (sbP ⟨0, 0, 0, 0⟩ a)) (sbP ⟨0, 0, 0, 0⟩ b)]
theorem rimB_eq {p a b c : Pt} : rimB p a b c = (List.range 6).map (rim3 p a b c) := by
  unfold rimB
  have e4 : adP (adP (adP (adP p a) b) c) (sbP ⟨0, 0, 0, 0⟩ a) = rim3 p a b c 4 := by
    refine pt_eq ?_ ?_ ?_ ?_ <;> simp only [sbP, rim3, adP] <;> omega
  have e5 : adP (adP (adP (adP (adP p a) b) c) (sbP ⟨0, 0, 0, 0⟩ a)) (sbP ⟨0, 0, 0, 0⟩ b) = rim3 p a b c 5 := by
    refine pt_eq ?_ ?_ ?_ ?_ <;> simp only [sbP, rim3, adP] <;> omega
  rw [e5, e4]
  rfl
theorem tri3 {m : Int} (hm : Sz m) {p a b c : Pt} (h1 : Lf m a b) (h2 : Lf m a c) (h3 : Lf m b c) (i j l : Nat) (q1 : i < j) (q2 : j < l) (q3 : l < 6) : Tri m (rim3 p a b c i) (rim3 p a b c j) (rim3 p a b c l) := by
  have li : i = 0 ∨ i = 1 ∨ i = 2 ∨ i = 3 := by omega
  have lj : j = 1 ∨ j = 2 ∨ j = 3 ∨ j = 4 := by omega
  have ll : l = 2 ∨ l = 3 ∨ l = 4 ∨ l = 5 := by omega
  rcases li with hi | hi | hi | hi <;> rcases lj with hj | hj | hj | hj <;> (first | (exfalso; omega) | skip) <;> rcases ll with hl | hl | hl | hl <;> (first | (exfalso; omega) | skip) <;> rw [hi, hj, hl]
  · exact tri_012 hm h1 h2 h3
  · exact tri_013 hm h1 h2 h3
  · exact tri_014 hm h1 h2 h3
  · exact tri_015 hm h1 h2 h3
  · exact tri_023 hm h1 h2 h3
  · exact tri_024 hm h1 h2 h3
  · exact tri_025 hm h1 h2 h3
  · exact tri_034 hm h1 h2 h3
  · exact tri_035 hm h1 h2 h3
  · exact tri_045 hm h1 h2 h3
  · exact tri_123 hm h1 h2 h3
  · exact tri_124 hm h1 h2 h3
  · exact tri_125 hm h1 h2 h3
  · exact tri_134 hm h1 h2 h3
  · exact tri_135 hm h1 h2 h3
  · exact tri_145 hm h1 h2 h3
  · exact tri_234 hm h1 h2 h3
  · exact tri_235 hm h1 h2 h3
  · exact tri_245 hm h1 h2 h3
  · exact tri_345 hm h1 h2 h3
theorem Conv.rimB {m : Int} (hm : Sz m) {p a b c : Pt} (h1 : Lf m a b) (h2 : Lf m a c) (h3 : Lf m b c) : Conv m (rimB p a b c) := by
  rw [rimB_eq]
  intro i j l q1 q2 q3
  rw [List.length_map, List.length_range] at q3
  have g : ∀ i, i < 6 → gt ((List.range 6).map (rim3 p a b c)) i = rim3 p a b c i := fun i h => by
    rw [gt_ix (by rw [List.length_map, List.length_range]; exact h), List.getElem_map, List.getElem_range]
  rw [g i (by omega), g j (by omega), g l q3]
  exact tri3 hm h1 h2 h3 i j l q1 q2 q3
theorem ng0_ng {a : Pt} : sbP ⟨0, 0, 0, 0⟩ a = ngP a := pt_eq (Int.zero_sub _) (Int.zero_sub _) (Int.zero_sub _) (Int.zero_sub _)
theorem Conv.rimA {m : Int} {p a b : Pt} (h : Lf m a b) : Conv m (rimA p a b) := by
  have t012 : Tri m p (adP p a) (adP (adP p a) b) := tri_go h
  have t123 : Tri m (adP p a) (adP (adP p a) b) (adP (adP (adP p a) b) (sbP ⟨0, 0, 0, 0⟩ a)) := tri_go (by rw [ng0_ng]; exact h.rot)
  have t230 : Tri m (adP (adP p a) b) (adP (adP (adP p a) b) (sbP ⟨0, 0, 0, 0⟩ a)) p := by
    have t := tri_go (p := adP (adP p a) b) (a := sbP ⟨0, 0, 0, 0⟩ a) (b := ngP b) (by rw [ng0_ng]; exact h.ng)
    have e : adP (adP (adP (adP p a) b) (sbP ⟨0, 0, 0, 0⟩ a)) (ngP b) = p := by
      refine pt_eq ?_ ?_ ?_ ?_ <;> simp only [sbP, ngP, adP] <;> omega
    rw [e] at t
    exact t
  have t301 : Tri m (adP (adP (adP p a) b) (sbP ⟨0, 0, 0, 0⟩ a)) p (adP p a) := by
    have t := tri_go (p := adP (adP (adP p a) b) (sbP ⟨0, 0, 0, 0⟩ a)) (a := ngP b) (b := a) (by have := h.rot.rot.rot; rw [neg_neg] at this; exact this)
    have e : adP (adP (adP (adP p a) b) (sbP ⟨0, 0, 0, 0⟩ a)) (ngP b) = p := by
      refine pt_eq ?_ ?_ ?_ ?_ <;> simp only [sbP, ngP, adP] <;> omega
    rw [e] at t
    exact t
  intro i j l q1 q2 q3
  have q3 : l < 4 := q3
  have k : (i = 0 ∧ j = 1 ∧ l = 2) ∨ (i = 0 ∧ j = 1 ∧ l = 3) ∨ (i = 0 ∧ j = 2 ∧ l = 3) ∨ (i = 1 ∧ j = 2 ∧ l = 3) := by omega
  rcases k with ⟨rfl, rfl, rfl⟩ | ⟨rfl, rfl, rfl⟩ | ⟨rfl, rfl, rfl⟩ | ⟨rfl, rfl, rfl⟩
  · exact t012
  · exact tri_rot t301
  · exact tri_rot (tri_rot t230)
  · exact t123
/-- a drawn shape -/
def Shp (m : Int) (S : List Pt) : Prop := Conv m S ∧ OkL m S ∧ (∀ p ∈ S, Bd 40 p) ∧ S.length ≤ 6
theorem Shp.erase {m : Int} {S : List Pt} (h : Shp m S) {i : Nat} (hi : i < S.length) : Shp m (S.eraseIdx i) := by
  have sub : ∀ p ∈ S.eraseIdx i, p ∈ S := fun p hp => (List.eraseIdx_sublist S i).mem hp
  refine ⟨h.1.erase hi, fun p hp => h.2.1 p (sub p hp), fun p hp => h.2.2.1 p (sub p hp), ?_⟩
  rw [List.length_eraseIdx, if_pos hi]
  have := h.2.2.2
  omega
theorem Shp.rimA {m : Int} {p a b : Pt} (h : Lf m a b) (op : OkP m p) (oa : OkP m a) (ob : OkP m b) (bp : Bd 16 p) (ba : Bd 8 a) (bb : Bd 8 b) : Shp m (rimA p a b) := by
  have oz : OkP m ⟨0, 0, 0, 0⟩ := fun _ => ⟨rfl, rfl⟩
  have bz : Bd 0 ⟨0, 0, 0, 0⟩ := bd8_of rfl
  refine ⟨Conv.rimA h, fun q hq => ?_, fun q hq => ?_, show 4 ≤ 6 by omega⟩
  · simp only [PF.rimA, List.mem_cons, List.not_mem_nil, or_false] at hq
    rcases hq with rfl | rfl | rfl | rfl
    · exact op
    · exact op.ad oa
    · exact (op.ad oa).ad ob
    · exact ((op.ad oa).ad ob).ad (oz.sb oa)
  · simp only [PF.rimA, List.mem_cons, List.not_mem_nil, or_false] at hq
    rcases hq with rfl | rfl | rfl | rfl
    · exact bp.le (by decide)
    · exact (bp.ad ba).le (by decide)
    · exact ((bp.ad ba).ad bb).le (by decide)
    · exact (((bp.ad ba).ad bb).ad (bz.sb ba)).le (by decide)
theorem Shp.rimB {m : Int} (hm : Sz m) {p a b c : Pt} (h1 : Lf m a b) (h2 : Lf m a c) (h3 : Lf m b c) (op : OkP m p) (oa : OkP m a) (ob : OkP m b) (oc : OkP m c) (bp : Bd 16 p) (ba : Bd 8 a) (bb : Bd 8 b) (bc : Bd 8 c) : Shp m (rimB p a b c) := by
  refine ⟨Conv.rimB hm h1 h2 h3, fun q hq => ?_, fun q hq => ?_, show 6 ≤ 6 by omega⟩
  · rw [rimB_eq] at hq
    rw [show (List.range 6).map (rim3 p a b c) = [rim3 p a b c 0, rim3 p a b c 1, rim3 p a b c 2, rim3 p a b c 3, rim3 p a b c 4, rim3 p a b c 5] from rfl] at hq
    simp only [List.mem_cons, List.not_mem_nil, or_false] at hq
    rcases hq with rfl | rfl | rfl | rfl | rfl | rfl
    · exact op
    · exact op.ad oa
    · exact (op.ad oa).ad ob
    · exact ((op.ad oa).ad ob).ad oc
    · exact (op.ad ob).ad oc
    · exact op.ad oc
  · rw [rimB_eq] at hq
    rw [show (List.range 6).map (rim3 p a b c) = [rim3 p a b c 0, rim3 p a b c 1, rim3 p a b c 2, rim3 p a b c 3, rim3 p a b c 4, rim3 p a b c 5] from rfl] at hq
    simp only [List.mem_cons, List.not_mem_nil, or_false] at hq
    rcases hq with rfl | rfl | rfl | rfl | rfl | rfl
    · exact bp.le (by decide)
    · exact (bp.ad ba).le (by decide)
    · exact ((bp.ad ba).ad bb).le (by decide)
    · exact (((bp.ad ba).ad bb).ad bc).le (by decide)
    · exact ((bp.ad bb).ad bc).le (by decide)
    · exact (bp.ad bc).le (by decide)
theorem er_map {α : Type} {F : α → Tr} : ∀ {S : List α} {i : Nat}, (S.map F).eraseIdx i = (S.eraseIdx i).map F
  | [], _ => rfl
  | _ :: _, 0 => rfl
  | p :: S, i + 1 => by
    rw [List.map_cons, List.eraseIdx_cons_succ, List.eraseIdx_cons_succ, List.map_cons, er_map]
/-- corners taken out -/
def pops (c : Int) : Nat → List Pt → List Pt
  | 0, S => S
  | n + 1, S => pops c n (S.eraseIdx (c / (S.length : Int) % (S.length : Int)).toNat)
theorem pops_ok {m c : Int} : ∀ (n : Nat) {S : List Pt}, Shp m S → n + 1 ≤ S.length → Shp m (pops c n S) ∧ (pops c n S).length + n = S.length
  | 0, S, h, _ => ⟨h, rfl⟩
  | n + 1, S, h, hn => by
    obtain ⟨i, hi, e⟩ := modN (c / (S.length : Int)) (show 0 < S.length by omega)
    unfold pops
    rw [e, Int.toNat_natCast]
    have l : (S.eraseIdx i).length = S.length - 1 := by rw [List.length_eraseIdx, if_pos hi]
    obtain ⟨h1, h2⟩ := pops_ok (c := c) n (h.erase hi) (by omega)
    exact ⟨h1, by omega⟩
theorem Shp.gd {m : Int} {S : List Pt} (h : Shp m S) {p : Pt} (hp : p ∈ S) : Gd m p := ⟨h.2.1 p hp, (h.2.2.1 p hp).le (by decide)⟩
end PF

namespace PF
open PySem PySem.Spec PyProof.Rows L2 PySem.HandSPX
open Builtin.Int (intBits)
/-! ### a list is itself -/
def Plt (n : Nat) (t : Tr) : Prop := ∃ d, t.toD = some d ∧ d.canLay0 = true ∧ d.depth ≤ n
theorem Plt.int {i : Int} : Plt 0 (.int i) := ⟨.int i, rfl, by simp [PyData.canLay0], by simp [PyData.depth]⟩
theorem Plts {n : Nat} : ∀ {ts : List Tr}, (∀ t ∈ ts, Plt n t) → ∃ ds, Tr.toDs ts = some ds ∧ PyData.canLayAll0 ds = true ∧ PyData.depthAll ds ≤ n
  | [], _ => ⟨[], rfl, by simp [PyData.canLayAll0], by simp [PyData.depthAll]⟩
  | t :: ts, h => by
    obtain ⟨d, h1, h2, h3⟩ := h t List.mem_cons_self
    obtain ⟨ds, k1, k2, k3⟩ := Plts fun x hx => h x (List.mem_cons_of_mem _ hx)
    refine ⟨d :: ds, ?_, ?_, ?_⟩
    · rw [Tr.toDs, h1, k1]; rfl
    · rw [PyData.canLayAll0, h2, k2]; rfl
    · rw [PyData.depthAll]; omega
theorem Plt.tup {n : Nat} {ts : List Tr} (h : ∀ t ∈ ts, Plt n t) : Plt (n + 1) (.tup ts) := by
  obtain ⟨ds, k1, k2, k3⟩ := Plts h
  exact ⟨.tuple ds, by rw [Tr.toD, k1]; rfl, by rw [PyData.canLay0]; exact k2, by rw [PyData.depth]; omega⟩
theorem Plt.lst {n : Nat} {ts : List Tr} (h : ∀ t ∈ ts, Plt n t) : Plt (n + 1) (.lst ts) := by
  obtain ⟨ds, k1, k2, k3⟩ := Plts h
  exact ⟨.list ds, by rw [Tr.toD, k1]; rfl, by rw [PyData.canLay0]; exact k2, by rw [PyData.depth]; omega⟩
theorem Plt.self {n : Nat} {t : Tr} (h : Plt n t) (hn : n ≤ 64) : Tr.eq t t = .ok true := by
  obtain ⟨d, h1, h2, h3⟩ := h
  have s : SeqAt.shaped d = true := by
    unfold SeqAt.shaped
    rw [h2, Bool.true_and]
    exact decide_eq_true (by omega)
  unfold Tr.eq
  rw [h1]
  simp only [s, Bool.and_self, if_true]
  rw [SeqAt.eqv_refl d h2]
theorem plt_nu {a b : Int} : Plt 1 (nu a b) := Plt.tup fun t h => by
  simp only [List.mem_cons, List.not_mem_nil, or_false] at h
  rcases h with rfl | rfl <;> exact .int
theorem plt_pt {p : Pt} : Plt 2 (pt p) := Plt.tup fun t h => by
  simp only [List.mem_cons, List.not_mem_nil, or_false] at h
  rcases h with rfl | rfl <;> exact plt_nu
theorem plt_pts {S : List Pt} : Plt 3 (.lst (S.map pt)) := Plt.lst fun t h => by
  obtain ⟨p, _, rfl⟩ := List.mem_map.mp h
  exact plt_pt
theorem g_nself {n : Nat} {t : Tr} (h : Plt n t) (hn : n ≤ 64) : cmpE .ne t t = .ok false := by
  unfold cmpE
  simp only [h.self hn, Oc.ok_bind, Bool.not_true]
theorem g_self1 {S : List Pt} : cmpE .ne (.lst (S.map pt)) (.lst (S.map pt)) = .ok false := g_nself plt_pts (by decide)
theorem g_self2 {S T : List Pt} : cmpE .ne (.lst [.lst (S.map pt), .lst (T.map pt)]) (.lst [.lst (S.map pt), .lst (T.map pt)]) = .ok false := g_nself (n := 4) (Plt.lst fun t h => by
  simp only [List.mem_cons, List.not_mem_nil, or_false] at h
  rcases h with rfl | rfl <;> exact plt_pts) (by decide)
/-! ### more of shapes -/
theorem Conv.wid {m c : Int} (hm : Sz m) (hc : 0 < c) {S : List Pt} (h : Conv m S) (ok : OkL m S) : Conv m (S.map (wid c)) := by
  intro i j l h1 h2 h3
  rw [List.length_map] at h3
  have hi : i < S.length := by omega
  have hj : j < S.length := by omega
  rw [gt_map hi, gt_map hj, gt_map h3]
  have t : sg m _ _ = 1 := h i j l h1 h2 h3
  show sg m _ _ = 1
  have o1 := ok _ (gt_mem hi)
  have o2 := ok _ (gt_mem hj)
  have o3 := ok _ (gt_mem h3)
  have y := cY_ok (o2.sb o1) (o3.sb o1)
  rw [sb_wid, sb_wid, c_wid1.1, c_wid1.2, c_wid2.1, c_wid2.2, sg_w hm (fun h8 => by rw [y h8]; exact Int.mul_zero _) hc, sg_w hm y hc]
  exact t
def hav (p : Pt) : Pt := ⟨p.x / 2, p.y / 2, p.u / 2, p.v / 2⟩
theorem OkP.hav {m : Int} {p : Pt} (h : OkP m p) : OkP m (hav p) := fun h8 => by
  obtain ⟨a, b⟩ := h h8
  exact ⟨by show p.y / 2 = 0; omega, by show p.v / 2 = 0; omega⟩
theorem Bd.hav {n : Int} {p : Pt} (h : Bd n p) : Bd n (hav p) := by
  unfold Bd at h ⊢
  show (-n ≤ p.x / 2 ∧ p.x / 2 ≤ n) ∧ (-n ≤ p.y / 2 ∧ p.y / 2 ≤ n) ∧ (-n ≤ p.u / 2 ∧ p.u / 2 ≤ n) ∧ (-n ≤ p.v / 2 ∧ p.v / 2 ≤ n)
  omega
theorem Bd.tt {n : Int} (hn : 0 ≤ n) : ∀ {S : List Pt}, (∀ p ∈ S, Bd n p) → Bd ((S.length : Int) * n) (tt S)
  | [], _ => by rw [List.length_nil]; show Bd (0 * n) zP; rw [Int.zero_mul]; exact bd8_of rfl
  | p :: S, h => by
    have a := (h p List.mem_cons_self).ad (Bd.tt hn fun q hq => h q (List.mem_cons_of_mem _ hq))
    rw [List.length_cons, Int.natCast_add, Int.add_mul]
    exact a.le (by omega)
theorem tt_snoc {S : List Pt} {p : Pt} : tt (S ++ [p]) = adP (tt S) p := by
  rw [tt_app, tt, tt, ad_z]
end PF

namespace PF
open PySem PySem.Spec PyProof.Rows L2 PySem.HandSPX
open Builtin.Int (intBits)
/-! ### drawn shapes within any bound -/
theorem wyU_b : ([4, 6, 8, 10, 12].all fun m => (List.range 12).all fun t => bd8 2 (wyN m t 1 0)) = true := by decide +kernel
theorem wy_bdU {m t : Int} (hm : Sz m) : Bd 2 (wy m t 1 0) := by
  obtain ⟨m', t', h1, h2, h3, e⟩ := wy_N (t := t) (a := 1) (b := 0) hm (by decide) (by decide)
  rw [e]
  exact bd8_of (List.all_eq_true.mp (List.all_eq_true.mp wyU_b m' h1) t' (List.mem_range.mpr h3))
theorem wy_bdG {m t a b n : Int} (hm : Sz m) (ha : -n ≤ a ∧ a ≤ n) (hb : -n ≤ b ∧ b ≤ n) (h : m < 8 → b = 0) : Bd (8 * n) (wy m t a b) := by
  rw [wy_scl hm h]
  exact ((wy_bdU hm).scl1 ha hb).le (by omega)
def ShN (n m : Int) (S : List Pt) : Prop := Conv m S ∧ OkL m S ∧ (∀ p ∈ S, Bd n p) ∧ S.length ≤ 6
theorem ShN.erase {n m : Int} {S : List Pt} (h : ShN n m S) {i : Nat} (hi : i < S.length) : ShN n m (S.eraseIdx i) := by
  have sub : ∀ p ∈ S.eraseIdx i, p ∈ S := fun p hp => (List.eraseIdx_sublist S i).mem hp
  refine ⟨h.1.erase hi, fun p hp => h.2.1 p (sub p hp), fun p hp => h.2.2.1 p (sub p hp), ?_⟩
  rw [List.length_eraseIdx, if_pos hi]
  have := h.2.2.2
  omega
theorem ShN.rimA {n x y m : Int} (hx : 0 ≤ x) (hy : 0 ≤ y) (hn : x + 3 * y ≤ n) {p a b : Pt} (h : Lf m a b) (op : OkP m p) (oa : OkP m a) (ob : OkP m b) (bp : Bd x p) (ba : Bd y a) (bb : Bd y b) : ShN n m (rimA p a b) := by
  have oz : OkP m ⟨0, 0, 0, 0⟩ := fun _ => ⟨rfl, rfl⟩
  have bz : Bd 0 ⟨0, 0, 0, 0⟩ := bd8_of rfl
  refine ⟨Conv.rimA h, fun q hq => ?_, fun q hq => ?_, show 4 ≤ 6 by omega⟩
  · simp only [PF.rimA, List.mem_cons, List.not_mem_nil, or_false] at hq
    rcases hq with rfl | rfl | rfl | rfl
    · exact op
    · exact op.ad oa
    · exact (op.ad oa).ad ob
    · exact ((op.ad oa).ad ob).ad (oz.sb oa)
  · simp only [PF.rimA, List.mem_cons, List.not_mem_nil, or_false] at hq
    rcases hq with rfl | rfl | rfl | rfl
    · exact bp.le (by omega)
    · exact (bp.ad ba).le (by omega)
    · exact ((bp.ad ba).ad bb).le (by omega)
    · exact (((bp.ad ba).ad bb).ad (bz.sb ba)).le (by omega)
theorem ShN.rimB {n x y m : Int} (hx : 0 ≤ x) (hy : 0 ≤ y) (hn : x + 3 * y ≤ n) (hm : Sz m) {p a b c : Pt} (h1 : Lf m a b) (h2 : Lf m a c) (h3 : Lf m b c) (op : OkP m p) (oa : OkP m a) (ob : OkP m b) (oc : OkP m c) (bp : Bd x p) (ba : Bd y a) (bb : Bd y b) (bc : Bd y c) : ShN n m (rimB p a b c) := by
  refine ⟨Conv.rimB hm h1 h2 h3, fun q hq => ?_, fun q hq => ?_, show 6 ≤ 6 by omega⟩
  · rw [rimB_eq] at hq
    rw [show (List.range 6).map (rim3 p a b c) = [rim3 p a b c 0, rim3 p a b c 1, rim3 p a b c 2, rim3 p a b c 3, rim3 p a b c 4, rim3 p a b c 5] from rfl] at hq
    simp only [List.mem_cons, List.not_mem_nil, or_false] at hq
    rcases hq with rfl | rfl | rfl | rfl | rfl | rfl
    · exact op
    · exact op.ad oa
    · exact (op.ad oa).ad ob
    · exact ((op.ad oa).ad ob).ad oc
    · exact (op.ad ob).ad oc
    · exact op.ad oc
  · rw [rimB_eq] at hq
    rw [show (List.range 6).map (rim3 p a b c) = [rim3 p a b c 0, rim3 p a b c 1, rim3 p a b c 2, rim3 p a b c 3, rim3 p a b c 4, rim3 p a b c 5] from rfl] at hq
    simp only [List.mem_cons, List.not_mem_nil, or_false] at hq
    rcases hq with rfl | rfl | rfl | rfl | rfl | rfl
    · exact bp.le (by omega)
    · exact (bp.ad ba).le (by omega)
    · exact ((bp.ad ba).ad bb).le (by omega)
    · exact (((bp.ad ba).ad bb).ad bc).le (by omega)
    · exact ((bp.ad bb).ad bc).le (by omega)
    · exact (bp.ad bc).le (by omega)
theorem popsN {n m c : Int} : ∀ (k : Nat) {S : List Pt}, ShN n m S → k + 1 ≤ S.length → ShN n m (pops c k S) ∧ (pops c k S).length + k = S.length
  | 0, S, h, _ => ⟨h, rfl⟩
  | k + 1, S, h, hn => by
    obtain ⟨i, hi, e⟩ := modN (c / (S.length : Int)) (show 0 < S.length by omega)
    unfold pops
    rw [e, Int.toNat_natCast]
    have l : (S.eraseIdx i).length = S.length - 1 := by rw [List.length_eraseIdx, if_pos hi]
    obtain ⟨h1, h2⟩ := popsN (c := c) k (h.erase hi) (by omega)
    exact ⟨h1, by omega⟩
def OkS (m : Int) (S : List Pt) : Prop := (∀ p ∈ S, Gd m p) ∧ S.length ≤ 12
theorem OkS.of {m n : Int} {S : List Pt} (h : OkL m S) (b : ∀ p ∈ S, Bd n p) (hn : n ≤ 200000) (l : S.length ≤ 12) : OkS m S := ⟨fun p hp => ⟨h p hp, (b p hp).le hn⟩, l⟩
theorem mem_map {f : Pt → Pt} {P : Pt → Prop} {S : List Pt} (h : ∀ p ∈ S, P (f p)) : ∀ q ∈ S.map f, P q := fun q hq => by
  obtain ⟨p, hp, rfl⟩ := List.mem_map.mp hq
  exact h p hp
end PF

namespace PF
open PySem PySem.Spec PyProof.Rows L2 PySem.HandSPX
open Builtin.Int (intBits)
/-! ### areas: sums of crosses round a shape -/
def pth (f : Pt → Pt → Int) : Pt → List Pt → Int
  | _, [] => 0
  | a, p :: S => f a p + pth f p S
def la : Pt → List Pt → Pt
  | a, [] => a
  | _, p :: S => la p S
def cyc (f : Pt → Pt → Int) (S : List Pt) : Int := pth f (la zP S) S
theorem pth_app {f : Pt → Pt → Int} : ∀ (a : Pt) (S T : List Pt), pth f a (S ++ T) = pth f a S + pth f (la a S) T
  | a, [], T => (Int.zero_add _).symm
  | a, p :: S, T => by rw [List.cons_append, pth, pth, la, pth_app p S T, Int.add_assoc]
theorem la_app : ∀ (a : Pt) (S T : List Pt), la a (S ++ T) = la (la a S) T
  | a, [], T => rfl
  | a, p :: S, T => by rw [List.cons_append, la, la, la_app p S T]
theorem la_ne {a b : Pt} : ∀ {S : List Pt}, S ≠ [] → la a S = la b S
  | [], h => absurd rfl h
  | p :: S, _ => rfl
theorem cyc_swap {f : Pt → Pt → Int} {S T : List Pt} : cyc f (S ++ T) = cyc f (T ++ S) := by
  by_cases hS : S = []
  · subst hS; rw [List.nil_append, List.append_nil]
  · by_cases hT : T = []
    · subst hT; rw [List.nil_append, List.append_nil]
    · unfold cyc
      rw [pth_app, pth_app, la_app, la_app, la_ne (a := la (la zP S) T) (b := zP) hS, la_ne (a := la (la zP T) S) (b := zP) hT, la_ne (a := la zP S) (b := zP) hT, la_ne (a := la zP T) (b := zP) hS, Int.add_comm]
theorem cyc_rot {f : Pt → Pt → Int} {S : List Pt} {k : Nat} : cyc f (S.drop k ++ S.take k) = cyc f S := by rw [cyc_swap, List.take_append_drop]
theorem pth_off {f : Pt → Pt → Int} {g : Pt → Int} {d : Pt} (h : ∀ p q, f (adP p d) (adP q d) = f p q + (g p - g q)) : ∀ (a : Pt) (S : List Pt), pth f (adP a d) (S.map fun p => adP p d) = pth f a S + (g a - g (la a S)) ∧ la (adP a d) (S.map fun p => adP p d) = adP (la a S) d
  | a, [] => ⟨by show (0 : Int) = 0 + (g a - g a); omega, rfl⟩
  | a, p :: S => by
    obtain ⟨h1, h2⟩ := pth_off h p S
    refine ⟨?_, ?_⟩
    · rw [List.map_cons, pth, pth, h1, h, la]; omega
    · rw [List.map_cons, la, la, h2]
theorem cyc_off {f : Pt → Pt → Int} {g : Pt → Int} {d : Pt} (h : ∀ p q, f (adP p d) (adP q d) = f p q + (g p - g q)) (S : List Pt) : cyc f (S.map fun p => adP p d) = cyc f S := by
  cases S with
  | nil => rfl
  | cons p S =>
    unfold cyc
    have e : la zP ((p :: S).map fun p => adP p d) = adP (la zP (p :: S)) d := by
      rw [la_ne (b := adP zP d) (by simp), (pth_off h zP (p :: S)).2]
    rw [e, (pth_off h _ _).1, la_ne (a := la zP (p :: S)) (b := zP) (by simp)]
    omega
theorem cX_off {m : Int} {d p q : Pt} : cX m (adP p d) (adP q d) = cX m p q + (cX m p d - cX m q d) := by
  unfold cX mP adP
  grind
theorem cY_off {m : Int} {d p q : Pt} : cY m (adP p d) (adP q d) = cY m p q + (cY m p d - cY m q d) := by
  unfold cY mR adP
  grind
theorem cyc_cut {f : Pt → Pt → Int} (h : ∀ p q, f p q + f q p = 0) {p q r : Pt} {S : List Pt} (hS : S ≠ []) : cyc f [p, q, r] + cyc f (r :: S ++ [p]) = cyc f (p :: q :: r :: S) := by
  have e : la zP (r :: S ++ [p]) = p := by rw [la_app]; rfl
  unfold cyc
  rw [e]
  simp only [List.cons_append, pth, la, pth_app]
  have := h p r
  omega
theorem cyc_cut3 {f : Pt → Pt → Int} (h : ∀ p q, f p q + f q p = 0) {S : List Pt} (hS : 3 < S.length) : cyc f (S.take 3) + cyc f (S.drop 2 ++ S.take 1) = cyc f S := by
  match S, hS with
  | p :: q :: r :: s :: S, _ => exact cyc_cut h (by simp)
theorem c_anti {m : Int} {p q : Pt} : cX m p q + cX m q p = 0 ∧ cY m p q + cY m q p = 0 := by
  constructor
  · rw [(c_swap (m := m) (p := p) (q := q)).1]; omega
  · rw [(c_swap (m := m) (p := p) (q := q)).2]; omega
/-- a fan of triangles -/
def fan (f : Pt → Pt → Int) (o : Pt) : Pt → List Pt → Int
  | _, [] => 0
  | a, p :: S => f (sbP a o) (sbP p o) + fan f o p S
theorem fan_eq {f : Pt → Pt → Int} (h : ∀ o p q, f (sbP p o) (sbP q o) = f p q + f q o + f o p) (ha : ∀ p q, f p q + f q p = 0) (o : Pt) : ∀ (a : Pt) (S : List Pt), fan f o a S = pth f a S + f (la a S) o + f o a
  | a, [] => by
    have := ha a o
    show (0 : Int) = 0 + f a o + f o a
    omega
  | a, p :: S => by
    have := ha p o
    rw [fan, pth, la, fan_eq h ha o p S, h]
    omega
theorem cyc_fan {f : Pt → Pt → Int} (h : ∀ o p q, f (sbP p o) (sbP q o) = f p q + f q o + f o p) (ha : ∀ p q, f p q + f q p = 0) (h0 : ∀ p, f p p = 0) {o : Pt} {S : List Pt} : cyc f (o :: S) = fan f o o S := by
  rw [fan_eq h ha, cyc, pth, la, h0]
  omega
theorem cX_fan {m : Int} {o p q : Pt} : cX m (sbP p o) (sbP q o) = cX m p q + cX m q o + cX m o p := by
  unfold cX mP sbP
  grind
theorem cY_fan {m : Int} {o p q : Pt} : cY m (sbP p o) (sbP q o) = cY m p q + cY m q o + cY m o p := by
  unfold cY mR sbP
  grind
def Fan (m : Int) (o : Pt) : Pt → List Pt → Prop
  | _, [] => True
  | a, p :: S => Tri m o a p ∧ Fan m o p S
theorem Fan.NN {m : Int} (hm : Sz m) {o : Pt} : ∀ {a : Pt} {S : List Pt}, Fan m o a S → NN m (fan (cX m) o a S) (fan (cY m) o a S)
  | a, [], _ => .inr ⟨rfl, rfl⟩
  | a, p :: S, h => PF.NN.add hm (.inl h.1) (Fan.NN hm h.2)
theorem Fan.of {m : Int} {o : Pt} : ∀ {a : Pt} {S : List Pt}, (∀ i, i < S.length → Tri m o (gt (a :: S) i) (gt (a :: S) (i + 1))) → Fan m o a S
  | a, [], _ => trivial
  | a, p :: S, h => ⟨h 0 (Nat.zero_lt_succ _), Fan.of fun i hi => h (i + 1) (Nat.succ_lt_succ hi)⟩
theorem Conv.area {m : Int} (hm : Sz m) {S : List Pt} (h : Conv m S) (hn : 3 ≤ S.length) : sg m (cyc (cX m) S) (cyc (cY m) S) = 1 := by
  match S, hn with
  | o :: a :: b :: S, _ =>
    rw [cyc_fan (fun _ _ _ => cX_fan) (fun _ _ => c_anti.1) (fun _ => c_self.1), cyc_fan (fun _ _ _ => cY_fan) (fun _ _ => c_anti.2) (fun _ => c_self.2)]
    have t : Tri m o a b := h 0 1 2 (by decide) (by decide) (by simp only [List.length_cons]; omega)
    have F : Fan m o b S := Fan.of fun i hi => by
      refine h 0 (i + 2) (i + 3) (by omega) (by omega) ?_
      simp only [List.length_cons]
      omega
    have z : ∀ {f : Pt → Pt → Int}, (∀ p, f zP p = 0) → fan f o o (a :: b :: S) = f (sbP a o) (sbP b o) + fan f o b S := fun {f} hf => by
      rw [fan, fan, sb_self, hf, Int.zero_add]
    have z0 : ∀ p : Pt, cX m zP p = 0 ∧ cY m zP p = 0 := fun p => by
      have c1 := (c_anti (m := m) (p := zP) (q := p)).1
      have c2 := (c_anti (m := m) (p := zP) (q := p)).2
      have d1 := (c_z2 (m := m) (p := p)).1
      have d2 := (c_z2 (m := m) (p := p)).2
      omega
    rw [z (fun p => (z0 p).1), z (fun p => (z0 p).2)]
    exact sg_addN hm t (F.NN hm)
/-- the sum over the sides, by places -/
def sumI (xs : List Int) : Int := xs.foldr (· + ·) 0
theorem sumI_app : ∀ (xs ys : List Int), sumI (xs ++ ys) = sumI xs + sumI ys
  | [], ys => (Int.zero_add _).symm
  | x :: xs, ys => by
    show x + sumI (xs ++ ys) = x + sumI xs + sumI ys
    rw [sumI_app xs ys, Int.add_assoc]
theorem sumI_snoc {xs : List Int} {x : Int} : sumI (xs ++ [x]) = sumI xs + x := by
  rw [sumI_app]
  show sumI xs + (x + 0) = _
  rw [Int.add_zero]
theorem pth_sum {f : Pt → Pt → Int} : ∀ (a : Pt) (S : List Pt), pth f a S = sumI ((List.range S.length).map fun k => f (if k = 0 then a else gt S (k - 1)) (gt S k))
  | a, [] => rfl
  | a, p :: S => by
    rw [pth, pth_sum p S, List.length_cons, List.range_succ_eq_map, List.map_cons, List.map_map]
    show f a p + _ = f a p + sumI _
    congr 2
    refine List.map_congr_left fun k _ => ?_
    cases k with
    | zero => rfl
    | succ j => rfl
theorem la_gt : ∀ {a : Pt} {S : List Pt}, S ≠ [] → la a S = gt S (S.length - 1)
  | a, [], h => absurd rfl h
  | a, [p], _ => rfl
  | a, p :: q :: S, _ => by
    rw [la, la_gt (a := p) (S := q :: S) (by simp)]
    simp only [List.length_cons]
    rfl
theorem cyc_sum {f : Pt → Pt → Int} {S : List Pt} : cyc f S = sumI ((List.range S.length).map fun k => f (gt S (pv S.length k)) (gt S k)) := by
  cases S with
  | nil => rfl
  | cons p S =>
    rw [cyc, pth_sum]
    congr 1
    refine List.map_congr_left fun k _ => ?_
    unfold pv
    by_cases z : k = 0
    · rw [if_pos z, if_pos z, la_gt (by simp)]
    · rw [if_neg z, if_neg z]
theorem cyc_sd {f : Pt → Pt → Int} {S : List Pt} : cyc f S = sumI ((sd S).map fun s => f s.1 s.2) := by
  rw [cyc_sum, sd, List.map_map]
  rfl
/-! ### where a point lies -/
theorem minL_ge {c : Int} : ∀ {xs : List Int}, xs ≠ [] → (∀ x ∈ xs, c ≤ x) → c ≤ minL xs
  | [], h, _ => absurd rfl h
  | [x], _, h => h x List.mem_cons_self
  | x :: y :: xs, _, h => by
    have a := h x List.mem_cons_self
    have b := minL_ge (xs := y :: xs) (by simp) fun z hz => h z (List.mem_cons_of_mem _ hz)
    show c ≤ min x (minL (y :: xs))
    omega
theorem minL_le' : ∀ {xs : List Int} {x : Int}, x ∈ xs → minL xs ≤ x
  | [y], x, h => by
    rcases List.mem_cons.mp h with rfl | h
    · exact Int.le_refl _
    · cases h
  | y :: z :: xs, x, h => by
    show min y (minL (z :: xs)) ≤ x
    rcases List.mem_cons.mp h with rfl | h
    · omega
    · have := minL_le' h
      omega
def whe (m : Int) (S : List Pt) (p : Pt) : Int := minL ((sd S).map fun s => hd m s.1 s.2 p)
theorem whe_rng {m : Int} {S : List Pt} {p : Pt} : whe m S p = minL ((List.range S.length).map fun k => hd m (gt S (pv S.length k)) (gt S k) p) := by
  unfold whe sd
  rw [List.map_map]
  rfl
theorem whe_0 {m : Int} {S : List Pt} {p : Pt} (h : ∀ k, k < S.length → 0 ≤ hd m (gt S (pv S.length k)) (gt S k) p) {j : Nat} (hj : j < S.length) (h0 : hd m (gt S (pv S.length j)) (gt S j) p = 0) : whe m S p = 0 := by
  rw [whe_rng]
  have a : (0 : Int) ≤ minL ((List.range S.length).map fun k => hd m (gt S (pv S.length k)) (gt S k) p) := minL_ge (fun z => by
    have z := congrArg List.length z
    rw [List.length_map, List.length_range, List.length_nil] at z
    omega) fun x hx => by
    obtain ⟨k, hk, rfl⟩ := List.mem_map.mp hx
    exact h k (List.mem_range.mp hk)
  have b := minL_le' (xs := (List.range S.length).map fun k => hd m (gt S (pv S.length k)) (gt S k) p) (List.mem_map.mpr ⟨j, List.mem_range.mpr hj, rfl⟩)
  rw [h0] at b
  omega
theorem whe_1 {m : Int} {S : List Pt} {p : Pt} (hn : 0 < S.length) (h : ∀ k, k < S.length → hd m (gt S (pv S.length k)) (gt S k) p = 1) : whe m S p = 1 := by
  rw [whe_rng]
  have a : (1 : Int) ≤ minL ((List.range S.length).map fun k => hd m (gt S (pv S.length k)) (gt S k) p) := minL_ge (fun z => by
    have z := congrArg List.length z
    rw [List.length_map, List.length_range, List.length_nil] at z
    omega) fun x hx => by
    obtain ⟨k, hk, rfl⟩ := List.mem_map.mp hx
    rw [h k (List.mem_range.mp hk)]
    omega
  have b := minL_le' (xs := (List.range S.length).map fun k => hd m (gt S (pv S.length k)) (gt S k) p) (List.mem_map.mpr ⟨0, List.mem_range.mpr hn, rfl⟩)
  simp only [h 0 hn] at b
  omega
theorem Conv.corner {m : Int} (hm : Sz m) {S : List Pt} (h : Conv m S) {j : Nat} (hj : j < S.length) : whe m S (gt S j) = 0 :=
  whe_0 (fun k hk => by rcases h.ge hm hk (gt_mem hj) with z | z <;> rw [z] <;> decide) hj (hd_b hm)
theorem hd_wid {m c d : Int} (hm : Sz m) {p q v : Pt} (hc : 0 < c) (hd' : 0 < d) (op : OkP m p) (oq : OkP m q) (ov : OkP m v) : sg m (cX m (sbP (wid c q) (wid c p)) (wid d v)) (cY m (sbP (wid c q) (wid c p)) (wid d v)) = sg m (cX m (sbP q p) v) (cY m (sbP q p) v) := by
  have y := cY_ok (oq.sb op) ov
  rw [sb_wid, c_wid1.1, c_wid1.2, c_wid2.1, c_wid2.2, sg_w hm (fun h8 => by rw [y h8]; exact Int.mul_zero _) hc, sg_w hm y hd']
theorem great_mid {m : Int} (hm : Sz m) {S : List Pt} (h : Conv m S) (ok : OkL m S) (hn : 3 ≤ S.length) : whe m (S.map (wid (2 * (S.length : Int)))) (wid 2 (tt S)) = 1 := by
  refine whe_1 (by rw [List.length_map]; omega) fun k hk => ?_
  rw [List.length_map] at hk ⊢
  obtain ⟨j, hj, h1, h2⟩ := third_ix hn hk
  rw [gt_map (pv_lt hk), gt_map hk]
  have o1 := ok _ (gt_mem hk)
  have o2 := ok _ (gt_mem (pv_lt hk))
  have t := h.third hk hj h1 h2
  have g : ∀ s ∈ S, PF.NN m _ _ := fun s hs => h.NN hm ok hk hs
  generalize gt S (pv S.length k) = p at *
  generalize gt S k = q at *
  have pos := sg_tt hm (f := fun s => sbP s p) g ⟨_, gt_mem hj, t⟩
  have l := tt_lin (c := 1) (q := p) S
  simp only [wid_1] at l
  rw [l] at pos
  have e : sbP (wid 2 (tt S)) (wid (2 * (S.length : Int)) p) = wid 2 (sbP (tt S) (wid (S.length : Int) p)) := by
    have e : ∀ a x : Int, 2 * a - 2 * (S.length : Int) * x = 2 * (a - (S.length : Int) * x) := fun a x => by
      rw [Int.mul_sub, Int.mul_assoc]
    exact pt_eq (e _ _) (e _ _) (e _ _) (e _ _)
  unfold hd
  rw [e, hd_wid hm (by omega) (by decide) o2 o1 (ok.tt.sb o2.wid)]
  exact pos
theorem great_side {m : Int} (hm : Sz m) {S : List Pt} (h : Conv m S) (ok : OkL m S) (hn : 3 ≤ S.length) {j : Nat} (hj : j < S.length) : whe m (S.map (wid (2 * (S.length : Int)))) (wid (S.length : Int) (adP (gt S (pv S.length j)) (gt S j))) = 0 := by
  have key : ∀ k, k < S.length → hd m (wid (2 * (S.length : Int)) (gt S (pv S.length k))) (wid (2 * (S.length : Int)) (gt S k)) (wid (S.length : Int) (adP (gt S (pv S.length j)) (gt S j))) = sg m (cX m (sbP (gt S k) (gt S (pv S.length k))) (sbP (gt S (pv S.length j)) (gt S (pv S.length k))) + cX m (sbP (gt S k) (gt S (pv S.length k))) (sbP (gt S j) (gt S (pv S.length k)))) (cY m (sbP (gt S k) (gt S (pv S.length k))) (sbP (gt S (pv S.length j)) (gt S (pv S.length k))) + cY m (sbP (gt S k) (gt S (pv S.length k))) (sbP (gt S j) (gt S (pv S.length k)))) := by
    intro k hk
    have o1 := ok _ (gt_mem hk)
    have o2 := ok _ (gt_mem (pv_lt hk))
    have o3 := ok _ (gt_mem hj)
    have o4 := ok _ (gt_mem (pv_lt hj))
    generalize gt S (pv S.length k) = p at *
    generalize gt S k = q at *
    generalize gt S (pv S.length j) = a at *
    generalize gt S j = b at *
    have e : sbP (wid (S.length : Int) (adP a b)) (wid (2 * (S.length : Int)) p) = wid (S.length : Int) (adP (sbP a p) (sbP b p)) := by
      have e : ∀ a b x : Int, (S.length : Int) * (a + b) - 2 * (S.length : Int) * x = (S.length : Int) * (a - x + (b - x)) := fun a b x => by
        rw [Int.mul_assoc, show a - x + (b - x) = a + b - 2 * x by omega, Int.mul_sub, Int.mul_left_comm]
      exact pt_eq (e _ _ _) (e _ _ _) (e _ _ _) (e _ _ _)
    unfold hd
    rw [e, hd_wid hm (by omega) (by omega) o2 o1 ((o4.sb o2).ad (o3.sb o2)), c_add.1, c_add.2]
  refine whe_0 (j := j) (fun k hk => ?_) (by rw [List.length_map]; exact hj) ?_
  · rw [List.length_map] at hk ⊢
    rw [gt_map (pv_lt hk), gt_map hk, key k hk]
    rcases (h.NN hm ok hk (gt_mem (pv_lt hj))).add hm (h.NN hm ok hk (gt_mem hj)) with z | ⟨z, w⟩
    · rw [z]; decide
    · rw [z, w, sg_00 hm]; decide
  · rw [List.length_map, gt_map (pv_lt hj), gt_map hj, key j hj, sb_self, c_z2.1, c_z2.2, c_self.1, c_self.2]
    exact sg_00 hm
/-- a loop that goes on to its end, with the count of those gone by -/
theorem for_fold2 {α : Type} {C : Ctx} {tg : Tg} {b : List Sm} {F : α → Tr} {I : List α → List Sl → Prop} {S : List α}
    (h : ∀ p e, p ∈ S → ∀ pre : List α, pre.length < S.length → I pre e → ∃ e', kBd C b (bindTg tg (F p) e) = .ok (.nx e') ∧ I (pre ++ [p]) e') : ∀ (pre post : List α), pre ++ post = S → ∀ e, I pre e → ∃ e', forK C tg b (post.map F) e = .ok (.nx e') ∧ I S e'
  | pre, [], hp, e, hi => ⟨e, rfl, by rw [← hp, List.append_nil]; exact hi⟩
  | pre, p :: post, hp, e, hi => by
    obtain ⟨e1, h1, h2⟩ := h p e (by rw [← hp]; exact List.mem_append_right _ List.mem_cons_self) pre (by rw [← hp, List.length_append, List.length_cons]; omega) hi
    obtain ⟨e2, h3, h4⟩ := for_fold2 h (pre ++ [p]) post (by rw [← hp, List.append_assoc]; rfl) e1 h2
    exact ⟨e2, by rw [List.map_cons, q_fg1, h1, q_f1, h3], h4⟩
theorem at_fold2 {α : Type} {C : Ctx} {tg : Tg} {b : List Sm} {F : α → Tr} (I : List α → List Sl → Prop) {S : List α} {e : List Sl} {ρ : Type} (G : Oc Fl → ρ) {R : ρ}
    (h : ∀ p e, p ∈ S → ∀ pre : List α, pre.length < S.length → I pre e → ∃ e', kBd C b (bindTg tg (F p) e) = .ok (.nx e') ∧ I (pre ++ [p]) e') (hi : I [] e) (hg : ∀ e', I S e' → G (.ok (.nx e')) = R) : G (forK C tg b (S.map F) e) = R := by
  obtain ⟨e', h1, h2⟩ := for_fold2 h [] S rfl e hi
  rw [h1]
  exact hg e' h2
theorem cut_d {xs : List Tr} {k : Nat} (h : k ≤ xs.length) : cutT xs (some (k : Int)) none = xs.drop k := by
  unfold cutT
  rw [HT.sIx_nat, HT.sIx_none, Nat.min_eq_left h]
  exact List.take_of_length_le (by rw [List.length_drop]; omega)
theorem cut_t {xs : List Tr} {k : Nat} (h : k ≤ xs.length) : cutT xs none (some (k : Int)) = xs.take k := by
  unfold cutT
  rw [HT.sIx_nat, HT.sIx_none, Nat.min_eq_left h]
  rfl
theorem cut_dp {S : List Pt} {k : Nat} (h : k ≤ S.length) : cutT (S.map pt) (some (k : Int)) none = (S.drop k).map pt := by
  rw [cut_d (by rw [List.length_map]; exact h), List.map_drop]
theorem cut_tp {S : List Pt} {k : Nat} (h : k ≤ S.length) : cutT (S.map pt) none (some (k : Int)) = (S.take k).map pt := by
  rw [cut_t (by rw [List.length_map]; exact h), List.map_take]
section
variable {C : Ctx} {env : List Sl}
def bnE (C : Ctx) (e : Ex) (env : List Sl) : Oc (Option Int) := if e.isNon then .ok none else ev C e env >>= fun l => oInt l.see >>= fun i => .ok (some i)
def kBn (r : Oc Rs) : Oc (Option Int) := r >>= fun l => oInt l.see >>= fun i => .ok (some i)
def kSa (C : Ctx) (lo hi : Ex) (env : List Sl) (r : Oc Rs) : Oc Rs := r >>= fun x => bnE C lo env >>= fun l => bnE C hi env >>= fun h => slE x.see l h
def kSb (C : Ctx) (hi : Ex) (env : List Sl) (x : Rs) (r : Oc (Option Int)) : Oc Rs := r >>= fun l => bnE C hi env >>= fun h => slE x.see l h
def kSc (x : Rs) (l : Option Int) (r : Oc (Option Int)) : Oc Rs := r >>= fun h => slE x.see l h
theorem s_sl {a lo hi : Ex} : ev C (.sl a lo hi) env = kSa C lo hi env (ev C a env) := id rfl
theorem s_sl1 {lo hi : Ex} {x : Rs} : kSa C lo hi env (.ok x) = kSb C hi env x (bnE C lo env) := id rfl
theorem s_sl2 {hi : Ex} {x : Rs} {l : Option Int} : kSb C hi env x (.ok l) = kSc x l (bnE C hi env) := id rfl
theorem s_sl3 {xs : List Tr} {l h : Option Int} : kSc (.im (.lst xs)) l (.ok h) = .ok (.ow (cutT xs l h)) := id rfl
theorem s_sl4 {xs : List Tr} {l h : Option Int} : kSc (.br xs) l (.ok h) = .ok (.ow (cutT xs l h)) := id rfl
theorem s_sl5 {xs : List Tr} {l h : Option Int} : kSc (.ow xs) l (.ok h) = .ok (.ow (cutT xs l h)) := id rfl
theorem s_bn0 : bnE C .non env = .ok none := id rfl
theorem s_bn1 {i : Nat} : bnE C (.lo i) env = kBn (ev C (.lo i) env) := id rfl
theorem s_bn2 {i : Int} : bnE C (.int i) env = .ok (some i) := id rfl
theorem s_bn3 {i : Int} : kBn (.ok (.im (.int i))) = .ok (some i) := id rfl
end
theorem sumI_bd {n : Int} : ∀ {xs : List Int}, (∀ x ∈ xs, -n ≤ x ∧ x ≤ n) → -((xs.length : Int) * n) ≤ sumI xs ∧ sumI xs ≤ (xs.length : Int) * n
  | [], _ => by
    show -(((0 : Nat) : Int) * n) ≤ 0 ∧ 0 ≤ ((0 : Nat) : Int) * n
    rw [Int.natCast_zero, Int.zero_mul]; omega
  | x :: xs, h => by
    have a := h x List.mem_cons_self
    have b := sumI_bd fun y hy => h y (List.mem_cons_of_mem _ hy)
    show -(((xs.length + 1 : Nat) : Int) * n) ≤ x + sumI xs ∧ x + sumI xs ≤ ((xs.length + 1 : Nat) : Int) * n
    rw [Int.natCast_add, Int.add_mul]
    omega
theorem cyc_bd {f : Pt → Pt → Int} {n : Int} {S : List Pt} (h : ∀ p ∈ S, ∀ q ∈ S, -n ≤ f p q ∧ f p q ≤ n) : -((S.length : Int) * n) ≤ cyc f S ∧ cyc f S ≤ (S.length : Int) * n := by
  have b := sumI_bd (n := n) (xs := (sd S).map fun s => f s.1 s.2) fun x hx => by
    obtain ⟨s, hs, rfl⟩ := List.mem_map.mp hx
    exact h _ (sd_mem hs).1 _ (sd_mem hs).2
  rw [← cyc_sd, List.length_map, show (sd S).length = S.length by unfold sd; rw [List.length_map, List.length_range]] at b
  exact b
theorem cyc_0 {f : Pt → Pt → Int} {S : List Pt} (h : ∀ p ∈ S, ∀ q ∈ S, f p q = 0) : cyc f S = 0 := by
  have b := cyc_bd (f := f) (n := 0) (S := S) fun p hp q hq => by rw [h p hp q hq]; decide
  rw [Int.mul_zero] at b
  omega
theorem g_itn {a b : Int} : isiE .tuple (nu a b) = .ok true := id rfl
theorem g_itp {p : Pt} : isiE .tuple (pt p) = .ok true := id rfl
end PF

namespace PF
open PySem PySem.Spec PyProof.Rows L2 PySem.HandSPX
open Builtin.Int (intBits)
/-! ### places set, swapped, turned about; is True -/
section
variable {C : Ctx} {env : List Sl}
def kSet (C : Ctx) (i : Nat) (k e : Ex) (env : List Sl) (o : Option Sl) : Oc Fl := kSlo o >>= fun xs => ev C e env >>= Rs.fz >>= fun t => ev C k env >>= fun r => oInt r.see >>= fun j => setT xs j t >>= fun ys => .ok (.nx (env.set i (.ow ys)))
def kSet2 (C : Ctx) (i : Nat) (k : Ex) (xs : List Tr) (env : List Sl) (r : Oc Tr) : Oc Fl := r >>= fun t => ev C k env >>= fun r => oInt r.see >>= fun j => setT xs j t >>= fun ys => .ok (.nx (env.set i (.ow ys)))
def kSet3 (i : Nat) (xs : List Tr) (t : Tr) (env : List Sl) (r : Oc Rs) : Oc Fl := r >>= fun r => oInt r.see >>= fun j => setT xs j t >>= fun ys => .ok (.nx (env.set i (.ow ys)))
def kSet4 (i : Nat) (env : List Sl) (r : Oc (List Tr)) : Oc Fl := r >>= fun ys => .ok (.nx (env.set i (.ow ys)))
theorem s_seti {i : Nat} {k e : Ex} : exec C (.seti i k e) env = kSet C i k e env env[i]? := id rfl
theorem s_seti1 {i : Nat} {k e : Ex} {xs : List Tr} : kSet C i k e env (some (.ow xs)) = kSet2 C i k xs env (kFz (ev C e env)) := id rfl
theorem s_seti2 {i : Nat} {k : Ex} {xs : List Tr} {t : Tr} : kSet2 C i k xs env (.ok t) = kSet3 i xs t env (ev C k env) := id rfl
theorem s_seti3 {i : Nat} {xs : List Tr} {t : Tr} {j : Int} : kSet3 i xs t env (.ok (.im (.int j))) = kSet4 i env (setT xs j t) := id rfl
theorem s_seti4 {i : Nat} {ys : List Tr} : kSet4 i env (.ok ys) = .ok (.nx (env.set i (.ow ys))) := id rfl
def kSw (C : Ctx) (k1 k2 : Ex) (i : Nat) (env : List Sl) (r : Oc Rs) : Oc Fl := r >>= fun x => swpO (ev C k1) (ev C k2) i x env
def kSw2 (C : Ctx) (k2 : Ex) (i : Nat) (b : Tr) (r : Oc (List Sl)) : Oc Fl := r >>= fun e1 => subO (ev C k2) i b e1 >>= fun e2 => .ok (.nx e2)
def kSw3 (r : Oc (List Sl)) : Oc Fl := r >>= fun e2 => .ok (.nx e2)
def kSub (C : Ctx) (k : Ex) (i : Nat) (t : Tr) (env : List Sl) (o : Option Sl) : Oc (List Sl) := kSlo o >>= fun xs => (ev C k env).noex >>= fun z => oInt z.see >>= fun j => setT xs j t >>= fun ys => .ok (env.set i (.ow ys))
def kSub2 (i : Nat) (t : Tr) (xs : List Tr) (env : List Sl) (r : Oc Rs) : Oc (List Sl) := r.noex >>= fun z => oInt z.see >>= fun j => setT xs j t >>= fun ys => .ok (env.set i (.ow ys))
def kSub3 (i : Nat) (env : List Sl) (r : Oc (List Tr)) : Oc (List Sl) := r >>= fun ys => .ok (env.set i (.ow ys))
theorem s_swp {i : Nat} {k1 k2 e : Ex} : exec C (.swp i k1 k2 e) env = kSw C k1 k2 i env (ev C e env) := id rfl
theorem s_swp1 {i : Nat} {k1 k2 : Ex} {a b : Tr} : kSw C k1 k2 i env (.ok (.im (.tup [a, b]))) = kSw2 C k2 i b (subO (ev C k1) i a env) := id rfl
theorem s_swp2 {i : Nat} {k2 : Ex} {b : Tr} {e1 : List Sl} : kSw2 C k2 i b (.ok e1) = kSw3 (subO (ev C k2) i b e1) := id rfl
theorem s_swp3 {e2 : List Sl} : kSw3 (.ok e2) = .ok (.nx e2) := id rfl
theorem s_sub {i : Nat} {k : Ex} {t : Tr} : subO (ev C k) i t env = kSub C k i t env env[i]? := id rfl
theorem s_sub1 {i : Nat} {k : Ex} {t : Tr} {xs : List Tr} : kSub C k i t env (some (.ow xs)) = kSub2 i t xs env (ev C k env) := id rfl
theorem s_sub2 {i : Nat} {t : Tr} {xs : List Tr} {j : Int} : kSub2 i t xs env (.ok (.im (.int j))) = kSub3 i env (setT xs j t) := id rfl
theorem s_sub3 {i : Nat} {ys : List Tr} : kSub3 i env (.ok ys) = .ok (env.set i (.ow ys)) := id rfl
def kRv (r : Oc Rs) : Oc Rs := r >>= fun x => revE x.see
theorem s_rev {a : Ex} : ev C (.rev a) env = kRv (ev C a env) := id rfl
theorem s_rev1 {xs : List Tr} : kRv (.ok (.br xs)) = .ok (.ow xs.reverse) := id rfl
theorem s_rev2 {xs : List Tr} : kRv (.ok (.im (.lst xs))) = .ok (.ow xs.reverse) := id rfl
theorem s_rev3 {xs : List Tr} : kRv (.ok (.ow xs)) = .ok (.ow xs.reverse) := id rfl
def kIs (n b : Bool) (r : Oc Rs) : Oc Rs := r >>= fun x => isBE n b x.see
theorem s_isb {n b : Bool} {a : Ex} : ev C (.isB n b a) env = kIs n b (ev C a env) := id rfl
theorem s_isb1 : kIs true false (.ok (.im (.bl false))) = .ok (.im (.bl false)) := id rfl
theorem s_isb2 : kIs false true (.ok (.im (.bl true))) = .ok (.im (.bl true)) := id rfl
theorem s_isb3 : kIs true true (.ok (.im (.bl true))) = .ok (.im (.bl false)) := id rfl
theorem s_isb4 : kIs true true (.ok (.im (.bl false))) = .ok (.im (.bl true)) := id rfl
end
theorem g_catb {xs ys : List Tr} : opE .add (.br xs) (.br ys) = kCat xs ys (sizeOk (xs.length + ys.length)) := id rfl
theorem g_cati {xs ys : List Tr} : opE .add (.im (.lst xs)) (.im (.lst ys)) = kCat xs ys (sizeOk (xs.length + ys.length)) := id rfl
theorem g_mapp {A B : List Pt} : A.map pt ++ B.map pt = (A ++ B).map pt := List.map_append.symm
theorem g_map1 {A : List Pt} {p : Pt} : A.map pt ++ [pt p] = (A ++ [p]).map pt := by rw [List.map_append]; rfl
theorem g_mrev {A : List Pt} : (A.map pt).reverse = A.reverse.map pt := List.map_reverse.symm
theorem g_cbn {a : Bool} : cmpE .ne (.bl a) (.bl a) = .ok false := by cases a <;> rfl
theorem g_isib {a : Bool} : isiE .bool (.bl a) = .ok true := id rfl
theorem st_pt {S : List Pt} {k : Nat} {p : Pt} (h : k < S.length) : setT (S.map pt) (k : Int) (pt p) = .ok ((S.set k p).map pt) := by
  unfold setT ixN
  rw [List.length_map, if_pos (by omega), if_pos (by omega)]
  show Oc.ok ((S.map pt).set (k : Int).toNat (pt p)) = _
  rw [Int.toNat_natCast, List.map_set]
/-! ### what is a shape -/
def isS (m : Int) (S : List Pt) : Bool := decide (3 ≤ S.length) && decide (S.length ≤ 6) && (List.range S.length).all fun k => (List.range S.length).all fun j => decide (j = k) || decide (j = pv S.length k) || decide (hd m (gt S (pv S.length k)) (gt S k) (gt S j) = 1)
def CvP (m : Int) (S : List Pt) : Prop := ∀ k j, k < S.length → j < S.length → j ≠ k → j ≠ pv S.length k → hd m (gt S (pv S.length k)) (gt S k) (gt S j) = 1
theorem isS_iff {m : Int} {S : List Pt} : isS m S = true ↔ (3 ≤ S.length ∧ S.length ≤ 6) ∧ CvP m S := by
  unfold isS CvP
  simp only [Bool.and_eq_true, decide_eq_true_eq, List.all_eq_true, List.mem_range, Bool.or_eq_true]
  constructor
  · rintro ⟨h, h2⟩
    refine ⟨h, fun k j hk hj h3 h4 => ?_⟩
    rcases h2 k hk j hj with (z | z) | z
    · exact absurd z h3
    · exact absurd z h4
    · exact z
  · rintro ⟨h, h2⟩
    refine ⟨h, fun k hk j hj => ?_⟩
    by_cases h3 : j = k
    · exact .inl (.inl h3)
    · by_cases h4 : j = pv S.length k
      · exact .inl (.inr h4)
      · exact .inr (h2 k j hk hj h3 h4)
theorem Conv.isS {m : Int} {S : List Pt} (h : Conv m S) (h3 : 3 ≤ S.length) (h6 : S.length ≤ 6) : isS m S = true :=
  isS_iff.mpr ⟨⟨h3, h6⟩, fun k j hk hj h1 h2 => h.third hk hj h1 h2⟩
/-- begun at another corner -/
def rot (a : Nat) (S : List Pt) : List Pt := S.drop a ++ S.take a
theorem rot_len {a : Nat} {S : List Pt} : (rot a S).length = S.length := by
  unfold rot
  rw [List.length_append, List.length_drop, List.length_take]
  omega
theorem sh_lt {n k a : Nat} (hk : k < n) (ha : a < n) : (k + a) % n = if k + a < n then k + a else k + a - n := by
  split
  · rename_i h
    exact Nat.mod_eq_of_lt h
  · rename_i h
    rw [Nat.mod_eq_sub_mod (by omega), Nat.mod_eq_of_lt (by omega)]
theorem gt_rot {a k : Nat} {S : List Pt} (ha : a < S.length) (hk : k < S.length) : gt (rot a S) k = gt S ((k + a) % S.length) := by
  rw [sh_lt hk ha]
  unfold gt rot
  rw [List.getD_eq_getElem?_getD, List.getD_eq_getElem?_getD]
  congr 1
  split
  · rename_i h
    rw [List.getElem?_append_left (by rw [List.length_drop]; omega), List.getElem?_drop, Nat.add_comm]
  · rename_i h
    rw [List.getElem?_append_right (by rw [List.length_drop]; omega), List.length_drop, List.getElem?_take_of_lt (by omega)]
    congr 1
    omega
theorem pv_rot {a k n : Nat} (ha : a < n) (hk : k < n) : (pv n k + a) % n = pv n ((k + a) % n) := by
  rw [sh_lt hk ha, sh_lt (pv_lt hk) ha]
  unfold pv
  split <;> split <;> split <;> (try split) <;> omega
theorem sh_inj {a k j n : Nat} (ha : a < n) (hk : k < n) (hj : j < n) (h : (k + a) % n = (j + a) % n) : k = j := by
  rw [sh_lt hk ha, sh_lt hj ha] at h
  split at h <;> split at h <;> omega
theorem sh_back {a k n : Nat} (ha : a < n) (hk : k < n) : ∃ k', k' < n ∧ (k' + a) % n = k := by
  by_cases h : a ≤ k
  · exact ⟨k - a, by omega, by rw [sh_lt (by omega) ha]; split <;> omega⟩
  · exact ⟨k + n - a, by omega, by rw [sh_lt (by omega) ha]; split <;> omega⟩
theorem CvP.rot {m : Int} {S : List Pt} {a : Nat} (ha : a < S.length) : CvP m (rot a S) ↔ CvP m S := by
  unfold CvP
  rw [rot_len]
  have pos : 0 < S.length := by omega
  constructor
  · intro h k j hk hj h1 h2
    obtain ⟨k', hk', rfl⟩ := sh_back ha hk
    obtain ⟨j', hj', rfl⟩ := sh_back ha hj
    have := h k' j' hk' hj' (fun z => h1 (by rw [z])) (fun z => h2 (by rw [z, pv_rot ha hk']))
    rw [gt_rot ha (pv_lt hk'), gt_rot ha hk', gt_rot ha hj', pv_rot ha hk'] at this
    exact this
  · intro h k j hk hj h1 h2
    rw [gt_rot ha (pv_lt hk), gt_rot ha hk, gt_rot ha hj, pv_rot ha hk]
    exact h _ _ (Nat.mod_lt _ pos) (Nat.mod_lt _ pos) (fun z => h1 (sh_inj ha hj hk z)) (fun z => h2 (by rw [← pv_rot ha hk] at z; exact sh_inj ha hj (pv_lt hk) z))
theorem isS_rot {m : Int} {S : List Pt} {a : Nat} (ha : a < S.length) : isS m (rot a S) = isS m S := by
  have e : isS m (PF.rot a S) = true ↔ isS m S = true := by
    rw [isS_iff, isS_iff, rot_len, CvP.rot ha]
  cases h : isS m S with
  | true => exact e.mpr h
  | false =>
    cases h2 : isS m (PF.rot a S) with
    | false => rfl
    | true => rw [e.mp h2] at h; cases h
theorem isS_prog {m : Int} {S : List Pt} (h3 : 3 ≤ S.length) (h6 : S.length ≤ 6) : isS m S = !((List.range S.length).any fun k => (List.range (S.length - 2)).any fun i => !decide (hd m (gt S (pv S.length k)) (gt S k) (gt S ((k + 1 + i) % S.length)) = 1)) := by
  have e : isS m S = true ↔ ((List.range S.length).any fun k => (List.range (S.length - 2)).any fun i => !decide (hd m (gt S (pv S.length k)) (gt S k) (gt S ((k + 1 + i) % S.length)) = 1)) = false := by
    rw [isS_iff]
    simp only [List.any_eq_false, List.mem_range, Bool.not_eq_true', decide_eq_false_iff_not, Decidable.not_not, Bool.not_eq_true, Bool.not_eq_false', List.any_eq_true, not_exists, not_and, decide_eq_true_eq, Bool.not_eq_eq_eq_not, Bool.not_true, Bool.not_false]
    constructor
    · rintro ⟨_, h⟩ k hk i hi
      have hj : (k + 1 + i) % S.length = if k + 1 + i < S.length then k + 1 + i else k + 1 + i - S.length := by
        split
        · rename_i z; exact Nat.mod_eq_of_lt z
        · rename_i z; rw [Nat.mod_eq_sub_mod (by omega), Nat.mod_eq_of_lt (by omega)]
      refine h k _ hk (Nat.mod_lt _ (by omega)) ?_ ?_
      · rw [hj]; split <;> omega
      · rw [hj]; unfold pv; split <;> split <;> omega
    · intro h
      refine ⟨⟨h3, h6⟩, fun k j hk hj h1 h2 => ?_⟩
      unfold pv at h2
      by_cases q : k < j
      · have := h k hk (j - k - 1) (by split at h2 <;> omega)
        rw [show k + 1 + (j - k - 1) = j by omega, Nat.mod_eq_of_lt hj] at this
        exact this
      · have := h k hk (j + S.length - k - 1) (by split at h2 <;> omega)
        rw [show k + 1 + (j + S.length - k - 1) = j + S.length by split at h2 <;> omega, Nat.add_mod_right, Nat.mod_eq_of_lt hj] at this
        exact this
  cases h : isS m S with
  | true => rw [e.mp h]; rfl
  | false =>
    cases h2 : ((List.range S.length).any fun k => (List.range (S.length - 2)).any fun i => !decide (hd m (gt S (pv S.length k)) (gt S k) (gt S ((k + 1 + i) % S.length)) = 1)) with
    | true => rfl
    | false => rw [e.mpr h2] at h; cases h
theorem isS_law {m : Int} {S : List Pt} (h3 : 3 ≤ S.length) (h6 : S.length ≤ 6) : isS m S = !((List.range S.length).any fun k => (List.range S.length).any fun j => !(decide (j = k)) && (!(decide (j = pv S.length k)) && !decide (hd m (gt S (pv S.length k)) (gt S k) (gt S j) = 1))) := by
  unfold isS
  rw [decide_eq_true h3, decide_eq_true h6, Bool.and_self, Bool.true_and, List.not_any_eq_all_not]
  congr 1
  funext k
  rw [List.not_any_eq_all_not]
  congr 1
  funext j
  rw [Bool.not_and, Bool.not_and, Bool.not_not, Bool.not_not, Bool.not_not, Bool.or_assoc]
theorem isS_few {m : Int} {S : List Pt} (h : ¬ (3 ≤ S.length ∧ S.length ≤ 6)) : isS m S = false := by
  cases e : isS m S with
  | false => rfl
  | true => exact absurd (isS_iff.mp e).1 h
theorem pv_mod {n k : Nat} (h : k < n) : ((k : Int) - 1) % (n : Int) = (pv n k : Int) := by
  unfold pv
  split
  · rename_i z
    subst z
    rw [← Int.add_emod_right, show ((0 : Nat) : Int) - 1 + (n : Int) = ((n - 1 : Nat) : Int) by omega]
    exact Int.emod_eq_of_lt (by omega) (by omega)
  · rename_i z
    rw [show (k : Int) - 1 = ((k - 1 : Nat) : Int) by omega]
    exact Int.emod_eq_of_lt (by omega) (by omega)
end PF

set_option maxHeartbeats 4000000
namespace Zk10
open PySem PySem.Spec PyProof.Rows L2 PySem.HandSPX PF
def topS (i : Nat) : Stmt := PySem.Challenge.pw_inflate_k10_what_is_a_shape.main.body.getD i (.Pass ⟨0, 0, 0, 0⟩)
/-- 0 minus -/
abbrev s0 : Stmt := topS 8
def b0 : List Sm := [.ret (.tup [.bin .sub (.ix (.lo 0) (.int 0)) (.ix (.lo 1) (.int 0)), .bin .sub (.ix (.lo 0) (.int 1)) (.ix (.lo 1) (.int 1))])]
def f0 : Fn := ⟨2, 2, b0⟩
/-- 1 plain_sign -/
abbrev s1 : Stmt := topS 9
def b1 : List Sm := [.ret (.bin .sub (.blt .int [.cmp .gt (.lo 0) (.int 0)]) (.blt .int [.cmp .lt (.lo 0) (.int 0)]))]
def f1 : Fn := ⟨1, 1, b1⟩
/-- 2 root_sign -/
abbrev s2 : Stmt := topS 10
def b2 : List Sm := [.asg (.nm 3) (.call 1 [.lo 0]), .asg (.nm 4) (.call 1 [.lo 1]), .iff (.cmp .ge (.bin .mul (.lo 3) (.lo 4)) (.int 0)) [.ret (.call 1 [.bin .add (.lo 3) (.lo 4)])] [], .iff (.cmp .gt (.bin .mul (.lo 0) (.lo 0)) (.bin .mul (.bin .mul (.lo 1) (.lo 1)) (.lo 2))) [.ret (.lo 3)] [], .ret (.lo 4)]
def f2 : Fn := ⟨3, 5, b2⟩
/-- 3 Frame.number -/
abbrev s3 : Stmt := inClass (topS 11) 2
def b3 : List Sm := [.iff (.cmp .eq (.fld 0 0 (.lo 0)) (.int 4)) [.ret (.tup [.lo 1, .int 0])] [], .iff (.cmp .eq (.fld 0 0 (.lo 0)) (.int 6)) [.ret (.tup [.bin .add (.lo 1) (.lo 2), .int 0])] [], .ret (.tup [.lo 1, .lo 2])]
def f3 : Fn := ⟨3, 3, b3⟩
/-- 4 Frame.times -/
abbrev s4 : Stmt := inClass (topS 11) 3
def b4 : List Sm := [.asg (.nm 3) (.ix (.gl 1) (.fld 0 0 (.lo 0))), .asg (.nm 4) (.bin .mul (.ix (.lo 1) (.int 1)) (.ix (.lo 2) (.int 1))), .asg (.nm 5) (.bin .add (.bin .mul (.ix (.lo 1) (.int 0)) (.ix (.lo 2) (.int 0))) (.bin .mul (.lo 4) (.ix (.lo 3) (.int 0)))), .ret (.meth 3 0 (.lo 0) [.lo 5, .bin .add (.bin .add (.bin .mul (.ix (.lo 1) (.int 0)) (.ix (.lo 2) (.int 1))) (.bin .mul (.ix (.lo 1) (.int 1)) (.ix (.lo 2) (.int 0)))) (.bin .mul (.lo 4) (.ix (.lo 3) (.int 1)))])]
def f4 : Fn := ⟨3, 6, b4⟩
/-- 5 Frame.sign -/
abbrev s5 : Stmt := inClass (topS 11) 5
def b5 : List Sm := [.iff (.cmp .lt (.fld 0 0 (.lo 0)) (.int 8)) [.ret (.call 1 [.ix (.lo 1) (.int 0)])] [], .iff (.cmp .eq (.fld 0 0 (.lo 0)) (.int 10)) [.ret (.call 2 [.bin .add (.bin .mul (.int 2) (.ix (.lo 1) (.int 0))) (.ix (.lo 1) (.int 1)), .ix (.lo 1) (.int 1), .int 5])] [], .ret (.call 2 [.ix (.lo 1) (.int 0), .ix (.lo 1) (.int 1), .ix (.gl 2) (.fld 0 0 (.lo 0))])]
def f5 : Fn := ⟨2, 2, b5⟩
/-- 6 Frame.less -/
abbrev s6 : Stmt := inClass (topS 11) 6
def b6 : List Sm := [.ret (.cmp .eq (.meth 5 0 (.lo 0) [.call 0 [.lo 2, .lo 1]]) (.int 1))]
def f6 : Fn := ⟨3, 3, b6⟩
/-- 7 cross -/
abbrev s7 : Stmt := topS 13
def b7 : List Sm := [.ret (.call 0 [.meth 4 0 (.lo 0) [.ix (.lo 1) (.int 0), .ix (.lo 2) (.int 1)], .meth 4 0 (.lo 0) [.ix (.lo 1) (.int 1), .ix (.lo 2) (.int 0)]])]
def f7 : Fn := ⟨3, 3, b7⟩
/-- 8 way_from -/
abbrev s8 : Stmt := topS 15
def b8 : List Sm := [.ret (.tup [.call 0 [.ix (.lo 1) (.int 0), .ix (.lo 0) (.int 0)], .call 0 [.ix (.lo 1) (.int 1), .ix (.lo 0) (.int 1)]])]
def f8 : Fn := ⟨2, 2, b8⟩
/-- 9 hand_of -/
abbrev s9 : Stmt := topS 16
def b9 : List Sm := [.ret (.meth 5 0 (.lo 0) [.call 7 [.lo 0, .call 8 [.lo 1, .lo 2], .call 8 [.lo 1, .lo 3]]])]
def f9 : Fn := ⟨4, 4, b9⟩
/-- 10 is_shape -/
abbrev s10 : Stmt := topS 17
def b10 : List Sm := [.iff (.or (.cmp .lt (.blt .len [.lo 1]) (.int 3)) (.cmp .gt (.blt .len [.lo 1]) (.int 6))) [.ret (.bl false)] [], .for_ (.nm 2) (.rng1 (.blt .len [.lo 1])) [.for_ (.nm 3) (.rng1 (.bin .sub (.blt .len [.lo 1]) (.int 2))) [.asg (.nm 4) (.ix (.lo 1) (.bin .mod (.bin .add (.bin .add (.lo 2) (.int 1)) (.lo 3)) (.blt .len [.lo 1]))), .iff (.cmp .ne (.call 9 [.lo 0, .ix (.lo 1) (.bin .sub (.lo 2) (.int 1)), .ix (.lo 1) (.lo 2), .lo 4]) (.int 1)) [.ret (.bl false)] []]], .ret (.bl true)]
def f10 : Fn := ⟨2, 5, b10⟩
/-- 11 _law_cell -/
abbrev s11 : Stmt := topS 19
def b11 : List Sm := [.iff (.cmp .lt (.lo 1) (.blt .len [.lo 0])) [.ret (.ix (.lo 0) (.lo 1))] [], .iff (.cmp .eq (.blt .len [.lo 0]) (.int 0)) [.ret (.bin .add (.bin .mul (.bin .mul (.lo 1) (.lo 1)) (.int 71)) (.int 31))] [], .ret (.bin .add (.bin .mul (.bin .mod (.ix (.lo 0) (.bin .mod (.bin .mul (.lo 1) (.int 3)) (.blt .len [.lo 0]))) (.int 2147483629)) (.int 48271)) (.bin .mul (.bin .mul (.lo 1) (.lo 1)) (.int 7841)))]
def f11 : Fn := ⟨2, 2, b11⟩
/-- 12 _law_times -/
abbrev s12 : Stmt := topS 20
def b12 : List Sm := [.asg (.nm 3) (.bin .mul (.ix (.lo 1) (.int 0)) (.ix (.lo 2) (.int 0))), .asg (.nm 4) (.bin .add (.bin .mul (.ix (.lo 1) (.int 0)) (.ix (.lo 2) (.int 1))) (.bin .mul (.ix (.lo 1) (.int 1)) (.ix (.lo 2) (.int 0)))), .asg (.nm 5) (.bin .mul (.ix (.lo 1) (.int 1)) (.ix (.lo 2) (.int 1))), .iff (.cmp .eq (.lo 0) (.int 8)) [.asg (.nm 3) (.bin .add (.lo 3) (.bin .mul (.int 2) (.lo 5)))] [], .iff (.cmp .eq (.lo 0) (.int 10)) [.asg (.nm 3) (.bin .add (.lo 3) (.lo 5)), .asg (.nm 4) (.bin .add (.lo 4) (.lo 5))] [], .iff (.cmp .eq (.lo 0) (.int 12)) [.asg (.nm 3) (.bin .add (.lo 3) (.bin .mul (.int 3) (.lo 5)))] [], .ret (.tup [.lo 3, .lo 4])]
def f12 : Fn := ⟨3, 6, b12⟩
/-- 13 _law_sign -/
abbrev s13 : Stmt := topS 21
def b13 : List Sm := [.asg (.nm 2) (.int 0), .iff (.cmp .eq (.lo 0) (.int 8)) [.asg (.nm 2) (.int 1414213562373095048801688724209)] [], .iff (.cmp .eq (.lo 0) (.int 10)) [.asg (.nm 2) (.int 1618033988749894848204586834365)] [], .iff (.cmp .eq (.lo 0) (.int 12)) [.asg (.nm 2) (.int 1732050807568877293527446341505)] [], .asg (.nm 3) (.bin .add (.bin .mul (.ix (.lo 1) (.int 0)) (.bin .pow (.int 10) (.int 30))) (.bin .mul (.ix (.lo 1) (.int 1)) (.lo 2))), .ret (.bin .sub (.blt .int [.cmp .gt (.lo 3) (.int 0)]) (.blt .int [.cmp .lt (.lo 3) (.int 0)]))]
def f13 : Fn := ⟨2, 4, b13⟩
/-- 14 _law_sum -/
abbrev s14 : Stmt := topS 22
def b14 : List Sm := [.ret (.tup [.tup [.bin .add (.ix (.ix (.lo 0) (.int 0)) (.int 0)) (.ix (.ix (.lo 1) (.int 0)) (.int 0)), .bin .add (.ix (.ix (.lo 0) (.int 0)) (.int 1)) (.ix (.ix (.lo 1) (.int 0)) (.int 1))], .tup [.bin .add (.ix (.ix (.lo 0) (.int 1)) (.int 0)) (.ix (.ix (.lo 1) (.int 1)) (.int 0)), .bin .add (.ix (.ix (.lo 0) (.int 1)) (.int 1)) (.ix (.ix (.lo 1) (.int 1)) (.int 1))]])]
def f14 : Fn := ⟨2, 2, b14⟩
/-- 15 _law_less -/
abbrev s15 : Stmt := topS 23
def b15 : List Sm := [.ret (.tup [.tup [.bin .sub (.ix (.ix (.lo 0) (.int 0)) (.int 0)) (.ix (.ix (.lo 1) (.int 0)) (.int 0)), .bin .sub (.ix (.ix (.lo 0) (.int 0)) (.int 1)) (.ix (.ix (.lo 1) (.int 0)) (.int 1))], .tup [.bin .sub (.ix (.ix (.lo 0) (.int 1)) (.int 0)) (.ix (.ix (.lo 1) (.int 1)) (.int 0)), .bin .sub (.ix (.ix (.lo 0) (.int 1)) (.int 1)) (.ix (.ix (.lo 1) (.int 1)) (.int 1))]])]
def f15 : Fn := ⟨2, 2, b15⟩
/-- 16 _law_hand -/
abbrev s16 : Stmt := topS 24
def b16 : List Sm := [.asg (.nm 4) (.call 15 [.lo 2, .lo 1]), .asg (.nm 5) (.call 15 [.lo 3, .lo 1]), .asg (.nm 6) (.call 12 [.lo 0, .ix (.lo 4) (.int 0), .ix (.lo 5) (.int 1)]), .asg (.nm 7) (.call 12 [.lo 0, .ix (.lo 4) (.int 1), .ix (.lo 5) (.int 0)]), .ret (.call 13 [.lo 0, .tup [.bin .sub (.ix (.lo 6) (.int 0)) (.ix (.lo 7) (.int 0)), .bin .sub (.ix (.lo 6) (.int 1)) (.ix (.lo 7) (.int 1))]])]
def f16 : Fn := ⟨4, 8, b16⟩
/-- 17 _law_way -/
abbrev s17 : Stmt := topS 25
def b17 : List Sm := [.asg (.nm 3) (.tup [.int 0, .blt .int [.cmp .gt (.lo 0) (.int 6)]]), .iff (.cmp .eq (.lo 0) (.int 6)) [.asg (.nm 3) (.tup [.int 1, .int 0])] [], .asg (.nm 4) (.lo 2), .asg (.nm 5) (.tup [.int 0, .int 0]), .for_ (.nm 6) (.rng1 (.bin .mod (.lo 1) (.lo 0))) [.asg (.nm 7) (.call 12 [.lo 0, .lo 3, .lo 5]), .par 4 5 (.tup [.neg (.ix (.lo 5) (.int 0)), .neg (.ix (.lo 5) (.int 1))]) (.tup [.bin .add (.ix (.lo 4) (.int 0)) (.ix (.lo 7) (.int 0)), .bin .add (.ix (.lo 4) (.int 1)) (.ix (.lo 7) (.int 1))])], .ret (.tup [.lo 4, .lo 5])]
def f17 : Fn := ⟨3, 8, b17⟩
/-- 18 _law_round -/
abbrev s18 : Stmt := topS 26
def b18 : List Sm := [.asg (.nm 3) (.lst [.int 0, .bin .add (.int 1) (.bin .mod (.call 11 [.lo 0, .lo 1]) (.bin .sub (.bin .fdiv (.lo 2) (.int 2)) (.int 1)))]), .iff (.and (.cmp .eq (.bin .mod (.call 11 [.lo 0, .bin .add (.lo 1) (.int 1)]) (.int 2)) (.int 1)) (.cmp .lt (.ix (.lo 3) (.int 1)) (.bin .sub (.bin .fdiv (.lo 2) (.int 2)) (.int 1)))) [.app 3 (.bin .add (.bin .add (.ix (.lo 3) (.int 1)) (.int 1)) (.bin .mod (.call 11 [.lo 0, .bin .add (.lo 1) (.int 2)]) (.bin .sub (.bin .sub (.bin .fdiv (.lo 2) (.int 2)) (.int 1)) (.ix (.lo 3) (.int 1)))))] [], .asg (.nm 4) (.bin .mod (.call 11 [.lo 0, .bin .add (.lo 1) (.int 3)]) (.lo 2)), .asg (.nm 5) (.lst []), .for_ (.nm 6) (.rng1 (.blt .len [.lo 3])) [.asg (.nm 7) (.call 11 [.lo 0, .bin .add (.bin .add (.lo 1) (.int 4)) (.lo 6)]), .app 5 (.call 17 [.lo 2, .bin .add (.lo 4) (.ix (.lo 3) (.lo 6)), .tup [.bin .add (.int 1) (.bin .mod (.lo 7) (.int 4)), .bin .mul (.bin .mod (.bin .fdiv (.lo 7) (.int 4)) (.int 3)) (.blt .int [.cmp .gt (.lo 2) (.int 6)])]])], .asg (.nm 8) (.call 17 [.lo 2, .bin .mod (.call 11 [.lo 0, .bin .add (.lo 1) (.int 7)]) (.lo 2), .tup [.bin .mod (.call 11 [.lo 0, .bin .add (.lo 1) (.int 8)]) (.int 9), .int 0]]), .asg (.nm 9) (.lst []), .fre 5, .for_ (.nm 10) (.ex (.bin .add (.lo 5) (.lc (.nm 10) (.ex (.lo 5)) [] (.call 15 [.tup [.tup [.int 0, .int 0], .tup [.int 0, .int 0]], .lo 10]) [10]))) [.app 9 (.lo 8), .asg (.nm 8) (.call 14 [.lo 8, .lo 10])], .ret (.lo 9)]
def f18 : Fn := ⟨3, 11, b18⟩
/-- 19 _law_shape -/
abbrev s19 : Stmt := topS 27
def b19 : List Sm := [.asg (.nm 3) (.call 18 [.lo 0, .lo 1, .lo 2]), .asg (.nm 4) (.bin .add (.int 3) (.bin .mod (.call 11 [.lo 0, .bin .add (.lo 1) (.int 9)]) (.bin .sub (.blt .len [.lo 3]) (.int 2)))), .whl (.cmp .gt (.blt .len [.lo 3]) (.lo 4)) [.pop 3 (.bin .mod (.bin .fdiv (.call 11 [.lo 0, .bin .add (.lo 1) (.int 10)]) (.blt .len [.lo 3])) (.blt .len [.lo 3]))], .ret (.lo 3)]
def f19 : Fn := ⟨3, 5, b19⟩
/-- 20 _law_doubled -/
abbrev s20 : Stmt := topS 28
def b20 : List Sm := [.ret (.lc (.nm 1) (.ex (.lo 0)) [] (.call 14 [.lo 1, .lo 1]) [1])]
def f20 : Fn := ⟨1, 2, b20⟩
/-- 21 _law_free_ones -/
abbrev s21 : Stmt := topS 29
def b21 : List Sm := [.asg (.nm 2) (.lst []), .for_ (.nm 3) (.rng1 (.bin .add (.int 3) (.bin .mod (.call 11 [.lo 0, .int 20]) (.int 5)))) [.asg (.nm 4) (.lc (.nm 6) (.rng1 (.int 4)) [] (.bin .sub (.bin .mod (.call 11 [.lo 0, .bin .add (.bin .add (.int 21) (.bin .mul (.int 4) (.lo 3))) (.lo 6)]) (.int 7)) (.int 3)) [6]), .asg (.nm 5) (.blt .int [.cmp .gt (.lo 1) (.int 6)]), .app 2 (.tup [.tup [.ix (.lo 4) (.int 0), .bin .mul (.ix (.lo 4) (.int 1)) (.lo 5)], .tup [.ix (.lo 4) (.int 2), .bin .mul (.ix (.lo 4) (.int 3)) (.lo 5)]])], .ret (.lo 2)]
def f21 : Fn := ⟨2, 7, b21⟩
/-- 22 _law_list -/
abbrev s22 : Stmt := topS 30
def b22 : List Sm := [.asg (.nm 2) (.call 19 [.lo 0, .int 1, .lo 1]), .asg (.nm 3) (.bin .mod (.call 11 [.lo 0, .int 14]) (.int 12)), .asg (.nm 4) (.bin .mod (.call 11 [.lo 0, .int 15]) (.blt .len [.lo 2])), .asg (.nm 5) (.bin .mod (.call 11 [.lo 0, .int 16]) (.blt .len [.lo 2])), .iff (.cmp .eq (.lo 3) (.int 4)) [.ret (.rev (.lo 2))] [], .iff (.cmp .eq (.lo 3) (.int 5)) [.ret (.bin .add (.bin .add (.sl (.lo 2) (.non) (.lo 4)) (.lst [.ix (.lo 2) (.lo 5)])) (.sl (.lo 2) (.lo 4) (.non)))] [], .iff (.cmp .eq (.lo 3) (.int 6)) [.asg (.nm 6) (.call 14 [.ix (.lo 2) (.bin .sub (.lo 4) (.int 1)), .ix (.lo 2) (.lo 4)]), .ret (.bin .add (.bin .add (.call 20 [.sl (.lo 2) (.non) (.lo 4)]) (.lst [.lo 6])) (.call 20 [.sl (.lo 2) (.lo 4) (.non)]))] [], .iff (.cmp .eq (.lo 3) (.int 7)) [.swp 2 (.lo 4) (.lo 5) (.tup [.ix (.lo 2) (.lo 5), .ix (.lo 2) (.lo 4)])] [], .iff (.cmp .eq (.lo 3) (.int 8)) [.seti 2 (.lo 4) (.ix (.call 21 [.lo 0, .lo 1]) (.int 0))] [], .iff (.cmp .eq (.lo 3) (.int 9)) [.ret (.sl (.lo 2) (.non) (.int 2))] [], .iff (.cmp .eq (.lo 3) (.int 10)) [.ret (.bin .add (.lo 2) (.lo 2))] [], .iff (.cmp .eq (.lo 3) (.int 11)) [.ret (.call 21 [.lo 0, .lo 1])] [], .ret (.lo 2)]
def f22 : Fn := ⟨2, 7, b22⟩
/-- 23 _law_due -/
abbrev s23 : Stmt := topS 31
def b23 : List Sm := [.iff (.not (.chain .le .le (.int 3) (.blt .len [.lo 1]) (.int 6))) [.ret (.bl false)] [], .for_ (.nm 2) (.rng1 (.blt .len [.lo 1])) [.for_ (.nm 3) (.rng1 (.blt .len [.lo 1])) [.iff (.and (.cmp .ne (.lo 3) (.lo 2)) (.cmp .ne (.lo 3) (.bin .mod (.bin .sub (.lo 2) (.int 1)) (.blt .len [.lo 1])))) [.iff (.cmp .ne (.call 16 [.lo 0, .ix (.lo 1) (.bin .sub (.lo 2) (.int 1)), .ix (.lo 1) (.lo 2), .ix (.lo 1) (.lo 3)]) (.int 1)) [.ret (.bl false)] []] []]], .ret (.bl true)]
def f23 : Fn := ⟨2, 4, b23⟩
/-- 24 law -/
abbrev s24 : Stmt := topS 32
def b24 : List Sm := [.asg (.nm 1) (.ix (.lst [.int 4, .int 6, .int 8, .int 10, .int 12]) (.bin .mod (.call 11 [.lo 0, .int 0]) (.int 5))), .asg (.nm 2) (.call 22 [.lo 0, .lo 1]), .fre 2, .asg (.nm 3) (.call 23 [.lo 1, .lo 2]), .asg (.nm 4) (.bin .mod (.call 11 [.lo 0, .int 17]) (.blt .len [.lo 2])), .fre 2, .for_ (.nm 5) (.ex (.lst [.lo 2, .bin .add (.sl (.lo 2) (.lo 4) (.non)) (.sl (.lo 2) (.non) (.lo 4))])) [.asg (.nm 6) (.blt .list [.lo 5]), .fre 6, .asg (.nm 7) (.call 10 [.call 25 [.lo 1], .lo 6]), .iff (.or (.not (.isi (.lo 7) .bool)) (.or (.cmp .ne (.lo 7) (.lo 3)) (.cmp .ne (.lo 6) (.lo 5)))) [.ret (.bl false)] []], .iff (.isB true false (.call 10 [.call 25 [.lo 1], .sl (.lo 2) (.non) (.int 2)])) [.ret (.bl false)] [], .ret (.isB false true (.call 10 [.call 25 [.lo 1], .call 19 [.lo 0, .int 1, .lo 1]]))]
def f24 : Fn := ⟨1, 8, b24⟩
/-- Frame.__init__ -/
abbrev sI0 : Stmt := inClass (topS 11) 0
def mI0 : Sm := .iff (.or (.not (.isi (.lo 1) .int)) (.or (.isi (.lo 1) .bool) (.isin true (.lo 1) (.gl 0)))) [.rse 0] []
def tab : PSt where
  fnN := ("minus", 0) :: ("plain_sign", 1) :: ("root_sign", 2) :: ("cross", 7) :: ("way_from", 8) :: ("hand_of", 9) :: ("is_shape", 10) :: ("_law_cell", 11) :: ("_law_times", 12) :: ("_law_sign", 13) :: ("_law_sum", 14) :: ("_law_less", 15) :: ("_law_hand", 16) :: ("_law_way", 17) :: ("_law_round", 18) :: ("_law_shape", 19) :: ("_law_doubled", 20) :: ("_law_free_ones", 21) :: ("_law_list", 22) :: ("_law_due", 23) :: ("law", 24) :: ("Frame", 25) :: []
  mtN := [("number", 3, 0), ("times", 4, 0), ("sign", 5, 0), ("less", 6, 0)]
  glN := [("SIZES", 0), ("SQUARES", 1), ("ROOTS", 2)]
  fldN := [("whole_turn", 0, 0)]
  blN := ["len", "abs", "int", "max", "min", "list", "tuple", "sum", "all", "any", "isinstance", "bool", "str", "range"]
  excN := [("NoFrame", 0)]
def gls : Nat → Tr
  | 0 => .tup [.int 4, .int 6, .int 8, .int 10, .int 12]
  | 1 => .dct [4, 6, 8, 10, 12] [.tup [.int 0, .int 0], .tup [.int 1, .int 0], .tup [.int 2, .int 0], .tup [.int 1, .int 1], .tup [.int 3, .int 0]]
  | 2 => .dct [8, 10, 12] [.int 2, .int 5, .int 3]
  | _ => .non
def CF (i : Int) : Bool := (4 : Int) == i || ((6 : Int) == i || ((8 : Int) == i || ((10 : Int) == i || ((12 : Int) == i || false))))
def gF : Tr → Oc Tr := fun t => match t with
  | .int i => if !CF i then .ex 0 else .ok (.int i)
  | .ins _ _ => .no | .dct _ _ => .no | .raw _ => .no | _ => .ex 0
def defs : Nat → Option Def
  | 0 => some (.fn f0)
  | 1 => some (.fn f1)
  | 2 => some (.fn f2)
  | 3 => some (.fn f3)
  | 4 => some (.fn f4)
  | 5 => some (.fn f5)
  | 6 => some (.fn f6)
  | 7 => some (.fn f7)
  | 8 => some (.fn f8)
  | 9 => some (.fn f9)
  | 10 => some (.fn f10)
  | 11 => some (.fn f11)
  | 12 => some (.fn f12)
  | 13 => some (.fn f13)
  | 14 => some (.fn f14)
  | 15 => some (.fn f15)
  | 16 => some (.fn f16)
  | 17 => some (.fn f17)
  | 18 => some (.fn f18)
  | 19 => some (.fn f19)
  | 20 => some (.fn f20)
  | 21 => some (.fn f21)
  | 22 => some (.fn f22)
  | 23 => some (.fn f23)
  | 24 => some (.fn f24)
  | 25 => some (.nat 2 (mk1 0 gF))
  | _ => none
def Q : Pg := ⟨defs, gls, 5000⟩
/-! ### the looks -/
theorem k0 : fnChk tab s0 ["one", "other"] ["one", "other"] f0 = true := by decide +kernel
theorem k1 : fnChk tab s1 ["whole"] ["whole"] f1 = true := by decide +kernel
theorem k2 : fnChk tab s2 ["one", "other", "under", "first", "second"] ["one", "other", "under"] f2 = true := by decide +kernel
theorem k3 : fnChk tab s3 ["self", "a", "b"] ["self", "a", "b"] f3 = true := by decide +kernel
theorem k4 : fnChk tab s4 ["self", "one", "other", "square", "both", "plain"] ["self", "one", "other"] f4 = true := by decide +kernel
theorem k5 : fnChk tab s5 ["self", "one"] ["self", "one"] f5 = true := by decide +kernel
theorem k6 : fnChk tab s6 ["self", "one", "other"] ["self", "one", "other"] f6 = true := by decide +kernel
theorem k7 : fnChk tab s7 ["frame", "one", "other"] ["frame", "one", "other"] f7 = true := by decide +kernel
theorem k8 : fnChk tab s8 ["one", "other"] ["one", "other"] f8 = true := by decide +kernel
theorem k9 : fnChk tab s9 ["frame", "first", "last", "point"] ["frame", "first", "last", "point"] f9 = true := by decide +kernel
theorem k10 : fnChk tab s10 ["frame", "points", "k", "j", "other"] ["frame", "points"] f10 = true := by decide +kernel
theorem k11 : fnChk tab s11 ["_law_script", "_law_k"] ["_law_script", "_law_k"] f11 = true := by decide +kernel
theorem k12 : fnChk tab s12 ["_law_m", "_law_one", "_law_other", "_law_plain", "_law_mixed", "_law_both"] ["_law_m", "_law_one", "_law_other"] f12 = true := by decide +kernel
theorem k13 : fnChk tab s13 ["_law_m", "_law_number", "_law_w", "_law_near"] ["_law_m", "_law_number"] f13 = true := by decide +kernel
theorem k14 : fnChk tab s14 ["_law_one", "_law_other"] ["_law_one", "_law_other"] f14 = true := by decide +kernel
theorem k15 : fnChk tab s15 ["_law_one", "_law_other"] ["_law_one", "_law_other"] f15 = true := by decide +kernel
theorem k16 : fnChk tab s16 ["_law_m", "_law_first", "_law_last", "_law_point", "_law_one", "_law_other", "_law_right", "_law_left"] ["_law_m", "_law_first", "_law_last", "_law_point"] f16 = true := by decide +kernel
theorem k17 : fnChk tab s17 ["_law_m", "_law_turn", "_law_number", "_law_w", "_law_x", "_law_y", "_law_k", "_law_more"] ["_law_m", "_law_turn", "_law_number"] f17 = true := by decide +kernel
theorem k18 : fnChk tab s18 ["_law_script", "_law_k", "_law_m", "_law_turns", "_law_first", "_law_ways", "_law_j", "_law_cell_here", "_law_at", "_law_rim", "_law_way_here"] ["_law_script", "_law_k", "_law_m"] f18 = true := by decide +kernel
theorem k19 : fnChk tab s19 ["_law_script", "_law_k", "_law_m", "_law_rim", "_law_many"] ["_law_script", "_law_k", "_law_m"] f19 = true := by decide +kernel
theorem k20 : fnChk tab s20 ["_law_points", "_law_point"] ["_law_points"] f20 = true := by decide +kernel
theorem k21 : fnChk tab s21 ["_law_script", "_law_m", "_law_points", "_law_k", "_law_some", "_law_more", "_law_j"] ["_law_script", "_law_m"] f21 = true := by decide +kernel
theorem k22 : fnChk tab s22 ["_law_script", "_law_m", "_law_points", "_law_kind", "_law_at", "_law_other", "_law_amid"] ["_law_script", "_law_m"] f22 = true := by decide +kernel
theorem k23 : fnChk tab s23 ["_law_m", "_law_points", "_law_k", "_law_j"] ["_law_m", "_law_points"] f23 = true := by decide +kernel
theorem k24 : fnChk tab s24 ["_law_script", "_law_m", "_law_points", "_law_due_here", "_law_at", "_law_some", "_law_handed", "_law_found"] ["_law_script"] f24 = true := by decide +kernel
theorem mI0_ok {k : Nat} {a : Addr} {t : Tr} : exec (Q.ctx k) mI0 [.im (.raw a), .im t] = (gF t >>= fun t' => .ok (.nx [.im (.raw a), .im t'])) := by
  cases t <;> first | rfl | skip
  rename_i i
  show (if (!CF i) = true then Oc.ex 0 else Oc.ok (Fl.nx [Sl.im (.raw a), Sl.im (.int i)])) = ((if (!CF i) = true then Oc.ex 0 else Oc.ok (Tr.int i)) >>= fun t' => Oc.ok (Fl.nx [Sl.im (.raw a), Sl.im t']))
  cases CF i <;> rfl
theorem facts {w : World} {K : PySem.W.Frag} {h : Heap} {mg : Str → Option Value} {fa : Addr} (X : K.In h) (G : h.Ns mainGlobals mg) (hfa : mg "law" = some (.ref fa))
    {a0 : Addr} {od0 an0 : Option Addr} {sl0 : Array (Option Value)} {oc0 kV0 dc0 pm0 cd0 ct0 : Value} {a1 : Addr} {od1 an1 : Option Addr} {sl1 : Array (Option Value)} {oc1 kV1 dc1 pm1 cd1 ct1 : Value} {a2 : Addr} {od2 an2 : Option Addr} {sl2 : Array (Option Value)} {oc2 kV2 dc2 pm2 cd2 ct2 : Value} {a3 : Addr} {od3 an3 : Option Addr} {sl3 : Array (Option Value)} {oc3 kV3 dc3 pm3 cd3 ct3 : Value} {a4 : Addr} {od4 an4 : Option Addr} {sl4 : Array (Option Value)} {oc4 kV4 dc4 pm4 cd4 ct4 : Value} {a5 : Addr} {od5 an5 : Option Addr} {sl5 : Array (Option Value)} {oc5 kV5 dc5 pm5 cd5 ct5 : Value} {a6 : Addr} {od6 an6 : Option Addr} {sl6 : Array (Option Value)} {oc6 kV6 dc6 pm6 cd6 ct6 : Value} {a7 : Addr} {od7 an7 : Option Addr} {sl7 : Array (Option Value)} {oc7 kV7 dc7 pm7 cd7 ct7 : Value} {a8 : Addr} {od8 an8 : Option Addr} {sl8 : Array (Option Value)} {oc8 kV8 dc8 pm8 cd8 ct8 : Value} {a9 : Addr} {od9 an9 : Option Addr} {sl9 : Array (Option Value)} {oc9 kV9 dc9 pm9 cd9 ct9 : Value} {a10 : Addr} {od10 an10 : Option Addr} {sl10 : Array (Option Value)} {oc10 kV10 dc10 pm10 cd10 ct10 : Value} {a11 : Addr} {od11 an11 : Option Addr} {sl11 : Array (Option Value)} {oc11 kV11 dc11 pm11 cd11 ct11 : Value} {a12 : Addr} {od12 an12 : Option Addr} {sl12 : Array (Option Value)} {oc12 kV12 dc12 pm12 cd12 ct12 : Value} {a13 : Addr} {od13 an13 : Option Addr} {sl13 : Array (Option Value)} {oc13 kV13 dc13 pm13 cd13 ct13 : Value} {a14 : Addr} {od14 an14 : Option Addr} {sl14 : Array (Option Value)} {oc14 kV14 dc14 pm14 cd14 ct14 : Value} {a15 : Addr} {od15 an15 : Option Addr} {sl15 : Array (Option Value)} {oc15 kV15 dc15 pm15 cd15 ct15 : Value} {a16 : Addr} {od16 an16 : Option Addr} {sl16 : Array (Option Value)} {oc16 kV16 dc16 pm16 cd16 ct16 : Value} {a17 : Addr} {od17 an17 : Option Addr} {sl17 : Array (Option Value)} {oc17 kV17 dc17 pm17 cd17 ct17 : Value} {a18 : Addr} {od18 an18 : Option Addr} {sl18 : Array (Option Value)} {oc18 kV18 dc18 pm18 cd18 ct18 : Value} {a19 : Addr} {od19 an19 : Option Addr} {sl19 : Array (Option Value)} {oc19 kV19 dc19 pm19 cd19 ct19 : Value} {a20 : Addr} {od20 an20 : Option Addr} {sl20 : Array (Option Value)} {oc20 kV20 dc20 pm20 cd20 ct20 : Value} {a21 : Addr} {od21 an21 : Option Addr} {sl21 : Array (Option Value)} {oc21 kV21 dc21 pm21 cd21 ct21 : Value} {a22 : Addr} {od22 an22 : Option Addr} {sl22 : Array (Option Value)} {oc22 kV22 dc22 pm22 cd22 ct22 : Value} {a23 : Addr} {od23 an23 : Option Addr} {sl23 : Array (Option Value)} {oc23 kV23 dc23 pm23 cd23 ct23 : Value} {a24 : Addr} {od24 an24 : Option Addr} {sl24 : Array (Option Value)} {oc24 kV24 dc24 pm24 cd24 ct24 : Value} {C0 aI0 : Addr} {odI0 anI0 : Option Addr} {slI0 : Array (Option Value)} {ocI0 kVI0 dcI0 pmI0 cdI0 ctI0 : Value} {tk2 : Tok} {tk3 : Tok} {tk4 : Tok} {tk5 : Tok} {tk6 : Tok} {q1 n1 : Nat} {dd1 : Option Addr} {ss1 : Array (Option Value)} {tk9 : Tok} {tk10 : Tok} {q8 n8 : Nat} {dd8 : Option Addr} {ss8 : Array (Option Value)} {tk12 : Tok} {tk13 : Tok} {q11 n11 : Nat} {dd11 : Option Addr} {ss11 : Array (Option Value)} {tk15 : Tok} {tk16 : Tok} {q14 n14 : Nat} {dd14 : Option Addr} {ss14 : Array (Option Value)} {tk18 : Tok} {tk19 : Tok} {q17 n17 : Nat} {dd17 : Option Addr} {ss17 : Array (Option Value)} {tk21 : Tok} {tk22 : Tok} {q20 n20 : Nat} {dd20 : Option Addr} {ss20 : Array (Option Value)} {q7 n7 : Nat} {tj7_0 tj7_1 tj7_2 tj7_3 tj7_4 : Tok} {tk24 : Tok} {tk25 : Tok} {tk26 : Tok} {q23 n23 : Nat} {tj23_0 tj23_1 tj23_2 : Tok} {E0 : Addr}
    (xC0 : PySem.W.nsIn K mainGlobals "Frame" = some (some (.ref C0)))
    (xI0 : PySem.W.findIn K (.ref C0) "__init__" = some (some (.ref aI0)))
    (iI0 : PySem.W.isFn K (.ref aI0) = true)
    (lI0 : K.lookup aI0 = some ⟨ocI0, odI0, .func (PySem.W.fnOf "__init__" "Frame.__init__" (defArgs sI0) (defBody sI0) (defScope sI0) .none kVI0 dcI0 pmI0 anI0 cdI0 ctI0), slI0⟩)
    (cI0 : PySem.W.codeIn K cdI0 "Frame.__init__" = true)
    (kI0 : PySem.W.keepIn K (.ref aI0) = true)
    (pg0 : PySem.W.plainGet K C0 Str.empty = true)
    (hd0 : PySem.W.hasDictIn K C0 = true)
    (po0 : PySem.W.plainOver K C0 = true)
    (sa0 : PySem.W.findIn K (.ref C0) "__setattr__" = some (some (.builtin "object.__setattr__")))
    (mk0 : PySem.W.makesIn K C0 = true)
    (kC0 : PySem.W.keepIn K (.ref C0) = true)
    (nf0_0 : PySem.W.findIn K (.ref C0) "whole_turn" = some none)
    (x0 : PySem.W.nsIn K mainGlobals "minus" = some (some (.ref a0)))
    (l0 : K.lookup a0 = some ⟨oc0, od0, .func (PySem.W.fnOf "minus" "minus" (defArgs s0) (defBody s0) (defScope s0) .none kV0 dc0 pm0 an0 cd0 ct0), sl0⟩)
    (c0 : PySem.W.codeIn K cd0 "minus" = true)
    (k0_ : PySem.W.keepIn K (.ref a0) = true)
    (x1 : PySem.W.nsIn K mainGlobals "plain_sign" = some (some (.ref a1)))
    (l1 : K.lookup a1 = some ⟨oc1, od1, .func (PySem.W.fnOf "plain_sign" "plain_sign" (defArgs s1) (defBody s1) (defScope s1) .none kV1 dc1 pm1 an1 cd1 ct1), sl1⟩)
    (c1 : PySem.W.codeIn K cd1 "plain_sign" = true)
    (k1_ : PySem.W.keepIn K (.ref a1) = true)
    (x2 : PySem.W.nsIn K mainGlobals "root_sign" = some (some (.ref a2)))
    (l2 : K.lookup a2 = some ⟨oc2, od2, .func (PySem.W.fnOf "root_sign" "root_sign" (defArgs s2) (defBody s2) (defScope s2) .none kV2 dc2 pm2 an2 cd2 ct2), sl2⟩)
    (c2 : PySem.W.codeIn K cd2 "root_sign" = true)
    (k2_ : PySem.W.keepIn K (.ref a2) = true)
    (x3 : PySem.W.findIn K (.ref C0) "number" = some (some (.ref a3)))
    (i3 : PySem.W.isFn K (.ref a3) = true)
    (l3 : K.lookup a3 = some ⟨oc3, od3, .func (PySem.W.fnOf "number" "Frame.number" (defArgs s3) (defBody s3) (defScope s3) .none kV3 dc3 pm3 an3 cd3 ct3), sl3⟩)
    (c3 : PySem.W.codeIn K cd3 "Frame.number" = true)
    (k3_ : PySem.W.keepIn K (.ref a3) = true)
    (x4 : PySem.W.findIn K (.ref C0) "times" = some (some (.ref a4)))
    (i4 : PySem.W.isFn K (.ref a4) = true)
    (l4 : K.lookup a4 = some ⟨oc4, od4, .func (PySem.W.fnOf "times" "Frame.times" (defArgs s4) (defBody s4) (defScope s4) .none kV4 dc4 pm4 an4 cd4 ct4), sl4⟩)
    (c4 : PySem.W.codeIn K cd4 "Frame.times" = true)
    (k4_ : PySem.W.keepIn K (.ref a4) = true)
    (x5 : PySem.W.findIn K (.ref C0) "sign" = some (some (.ref a5)))
    (i5 : PySem.W.isFn K (.ref a5) = true)
    (l5 : K.lookup a5 = some ⟨oc5, od5, .func (PySem.W.fnOf "sign" "Frame.sign" (defArgs s5) (defBody s5) (defScope s5) .none kV5 dc5 pm5 an5 cd5 ct5), sl5⟩)
    (c5 : PySem.W.codeIn K cd5 "Frame.sign" = true)
    (k5_ : PySem.W.keepIn K (.ref a5) = true)
    (x6 : PySem.W.findIn K (.ref C0) "less" = some (some (.ref a6)))
    (i6 : PySem.W.isFn K (.ref a6) = true)
    (l6 : K.lookup a6 = some ⟨oc6, od6, .func (PySem.W.fnOf "less" "Frame.less" (defArgs s6) (defBody s6) (defScope s6) .none kV6 dc6 pm6 an6 cd6 ct6), sl6⟩)
    (c6 : PySem.W.codeIn K cd6 "Frame.less" = true)
    (k6_ : PySem.W.keepIn K (.ref a6) = true)
    (x7 : PySem.W.nsIn K mainGlobals "cross" = some (some (.ref a7)))
    (l7 : K.lookup a7 = some ⟨oc7, od7, .func (PySem.W.fnOf "cross" "cross" (defArgs s7) (defBody s7) (defScope s7) .none kV7 dc7 pm7 an7 cd7 ct7), sl7⟩)
    (c7 : PySem.W.codeIn K cd7 "cross" = true)
    (k7_ : PySem.W.keepIn K (.ref a7) = true)
    (x8 : PySem.W.nsIn K mainGlobals "way_from" = some (some (.ref a8)))
    (l8 : K.lookup a8 = some ⟨oc8, od8, .func (PySem.W.fnOf "way_from" "way_from" (defArgs s8) (defBody s8) (defScope s8) .none kV8 dc8 pm8 an8 cd8 ct8), sl8⟩)
    (c8 : PySem.W.codeIn K cd8 "way_from" = true)
    (k8_ : PySem.W.keepIn K (.ref a8) = true)
    (x9 : PySem.W.nsIn K mainGlobals "hand_of" = some (some (.ref a9)))
    (l9 : K.lookup a9 = some ⟨oc9, od9, .func (PySem.W.fnOf "hand_of" "hand_of" (defArgs s9) (defBody s9) (defScope s9) .none kV9 dc9 pm9 an9 cd9 ct9), sl9⟩)
    (c9 : PySem.W.codeIn K cd9 "hand_of" = true)
    (k9_ : PySem.W.keepIn K (.ref a9) = true)
    (x10 : PySem.W.nsIn K mainGlobals "is_shape" = some (some (.ref a10)))
    (l10 : K.lookup a10 = some ⟨oc10, od10, .func (PySem.W.fnOf "is_shape" "is_shape" (defArgs s10) (defBody s10) (defScope s10) .none kV10 dc10 pm10 an10 cd10 ct10), sl10⟩)
    (c10 : PySem.W.codeIn K cd10 "is_shape" = true)
    (k10_ : PySem.W.keepIn K (.ref a10) = true)
    (x11 : PySem.W.nsIn K mainGlobals "_law_cell" = some (some (.ref a11)))
    (l11 : K.lookup a11 = some ⟨oc11, od11, .func (PySem.W.fnOf "_law_cell" "_law_cell" (defArgs s11) (defBody s11) (defScope s11) .none kV11 dc11 pm11 an11 cd11 ct11), sl11⟩)
    (c11 : PySem.W.codeIn K cd11 "_law_cell" = true)
    (k11_ : PySem.W.keepIn K (.ref a11) = true)
    (x12 : PySem.W.nsIn K mainGlobals "_law_times" = some (some (.ref a12)))
    (l12 : K.lookup a12 = some ⟨oc12, od12, .func (PySem.W.fnOf "_law_times" "_law_times" (defArgs s12) (defBody s12) (defScope s12) .none kV12 dc12 pm12 an12 cd12 ct12), sl12⟩)
    (c12 : PySem.W.codeIn K cd12 "_law_times" = true)
    (k12_ : PySem.W.keepIn K (.ref a12) = true)
    (x13 : PySem.W.nsIn K mainGlobals "_law_sign" = some (some (.ref a13)))
    (l13 : K.lookup a13 = some ⟨oc13, od13, .func (PySem.W.fnOf "_law_sign" "_law_sign" (defArgs s13) (defBody s13) (defScope s13) .none kV13 dc13 pm13 an13 cd13 ct13), sl13⟩)
    (c13 : PySem.W.codeIn K cd13 "_law_sign" = true)
    (k13_ : PySem.W.keepIn K (.ref a13) = true)
    (x14 : PySem.W.nsIn K mainGlobals "_law_sum" = some (some (.ref a14)))
    (l14 : K.lookup a14 = some ⟨oc14, od14, .func (PySem.W.fnOf "_law_sum" "_law_sum" (defArgs s14) (defBody s14) (defScope s14) .none kV14 dc14 pm14 an14 cd14 ct14), sl14⟩)
    (c14 : PySem.W.codeIn K cd14 "_law_sum" = true)
    (k14_ : PySem.W.keepIn K (.ref a14) = true)
    (x15 : PySem.W.nsIn K mainGlobals "_law_less" = some (some (.ref a15)))
    (l15 : K.lookup a15 = some ⟨oc15, od15, .func (PySem.W.fnOf "_law_less" "_law_less" (defArgs s15) (defBody s15) (defScope s15) .none kV15 dc15 pm15 an15 cd15 ct15), sl15⟩)
    (c15 : PySem.W.codeIn K cd15 "_law_less" = true)
    (k15_ : PySem.W.keepIn K (.ref a15) = true)
    (x16 : PySem.W.nsIn K mainGlobals "_law_hand" = some (some (.ref a16)))
    (l16 : K.lookup a16 = some ⟨oc16, od16, .func (PySem.W.fnOf "_law_hand" "_law_hand" (defArgs s16) (defBody s16) (defScope s16) .none kV16 dc16 pm16 an16 cd16 ct16), sl16⟩)
    (c16 : PySem.W.codeIn K cd16 "_law_hand" = true)
    (k16_ : PySem.W.keepIn K (.ref a16) = true)
    (x17 : PySem.W.nsIn K mainGlobals "_law_way" = some (some (.ref a17)))
    (l17 : K.lookup a17 = some ⟨oc17, od17, .func (PySem.W.fnOf "_law_way" "_law_way" (defArgs s17) (defBody s17) (defScope s17) .none kV17 dc17 pm17 an17 cd17 ct17), sl17⟩)
    (c17 : PySem.W.codeIn K cd17 "_law_way" = true)
    (k17_ : PySem.W.keepIn K (.ref a17) = true)
    (x18 : PySem.W.nsIn K mainGlobals "_law_round" = some (some (.ref a18)))
    (l18 : K.lookup a18 = some ⟨oc18, od18, .func (PySem.W.fnOf "_law_round" "_law_round" (defArgs s18) (defBody s18) (defScope s18) .none kV18 dc18 pm18 an18 cd18 ct18), sl18⟩)
    (c18 : PySem.W.codeIn K cd18 "_law_round" = true)
    (k18_ : PySem.W.keepIn K (.ref a18) = true)
    (x19 : PySem.W.nsIn K mainGlobals "_law_shape" = some (some (.ref a19)))
    (l19 : K.lookup a19 = some ⟨oc19, od19, .func (PySem.W.fnOf "_law_shape" "_law_shape" (defArgs s19) (defBody s19) (defScope s19) .none kV19 dc19 pm19 an19 cd19 ct19), sl19⟩)
    (c19 : PySem.W.codeIn K cd19 "_law_shape" = true)
    (k19_ : PySem.W.keepIn K (.ref a19) = true)
    (x20 : PySem.W.nsIn K mainGlobals "_law_doubled" = some (some (.ref a20)))
    (l20 : K.lookup a20 = some ⟨oc20, od20, .func (PySem.W.fnOf "_law_doubled" "_law_doubled" (defArgs s20) (defBody s20) (defScope s20) .none kV20 dc20 pm20 an20 cd20 ct20), sl20⟩)
    (c20 : PySem.W.codeIn K cd20 "_law_doubled" = true)
    (k20_ : PySem.W.keepIn K (.ref a20) = true)
    (x21 : PySem.W.nsIn K mainGlobals "_law_free_ones" = some (some (.ref a21)))
    (l21 : K.lookup a21 = some ⟨oc21, od21, .func (PySem.W.fnOf "_law_free_ones" "_law_free_ones" (defArgs s21) (defBody s21) (defScope s21) .none kV21 dc21 pm21 an21 cd21 ct21), sl21⟩)
    (c21 : PySem.W.codeIn K cd21 "_law_free_ones" = true)
    (k21_ : PySem.W.keepIn K (.ref a21) = true)
    (x22 : PySem.W.nsIn K mainGlobals "_law_list" = some (some (.ref a22)))
    (l22 : K.lookup a22 = some ⟨oc22, od22, .func (PySem.W.fnOf "_law_list" "_law_list" (defArgs s22) (defBody s22) (defScope s22) .none kV22 dc22 pm22 an22 cd22 ct22), sl22⟩)
    (c22 : PySem.W.codeIn K cd22 "_law_list" = true)
    (k22_ : PySem.W.keepIn K (.ref a22) = true)
    (x23 : PySem.W.nsIn K mainGlobals "_law_due" = some (some (.ref a23)))
    (l23 : K.lookup a23 = some ⟨oc23, od23, .func (PySem.W.fnOf "_law_due" "_law_due" (defArgs s23) (defBody s23) (defScope s23) .none kV23 dc23 pm23 an23 cd23 ct23), sl23⟩)
    (c23 : PySem.W.codeIn K cd23 "_law_due" = true)
    (k23_ : PySem.W.keepIn K (.ref a23) = true)
    (x24 : PySem.W.nsIn K mainGlobals "law" = some (some (.ref a24)))
    (l24 : K.lookup a24 = some ⟨oc24, od24, .func (PySem.W.fnOf "law" "law" (defArgs s24) (defBody s24) (defScope s24) .none kV24 dc24 pm24 an24 cd24 ct24), sl24⟩)
    (c24 : PySem.W.codeIn K cd24 "law" = true)
    (k24_ : PySem.W.keepIn K (.ref a24) = true)
    (lq1 : K.lookup q1 = some ⟨.type "tuple", dd1, .seq #[.int 4 tk2, .int 6 tk3, .int 8 tk4, .int 10 tk5, .int 12 tk6] n1, ss1⟩)
    (g0 : PySem.W.nsIn K mainGlobals "SIZES" = some (some (.ref q1)))
    (lq8 : K.lookup q8 = some ⟨.type "tuple", dd8, .seq #[.int 0 tk9, .int 0 tk10] n8, ss8⟩)
    (lq11 : K.lookup q11 = some ⟨.type "tuple", dd11, .seq #[.int 1 tk12, .int 0 tk13] n11, ss11⟩)
    (lq14 : K.lookup q14 = some ⟨.type "tuple", dd14, .seq #[.int 2 tk15, .int 0 tk16] n14, ss14⟩)
    (lq17 : K.lookup q17 = some ⟨.type "tuple", dd17, .seq #[.int 1 tk18, .int 1 tk19] n17, ss17⟩)
    (lq20 : K.lookup q20 = some ⟨.type "tuple", dd20, .seq #[.int 3 tk21, .int 0 tk22] n20, ss20⟩)
    (lq7 : K.lookup q7 = some ⟨.type "dict", none, .dict #[⟨4, .int 4 tj7_0, .ref q8⟩, ⟨6, .int 6 tj7_1, .ref q11⟩, ⟨8, .int 8 tj7_2, .ref q14⟩, ⟨10, .int 10 tj7_3, .ref q17⟩, ⟨12, .int 12 tj7_4, .ref q20⟩] n7, #[]⟩)
    (g1 : PySem.W.nsIn K mainGlobals "SQUARES" = some (some (.ref q7)))
    (lq23 : K.lookup q23 = some ⟨.type "dict", none, .dict #[⟨8, .int 8 tj23_0, .int 2 tk24⟩, ⟨10, .int 10 tj23_1, .int 5 tk25⟩, ⟨12, .int 12 tj23_2, .int 3 tk26⟩] n23, #[]⟩)
    (g2 : PySem.W.nsIn K mainGlobals "ROOTS" = some (some (.ref q23)))
    (xE0 : PySem.W.nsIn K mainGlobals "NoFrame" = some (some (.ref E0)))
    (eE0 : PySem.W.excIn K E0 veTail "ValueError.__new__" = true)
    (kE0 : PySem.W.keepIn K (.ref E0) = true)
    (bE0 : PySem.W.subIn K (.ref E0) (.type "BaseException") = some true)
    (tE0 : PySem.W.typeIn K (.ref E0) = some (.type "type"))
    (z0 : PySem.W.nsIn K mainGlobals "len" = some none)
    (z1 : PySem.W.nsIn K mainGlobals "abs" = some none)
    (z2 : PySem.W.nsIn K mainGlobals "int" = some none)
    (z3 : PySem.W.nsIn K mainGlobals "max" = some none)
    (z4 : PySem.W.nsIn K mainGlobals "min" = some none)
    (z5 : PySem.W.nsIn K mainGlobals "list" = some none)
    (z6 : PySem.W.nsIn K mainGlobals "tuple" = some none)
    (z7 : PySem.W.nsIn K mainGlobals "sum" = some none)
    (z8 : PySem.W.nsIn K mainGlobals "all" = some none)
    (z9 : PySem.W.nsIn K mainGlobals "any" = some none)
    (z10 : PySem.W.nsIn K mainGlobals "isinstance" = some none)
    (z11 : PySem.W.nsIn K mainGlobals "bool" = some none)
    (z12 : PySem.W.nsIn K mainGlobals "str" = some none)
    (z13 : PySem.W.nsIn K mainGlobals "range" = some none)
    (kt : Nat) (top : ∀ ns : List Int, ns.length ≤ 63 → (∀ z ∈ ns, Builtin.Int.intBits z ≤ 1048576) → callK Q (kt + 1) 24 [.lst (ns.map Tr.int)] = .ok (.im (.bl true))) :
    ∃ fd : FuncData, (∀ (s : Shared) (v : Value), BindsTo s fd ⟨[v], []⟩ [("_law_script", v)]) ∧ ∀ base : Heap, K.In base → base.Ns mainGlobals mg → FnOk PySem.Challenge.pw_inflate_k10_what_is_a_shape w K mg base (L2.CX PySem.Challenge.pw_inflate_k10_what_is_a_shape w) (kt + 1) fa fd ["_law_script"] (spLaw K) := by
  have e := hfa.symm.trans (PySem.W.mg_of X G x24)
  cases e
  have F0 := fun_mk (st := s0) l0 c0 k0_
  have B0 := F0.binds (ps := ["one", "other"]) (fun _ _ _ _ _ _ us hl => match us, hl with | [_, _], _ => rfl)
  have F1 := fun_mk (st := s1) l1 c1 k1_
  have B1 := F1.binds (ps := ["whole"]) (fun _ _ _ _ _ _ us hl => match us, hl with | [_], _ => rfl)
  have F2 := fun_mk (st := s2) l2 c2 k2_
  have B2 := F2.binds (ps := ["one", "other", "under"]) (fun _ _ _ _ _ _ us hl => match us, hl with | [_, _, _], _ => rfl)
  have F3 := fun_mk (st := s3) l3 c3 k3_
  have B3 := F3.binds (ps := ["self", "a", "b"]) (fun _ _ _ _ _ _ us hl => match us, hl with | [_, _, _], _ => rfl)
  have F4 := fun_mk (st := s4) l4 c4 k4_
  have B4 := F4.binds (ps := ["self", "one", "other"]) (fun _ _ _ _ _ _ us hl => match us, hl with | [_, _, _], _ => rfl)
  have F5 := fun_mk (st := s5) l5 c5 k5_
  have B5 := F5.binds (ps := ["self", "one"]) (fun _ _ _ _ _ _ us hl => match us, hl with | [_, _], _ => rfl)
  have F6 := fun_mk (st := s6) l6 c6 k6_
  have B6 := F6.binds (ps := ["self", "one", "other"]) (fun _ _ _ _ _ _ us hl => match us, hl with | [_, _, _], _ => rfl)
  have F7 := fun_mk (st := s7) l7 c7 k7_
  have B7 := F7.binds (ps := ["frame", "one", "other"]) (fun _ _ _ _ _ _ us hl => match us, hl with | [_, _, _], _ => rfl)
  have F8 := fun_mk (st := s8) l8 c8 k8_
  have B8 := F8.binds (ps := ["one", "other"]) (fun _ _ _ _ _ _ us hl => match us, hl with | [_, _], _ => rfl)
  have F9 := fun_mk (st := s9) l9 c9 k9_
  have B9 := F9.binds (ps := ["frame", "first", "last", "point"]) (fun _ _ _ _ _ _ us hl => match us, hl with | [_, _, _, _], _ => rfl)
  have F10 := fun_mk (st := s10) l10 c10 k10_
  have B10 := F10.binds (ps := ["frame", "points"]) (fun _ _ _ _ _ _ us hl => match us, hl with | [_, _], _ => rfl)
  have F11 := fun_mk (st := s11) l11 c11 k11_
  have B11 := F11.binds (ps := ["_law_script", "_law_k"]) (fun _ _ _ _ _ _ us hl => match us, hl with | [_, _], _ => rfl)
  have F12 := fun_mk (st := s12) l12 c12 k12_
  have B12 := F12.binds (ps := ["_law_m", "_law_one", "_law_other"]) (fun _ _ _ _ _ _ us hl => match us, hl with | [_, _, _], _ => rfl)
  have F13 := fun_mk (st := s13) l13 c13 k13_
  have B13 := F13.binds (ps := ["_law_m", "_law_number"]) (fun _ _ _ _ _ _ us hl => match us, hl with | [_, _], _ => rfl)
  have F14 := fun_mk (st := s14) l14 c14 k14_
  have B14 := F14.binds (ps := ["_law_one", "_law_other"]) (fun _ _ _ _ _ _ us hl => match us, hl with | [_, _], _ => rfl)
  have F15 := fun_mk (st := s15) l15 c15 k15_
  have B15 := F15.binds (ps := ["_law_one", "_law_other"]) (fun _ _ _ _ _ _ us hl => match us, hl with | [_, _], _ => rfl)
  have F16 := fun_mk (st := s16) l16 c16 k16_
  have B16 := F16.binds (ps := ["_law_m", "_law_first", "_law_last", "_law_point"]) (fun _ _ _ _ _ _ us hl => match us, hl with | [_, _, _, _], _ => rfl)
  have F17 := fun_mk (st := s17) l17 c17 k17_
  have B17 := F17.binds (ps := ["_law_m", "_law_turn", "_law_number"]) (fun _ _ _ _ _ _ us hl => match us, hl with | [_, _, _], _ => rfl)
  have F18 := fun_mk (st := s18) l18 c18 k18_
  have B18 := F18.binds (ps := ["_law_script", "_law_k", "_law_m"]) (fun _ _ _ _ _ _ us hl => match us, hl with | [_, _, _], _ => rfl)
  have F19 := fun_mk (st := s19) l19 c19 k19_
  have B19 := F19.binds (ps := ["_law_script", "_law_k", "_law_m"]) (fun _ _ _ _ _ _ us hl => match us, hl with | [_, _, _], _ => rfl)
  have F20 := fun_mk (st := s20) l20 c20 k20_
  have B20 := F20.binds (ps := ["_law_points"]) (fun _ _ _ _ _ _ us hl => match us, hl with | [_], _ => rfl)
  have F21 := fun_mk (st := s21) l21 c21 k21_
  have B21 := F21.binds (ps := ["_law_script", "_law_m"]) (fun _ _ _ _ _ _ us hl => match us, hl with | [_, _], _ => rfl)
  have F22 := fun_mk (st := s22) l22 c22 k22_
  have B22 := F22.binds (ps := ["_law_script", "_law_m"]) (fun _ _ _ _ _ _ us hl => match us, hl with | [_, _], _ => rfl)
  have F23 := fun_mk (st := s23) l23 c23 k23_
  have B23 := F23.binds (ps := ["_law_m", "_law_points"]) (fun _ _ _ _ _ _ us hl => match us, hl with | [_, _], _ => rfl)
  have F24 := fun_mk (st := s24) l24 c24 k24_
  have B24 := F24.binds (ps := ["_law_script"]) (fun _ _ _ _ _ _ us hl => match us, hl with | [_], _ => rfl)
  have FI0 := fun_mk (st := sI0) lI0 cI0 kI0
  have BI0 := FI0.binds (ps := ["self", "m"]) (fun _ _ _ _ _ _ us hl => match us, hl with | [_, _], _ => rfl)
  have cl0 : Cls K C0 := ⟨pg0, hd0, po0, sa0⟩
  refine ⟨PySem.W.fnOf "law" "law" (defArgs s24) (defBody s24) (defScope s24) .none kV24 dc24 pm24 an24 cd24 ct24, fun s v => .of_eq rfl, fun base hKb hGb => ?_⟩
  have gl : AllL (fun x g => ∃ u v, mg x = some u ∧ RelV v u ∧ ∀ G0, Rep ⟨K, w, fun c => [C0].getD c 0, fun c => ([["whole_turn"]] : List (List Str)).getD c [], fun c => [E0].getD c 0⟩ G0 v (Q.gl g)) tab.glN := ⟨⟨_, V.ref q1, PySem.W.mg_of X G g0, rv_ref, fun _ => (.tup (vs := [V.int 4, V.int 6, V.int 8, V.int 10, V.int 12]) (.inr ⟨_, _, _, lq1, rfl, rfl, by show 5 ≤ sizeLine; decide, .cons rv_int (.cons rv_int (.cons rv_int (.cons rv_int (.cons rv_int (.nil)))))⟩) (.cons (.int _) (.cons (.int _) (.cons (.int _) (.cons (.int _) (.cons (.int _) (.nil)))))))⟩, ⟨_, V.ref q7, PySem.W.mg_of X G g1, rv_ref, fun _ => (.dct (vs := [V.ref q8, V.ref q11, V.ref q14, V.ref q17, V.ref q20]) ⟨_, _, lq7, IntE.cons (k := 4) (v := V.ref q8) rv_ref (IntE.cons (k := 6) (v := V.ref q11) rv_ref (IntE.cons (k := 8) (v := V.ref q14) rv_ref (IntE.cons (k := 10) (v := V.ref q17) rv_ref (IntE.cons (k := 12) (v := V.ref q20) rv_ref (.nil)))))⟩ rfl (.cons (.tup (vs := [V.int 0, V.int 0]) (.inr ⟨_, _, _, lq8, rfl, rfl, by show 2 ≤ sizeLine; decide, .cons rv_int (.cons rv_int (.nil))⟩) (.cons (.int _) (.cons (.int _) (.nil)))) (.cons (.tup (vs := [V.int 1, V.int 0]) (.inr ⟨_, _, _, lq11, rfl, rfl, by show 2 ≤ sizeLine; decide, .cons rv_int (.cons rv_int (.nil))⟩) (.cons (.int _) (.cons (.int _) (.nil)))) (.cons (.tup (vs := [V.int 2, V.int 0]) (.inr ⟨_, _, _, lq14, rfl, rfl, by show 2 ≤ sizeLine; decide, .cons rv_int (.cons rv_int (.nil))⟩) (.cons (.int _) (.cons (.int _) (.nil)))) (.cons (.tup (vs := [V.int 1, V.int 1]) (.inr ⟨_, _, _, lq17, rfl, rfl, by show 2 ≤ sizeLine; decide, .cons rv_int (.cons rv_int (.nil))⟩) (.cons (.int _) (.cons (.int _) (.nil)))) (.cons (.tup (vs := [V.int 3, V.int 0]) (.inr ⟨_, _, _, lq20, rfl, rfl, by show 2 ≤ sizeLine; decide, .cons rv_int (.cons rv_int (.nil))⟩) (.cons (.int _) (.cons (.int _) (.nil)))) (.nil)))))))⟩, ⟨_, V.ref q23, PySem.W.mg_of X G g2, rv_ref, fun _ => (.dct (vs := [V.int 2, V.int 5, V.int 3]) ⟨_, _, lq23, IntE.cons (k := 8) (v := V.int 2) rv_int (IntE.cons (k := 10) (v := V.int 5) rv_int (IntE.cons (k := 12) (v := V.int 3) rv_int (.nil)))⟩ rfl (.cons (.int _) (.cons (.int _) (.cons (.int _) (.nil)))))⟩, trivial⟩
  have bl : ∀ x, x ∈ tab.blN → mg x = none := allM ⟨PySem.W.mg_none_of X G z0, PySem.W.mg_none_of X G z1, PySem.W.mg_none_of X G z2, PySem.W.mg_none_of X G z3, PySem.W.mg_none_of X G z4, PySem.W.mg_none_of X G z5, PySem.W.mg_none_of X G z6, PySem.W.mg_none_of X G z7, PySem.W.mg_none_of X G z8, PySem.W.mg_none_of X G z9, PySem.W.mg_none_of X G z10, PySem.W.mg_none_of X G z11, PySem.W.mg_none_of X G z12, PySem.W.mg_none_of X G z13, trivial⟩
  have xc : AllL (fun x c => mg x = some (.ref ((⟨K, w, fun c => [C0].getD c 0, fun c => ([["whole_turn"]] : List (List Str)).getD c [], fun c => [E0].getD c 0⟩ : Uni).exc c)) ∧ PySem.W.excIn K ((⟨K, w, fun c => [C0].getD c 0, fun c => ([["whole_turn"]] : List (List Str)).getD c [], fun c => [E0].getD c 0⟩ : Uni).exc c) veTail "ValueError.__new__" = true ∧ PySem.W.keepIn K (.ref ((⟨K, w, fun c => [C0].getD c 0, fun c => ([["whole_turn"]] : List (List Str)).getD c [], fun c => [E0].getD c 0⟩ : Uni).exc c)) = true ∧ PySem.W.subIn K (.ref ((⟨K, w, fun c => [C0].getD c 0, fun c => ([["whole_turn"]] : List (List Str)).getD c [], fun c => [E0].getD c 0⟩ : Uni).exc c)) (.type "BaseException") = some true ∧ PySem.W.typeIn K (.ref ((⟨K, w, fun c => [C0].getD c 0, fun c => ([["whole_turn"]] : List (List Str)).getD c [], fun c => [E0].getD c 0⟩ : Uni).exc c)) = some (.type "type")) tab.excN := ⟨⟨PySem.W.mg_of X G xE0, eE0, kE0, bE0, tE0⟩, trivial⟩
  have h0 : Wh { tab with fnN := [], mtN := [], fldN := [] } Q ⟨K, w, fun c => [C0].getD c 0, fun c => ([["whole_turn"]] : List (List Str)).getD c [], fun c => [E0].getD c 0⟩ PySem.Challenge.pw_inflate_k10_what_is_a_shape w K mg base := ⟨rfl, (fun _ _ h => by cases h), (fun _ _ _ h => by cases h), (fun _ _ _ h => by cases h), allL gl, bl, fun X a => dct_ok a.K, allL xc⟩
  have Z0 : FnFact tab Q K 0 _ _ := ⟨⟨_, _, s0, _, _, f0, rfl, F0, B0, k0, by decide⟩⟩
  have Z1 : FnFact tab Q K 1 _ _ := ⟨⟨_, _, s1, _, _, f1, rfl, F1, B1, k1, by decide⟩⟩
  have Z2 : FnFact tab Q K 2 _ _ := ⟨⟨_, _, s2, _, _, f2, rfl, F2, B2, k2, by decide⟩⟩
  have Z3 : FnFact tab Q K 3 _ _ := ⟨⟨_, _, s3, _, _, f3, rfl, F3, B3, k3, by decide⟩⟩
  have Z4 : FnFact tab Q K 4 _ _ := ⟨⟨_, _, s4, _, _, f4, rfl, F4, B4, k4, by decide⟩⟩
  have Z5 : FnFact tab Q K 5 _ _ := ⟨⟨_, _, s5, _, _, f5, rfl, F5, B5, k5, by decide⟩⟩
  have Z6 : FnFact tab Q K 6 _ _ := ⟨⟨_, _, s6, _, _, f6, rfl, F6, B6, k6, by decide⟩⟩
  have Z7 : FnFact tab Q K 7 _ _ := ⟨⟨_, _, s7, _, _, f7, rfl, F7, B7, k7, by decide⟩⟩
  have Z8 : FnFact tab Q K 8 _ _ := ⟨⟨_, _, s8, _, _, f8, rfl, F8, B8, k8, by decide⟩⟩
  have Z9 : FnFact tab Q K 9 _ _ := ⟨⟨_, _, s9, _, _, f9, rfl, F9, B9, k9, by decide⟩⟩
  have Z10 : FnFact tab Q K 10 _ _ := ⟨⟨_, _, s10, _, _, f10, rfl, F10, B10, k10, by decide⟩⟩
  have Z11 : FnFact tab Q K 11 _ _ := ⟨⟨_, _, s11, _, _, f11, rfl, F11, B11, k11, by decide⟩⟩
  have Z12 : FnFact tab Q K 12 _ _ := ⟨⟨_, _, s12, _, _, f12, rfl, F12, B12, k12, by decide⟩⟩
  have Z13 : FnFact tab Q K 13 _ _ := ⟨⟨_, _, s13, _, _, f13, rfl, F13, B13, k13, by decide⟩⟩
  have Z14 : FnFact tab Q K 14 _ _ := ⟨⟨_, _, s14, _, _, f14, rfl, F14, B14, k14, by decide⟩⟩
  have Z15 : FnFact tab Q K 15 _ _ := ⟨⟨_, _, s15, _, _, f15, rfl, F15, B15, k15, by decide⟩⟩
  have Z16 : FnFact tab Q K 16 _ _ := ⟨⟨_, _, s16, _, _, f16, rfl, F16, B16, k16, by decide⟩⟩
  have Z17 : FnFact tab Q K 17 _ _ := ⟨⟨_, _, s17, _, _, f17, rfl, F17, B17, k17, by decide⟩⟩
  have Z18 : FnFact tab Q K 18 _ _ := ⟨⟨_, _, s18, _, _, f18, rfl, F18, B18, k18, by decide⟩⟩
  have Z19 : FnFact tab Q K 19 _ _ := ⟨⟨_, _, s19, _, _, f19, rfl, F19, B19, k19, by decide⟩⟩
  have Z20 : FnFact tab Q K 20 _ _ := ⟨⟨_, _, s20, _, _, f20, rfl, F20, B20, k20, by decide⟩⟩
  have Z21 : FnFact tab Q K 21 _ _ := ⟨⟨_, _, s21, _, _, f21, rfl, F21, B21, k21, by decide⟩⟩
  have Z22 : FnFact tab Q K 22 _ _ := ⟨⟨_, _, s22, _, _, f22, rfl, F22, B22, k22, by decide⟩⟩
  have Z23 : FnFact tab Q K 23 _ _ := ⟨⟨_, _, s23, _, _, f23, rfl, F23, B23, k23, by decide⟩⟩
  have Z24 : FnFact tab Q K 24 _ _ := ⟨⟨_, _, s24, _, _, f24, rfl, F24, B24, k24, by decide⟩⟩
  have II0 : ∀ k, FnOk PySem.Challenge.pw_inflate_k10_what_is_a_shape w K mg base (L2.CX PySem.Challenge.pw_inflate_k10_what_is_a_shape w) (k + 1) aI0 _ ["self", "m"] (spI ⟨K, w, fun c => [C0].getD c 0, fun c => ([["whole_turn"]] : List (List Str)).getD c [], fun c => [E0].getD c 0⟩ 0 gF "whole_turn") := fun k => init_ok (c := 0) (m := mI0) (all_levels h0 k).1 FI0 (scopeC_ok (by decide +kernel)) rfl (by decide +kernel) (by decide +kernel) (by decide +kernel) (fun a t => mI0_ok) cl0 nf0_0
  have h1 : Wh tab Q ⟨K, w, fun c => [C0].getD c 0, fun c => ([["whole_turn"]] : List (List Str)).getD c [], fun c => [E0].getD c 0⟩ PySem.Challenge.pw_inflate_k10_what_is_a_shape w K mg base := ⟨rfl, allL ⟨.inl ⟨_, _, PySem.W.mg_of X G x0, Z0⟩, .inl ⟨_, _, PySem.W.mg_of X G x1, Z1⟩, .inl ⟨_, _, PySem.W.mg_of X G x2, Z2⟩, .inl ⟨_, _, PySem.W.mg_of X G x7, Z7⟩, .inl ⟨_, _, PySem.W.mg_of X G x8, Z8⟩, .inl ⟨_, _, PySem.W.mg_of X G x9, Z9⟩, .inl ⟨_, _, PySem.W.mg_of X G x10, Z10⟩, .inl ⟨_, _, PySem.W.mg_of X G x11, Z11⟩, .inl ⟨_, _, PySem.W.mg_of X G x12, Z12⟩, .inl ⟨_, _, PySem.W.mg_of X G x13, Z13⟩, .inl ⟨_, _, PySem.W.mg_of X G x14, Z14⟩, .inl ⟨_, _, PySem.W.mg_of X G x15, Z15⟩, .inl ⟨_, _, PySem.W.mg_of X G x16, Z16⟩, .inl ⟨_, _, PySem.W.mg_of X G x17, Z17⟩, .inl ⟨_, _, PySem.W.mg_of X G x18, Z18⟩, .inl ⟨_, _, PySem.W.mg_of X G x19, Z19⟩, .inl ⟨_, _, PySem.W.mg_of X G x20, Z20⟩, .inl ⟨_, _, PySem.W.mg_of X G x21, Z21⟩, .inl ⟨_, _, PySem.W.mg_of X G x22, Z22⟩, .inl ⟨_, _, PySem.W.mg_of X G x23, Z23⟩, .inl ⟨_, _, PySem.W.mg_of X G x24, Z24⟩, .inr ⟨_, PySem.W.mg_of X G xC0, fun k X W a tk hr _ => callable_cls (U := ⟨K, w, fun c => [C0].getD c 0, fun c => ([["whole_turn"]] : List (List Str)).getD c [], fun c => [E0].getD c 0⟩) (c := 0) ⟨mk0, xI0, iI0, kC0⟩ BI0 II0 rfl rfl a tk hr⟩, trivial⟩, allL2 ⟨⟨_, _, Z3, cl0, ⟨x3, i3, k3_⟩, by show ("number" : Str) ∉ (["whole_turn"] : List Str); decide +kernel⟩, ⟨_, _, Z4, cl0, ⟨x4, i4, k4_⟩, by show ("times" : Str) ∉ (["whole_turn"] : List Str); decide +kernel⟩, ⟨_, _, Z5, cl0, ⟨x5, i5, k5_⟩, by show ("sign" : Str) ∉ (["whole_turn"] : List Str); decide +kernel⟩, ⟨_, _, Z6, cl0, ⟨x6, i6, k6_⟩, by show ("less" : Str) ∉ (["whole_turn"] : List Str); decide +kernel⟩, trivial⟩, allL2 ⟨⟨cl0, nf0_0, rfl, by show (["whole_turn"] : List Str).Nodup; decide +kernel⟩, trivial⟩, allL gl, bl, fun X a => dct_ok a.K, allL xc⟩
  exact law_ok (U := ⟨K, w, fun c => [C0].getD c 0, fun c => ([["whole_turn"]] : List (List Str)).getD c [], fun c => [E0].getD c 0⟩) (fn_level (all_levels h1 kt).1 F24 rfl k24 (by decide)) rfl top
end Zk10

set_option maxHeartbeats 4000000
namespace Zk10
open PySem PySem.Spec PyProof.Rows L2 PySem.HandSPX PF
open Builtin.Int (intBits)
theorem cell {ns : List Int} (hb : ∀ z ∈ ns, intBits z ≤ 1048576) (j : Int) (h0 : 0 ≤ j) (h1 : intBits j ≤ 64) : ∃ z, (∀ k, callK Q (k + 1) 11 [.lst (ns.map Tr.int), .int j] = .ok (.im (.int z))) ∧ intBits z ≤ 1048600 :=
  cell_gen (a := 71) (b := 31) (c := 48271) (d := 7841) rfl (by decide) (by decide) (by decide) (by decide) hb j h0 h1
theorem frame {k : Nat} {m : Int} (h : Sz m) : callK Q (k + 2) 25 [.int m] = .ok (.im (fr m)) := by
  rcases h with rfl | rfl | rfl | rfl | rfl <;> rfl
theorem minus {k : Nat} {a b c d : Int} : callK Q (k + 1) 0 [nu a b, nu c d] = .ok (.im (nu (a - c) (b - d))) := by
  rw [call_f (f := f0) rfl k _ rfl]
  simp -implicitDefEqProofs (maxSteps := 400000) (disch := (first | with_reducible assumption | (with_reducible apply PF.mulOk_of <;> (repeat' (first | with_reducible assumption | with_reducible (apply PyProof.Rows.bits_add) | with_reducible (apply PyProof.Rows.bits_sub) | with_reducible (apply PyProof.Rows.bits_mul) | with_reducible (apply PyProof.Rows.bits_neg) | with_reducible (apply PF.bits_div (by first | omega | decide +kernel)) | with_reducible (apply PF.bits_mod (by first | omega | decide +kernel)) | (with_reducible show _ + _ ≤ 134217728; decide +kernel) | exact Nat.le_refl _))) | ((with_reducible apply PF.lt_len); with_unfolding_all rfl) | omega | decide +kernel)) only [PF.opI_mul, PF.opI_mod, PF.opI_fdiv, PF.ixT0, PF.ixT1, PF.cmp_eq, PF.cmp_ne, PF.cmp_lt, PF.cmp_le, PF.cmp_gt, PF.cmp_ge, PF.cmp_t2, PF.cmp_n2, PF.cmp_tt2, PF.cmp_nt2, PF.isInsT, PF.q_lo, PF.q_s1, PF.q_s2, PF.q_non, PF.q_bl, PF.q_int, PF.q_str, PF.q_gl, PF.q_bin, PF.q_bin1, PF.q_bin2, PF.q_kI, PF.q_kB, PF.q_kIm, PF.q_kFz, PF.q_neg, PF.q_neg1, PF.q_not, PF.q_not1, PF.q_cmp, PF.q_cmp1, PF.q_cmp2, PF.q_isN, PF.q_isN1, PF.q_and, PF.q_and1, PF.q_and2, PF.q_or, PF.q_or1, PF.q_or2, PF.q_ite, PF.q_ite1, PF.q_ite2, PF.q_tup, PF.q_tup1, PF.q_tup2, PF.q_lst, PF.q_lst1, PF.q_lst2, PF.q_ix, PF.q_ix1, PF.q_ix2, PF.q_call, PF.q_call1, PF.q_meth, PF.q_meth1, PF.q_meth2, PF.q_meth3, PF.q_fld, PF.q_fld1, PF.q_blt, PF.q_blt1, PF.q_isi, PF.q_isi0, PF.q_vs0, PF.q_vs1, PF.q_vs2, PF.q_vs3, PF.q_vb0, PF.q_vb1, PF.q_vb2, PF.q_vb3, PF.q_itE, PF.q_itE1, PF.q_it1, PF.q_it2, PF.q_it3, PF.q_asg, PF.q_asg0, PF.q_nx, PF.q_par, PF.q_par1, PF.q_ret, PF.q_ret1, PF.q_retN, PF.q_iff, PF.q_iff1, PF.q_iff2, PF.q_for, PF.q_for1, PF.q_fg0, PF.q_fg1, PF.q_fb, PF.q_f1, PF.q_f2, PF.q_rse, PF.q_es0, PF.q_es1, PF.q_cn, PF.q_cr, PF.q_rk1, PF.q_rk2, PF.q_see1, PF.q_see2, PF.q_see3, PF.q_fz1, PF.q_fz2, PF.q_out1, PF.q_out2, PF.q_out3, PF.q_op, PF.q_add, PF.q_sub, PF.q_isi1, PF.q_isi2, PF.q_isi3, PF.q_isi4, PF.q_isi5, PF.q_asg1, PF.q_asg2, PF.q_put1, PF.q_put2, PF.q_bnm, PF.q_bt0, PF.q_bt1, PF.q_bt2, PF.q_tg1, PF.q_tg2, PF.q_its1, PF.q_its2, PF.q_len1, PF.q_len2, PF.q_bint, PF.q_fld0, PF.q_ctx, PF.q_cgl, PF.q_cwf, PF.q_size, List.map_cons, List.map_nil, Nat.reduceSub, Nat.sub_self, List.replicate, List.append_nil, List.cons_append, List.nil_append, List.length_cons, List.length_nil, List.getElem?_cons_zero, List.getElem?_cons_succ, List.set_cons_zero, List.set_cons_succ, Nat.reduceAdd, Nat.reduceLT, Nat.reduceLeDiff, Int.cast_ofNat_Int, Int.reduceEq, Int.reduceLT, Int.reduceLE, decide_true, decide_false, if_true, Bool.false_eq_true, if_false, Bool.not_true, Bool.not_false, Bool.and_true, Bool.true_and, Bool.or_true, Bool.or_false, Bool.and_self, ite_true, ite_false, PF.g_nu, PF.g_pt, PF.g_n0, PF.g_n1, PF.g_p0, PF.g_p1, PF.g_pi, PF.g_pa, PF.g_pb, PF.g_fi, PF.g_ff, PF.g_ce, PF.g_cn, PF.g_pe, PF.g_pn, PF.s_lc, PF.s_lc1, PF.s_lc2, PF.s_lc3, PF.s_fI, PF.s_fI1, PF.s_fI2, PF.s_fI3, PF.s_fI4, PF.s_ec0, PF.s_ec1, PF.s_ec2, PF.s_ec3, PF.s_lg0, PF.s_lg1, PF.s_lg2, PF.s_lg3, PF.s_lg4, PF.s_w0, PF.s_w1, PF.s_fre, PF.s_fre1, PF.s_fre2, PF.s_fre3, PF.s_app, PF.s_app1, PF.s_app2, PF.s_app3, PF.s_pop, PF.s_pop1, PF.s_pop2, PF.s_whl, PF.s_wh1, PF.s_wh2, PF.s_wh3, PF.s_wh4, PF.s_nn, PF.s_nn1, PF.s_nnp, PF.s_nnn, PF.s_tol, PF.s_tol2, PF.s_tol3, PF.s_tup, PF.s_tup2, PF.s_len, PF.s_len2, PF.s_all, PF.at_pt, PF.at_pv, PF.g_s0, PF.g_s1, PF.g_sa, List.length_map, f0, b0]
theorem number {k : Nat} {m a b : Int} : callK Q (k + 1) 3 [fr m, .int a, .int b] = .ok (.im (nu (d0 m a b) (d1 m a b))) := by
  rw [call_f (f := f3) rfl k _ rfl]
  by_cases h : m = 4
  · subst h
    simp -implicitDefEqProofs (maxSteps := 400000) (disch := (first | with_reducible assumption | (with_reducible apply PF.mulOk_of <;> (repeat' (first | with_reducible assumption | with_reducible (apply PyProof.Rows.bits_add) | with_reducible (apply PyProof.Rows.bits_sub) | with_reducible (apply PyProof.Rows.bits_mul) | with_reducible (apply PyProof.Rows.bits_neg) | with_reducible (apply PF.bits_div (by first | omega | decide +kernel)) | with_reducible (apply PF.bits_mod (by first | omega | decide +kernel)) | (with_reducible show _ + _ ≤ 134217728; decide +kernel) | exact Nat.le_refl _))) | ((with_reducible apply PF.lt_len); with_unfolding_all rfl) | omega | decide +kernel)) only [PF.opI_mul, PF.opI_mod, PF.opI_fdiv, PF.ixT0, PF.ixT1, PF.cmp_eq, PF.cmp_ne, PF.cmp_lt, PF.cmp_le, PF.cmp_gt, PF.cmp_ge, PF.cmp_t2, PF.cmp_n2, PF.cmp_tt2, PF.cmp_nt2, PF.isInsT, PF.q_lo, PF.q_s1, PF.q_s2, PF.q_non, PF.q_bl, PF.q_int, PF.q_str, PF.q_gl, PF.q_bin, PF.q_bin1, PF.q_bin2, PF.q_kI, PF.q_kB, PF.q_kIm, PF.q_kFz, PF.q_neg, PF.q_neg1, PF.q_not, PF.q_not1, PF.q_cmp, PF.q_cmp1, PF.q_cmp2, PF.q_isN, PF.q_isN1, PF.q_and, PF.q_and1, PF.q_and2, PF.q_or, PF.q_or1, PF.q_or2, PF.q_ite, PF.q_ite1, PF.q_ite2, PF.q_tup, PF.q_tup1, PF.q_tup2, PF.q_lst, PF.q_lst1, PF.q_lst2, PF.q_ix, PF.q_ix1, PF.q_ix2, PF.q_call, PF.q_call1, PF.q_meth, PF.q_meth1, PF.q_meth2, PF.q_meth3, PF.q_fld, PF.q_fld1, PF.q_blt, PF.q_blt1, PF.q_isi, PF.q_isi0, PF.q_vs0, PF.q_vs1, PF.q_vs2, PF.q_vs3, PF.q_vb0, PF.q_vb1, PF.q_vb2, PF.q_vb3, PF.q_itE, PF.q_itE1, PF.q_it1, PF.q_it2, PF.q_it3, PF.q_asg, PF.q_asg0, PF.q_nx, PF.q_par, PF.q_par1, PF.q_ret, PF.q_ret1, PF.q_retN, PF.q_iff, PF.q_iff1, PF.q_iff2, PF.q_for, PF.q_for1, PF.q_fg0, PF.q_fg1, PF.q_fb, PF.q_f1, PF.q_f2, PF.q_rse, PF.q_es0, PF.q_es1, PF.q_cn, PF.q_cr, PF.q_rk1, PF.q_rk2, PF.q_see1, PF.q_see2, PF.q_see3, PF.q_fz1, PF.q_fz2, PF.q_out1, PF.q_out2, PF.q_out3, PF.q_op, PF.q_add, PF.q_sub, PF.q_isi1, PF.q_isi2, PF.q_isi3, PF.q_isi4, PF.q_isi5, PF.q_asg1, PF.q_asg2, PF.q_put1, PF.q_put2, PF.q_bnm, PF.q_bt0, PF.q_bt1, PF.q_bt2, PF.q_tg1, PF.q_tg2, PF.q_its1, PF.q_its2, PF.q_len1, PF.q_len2, PF.q_bint, PF.q_fld0, PF.q_ctx, PF.q_cgl, PF.q_cwf, PF.q_size, List.map_cons, List.map_nil, Nat.reduceSub, Nat.sub_self, List.replicate, List.append_nil, List.cons_append, List.nil_append, List.length_cons, List.length_nil, List.getElem?_cons_zero, List.getElem?_cons_succ, List.set_cons_zero, List.set_cons_succ, Nat.reduceAdd, Nat.reduceLT, Nat.reduceLeDiff, Int.cast_ofNat_Int, Int.reduceEq, Int.reduceLT, Int.reduceLE, decide_true, decide_false, if_true, Bool.false_eq_true, if_false, Bool.not_true, Bool.not_false, Bool.and_true, Bool.true_and, Bool.or_true, Bool.or_false, Bool.and_self, ite_true, ite_false, PF.g_nu, PF.g_pt, PF.g_n0, PF.g_n1, PF.g_p0, PF.g_p1, PF.g_pi, PF.g_pa, PF.g_pb, PF.g_fi, PF.g_ff, PF.g_ce, PF.g_cn, PF.g_pe, PF.g_pn, PF.s_lc, PF.s_lc1, PF.s_lc2, PF.s_lc3, PF.s_fI, PF.s_fI1, PF.s_fI2, PF.s_fI3, PF.s_fI4, PF.s_ec0, PF.s_ec1, PF.s_ec2, PF.s_ec3, PF.s_lg0, PF.s_lg1, PF.s_lg2, PF.s_lg3, PF.s_lg4, PF.s_w0, PF.s_w1, PF.s_fre, PF.s_fre1, PF.s_fre2, PF.s_fre3, PF.s_app, PF.s_app1, PF.s_app2, PF.s_app3, PF.s_pop, PF.s_pop1, PF.s_pop2, PF.s_whl, PF.s_wh1, PF.s_wh2, PF.s_wh3, PF.s_wh4, PF.s_nn, PF.s_nn1, PF.s_nnp, PF.s_nnn, PF.s_tol, PF.s_tol2, PF.s_tol3, PF.s_tup, PF.s_tup2, PF.s_len, PF.s_len2, PF.s_all, PF.at_pt, PF.at_pv, PF.g_s0, PF.g_s1, PF.g_sa, List.length_map, f3, b3]
    rfl
  · by_cases h2 : m = 6
    · subst h2
      simp -implicitDefEqProofs (maxSteps := 400000) (disch := (first | with_reducible assumption | (with_reducible apply PF.mulOk_of <;> (repeat' (first | with_reducible assumption | with_reducible (apply PyProof.Rows.bits_add) | with_reducible (apply PyProof.Rows.bits_sub) | with_reducible (apply PyProof.Rows.bits_mul) | with_reducible (apply PyProof.Rows.bits_neg) | with_reducible (apply PF.bits_div (by first | omega | decide +kernel)) | with_reducible (apply PF.bits_mod (by first | omega | decide +kernel)) | (with_reducible show _ + _ ≤ 134217728; decide +kernel) | exact Nat.le_refl _))) | ((with_reducible apply PF.lt_len); with_unfolding_all rfl) | omega | decide +kernel)) only [PF.opI_mul, PF.opI_mod, PF.opI_fdiv, PF.ixT0, PF.ixT1, PF.cmp_eq, PF.cmp_ne, PF.cmp_lt, PF.cmp_le, PF.cmp_gt, PF.cmp_ge, PF.cmp_t2, PF.cmp_n2, PF.cmp_tt2, PF.cmp_nt2, PF.isInsT, PF.q_lo, PF.q_s1, PF.q_s2, PF.q_non, PF.q_bl, PF.q_int, PF.q_str, PF.q_gl, PF.q_bin, PF.q_bin1, PF.q_bin2, PF.q_kI, PF.q_kB, PF.q_kIm, PF.q_kFz, PF.q_neg, PF.q_neg1, PF.q_not, PF.q_not1, PF.q_cmp, PF.q_cmp1, PF.q_cmp2, PF.q_isN, PF.q_isN1, PF.q_and, PF.q_and1, PF.q_and2, PF.q_or, PF.q_or1, PF.q_or2, PF.q_ite, PF.q_ite1, PF.q_ite2, PF.q_tup, PF.q_tup1, PF.q_tup2, PF.q_lst, PF.q_lst1, PF.q_lst2, PF.q_ix, PF.q_ix1, PF.q_ix2, PF.q_call, PF.q_call1, PF.q_meth, PF.q_meth1, PF.q_meth2, PF.q_meth3, PF.q_fld, PF.q_fld1, PF.q_blt, PF.q_blt1, PF.q_isi, PF.q_isi0, PF.q_vs0, PF.q_vs1, PF.q_vs2, PF.q_vs3, PF.q_vb0, PF.q_vb1, PF.q_vb2, PF.q_vb3, PF.q_itE, PF.q_itE1, PF.q_it1, PF.q_it2, PF.q_it3, PF.q_asg, PF.q_asg0, PF.q_nx, PF.q_par, PF.q_par1, PF.q_ret, PF.q_ret1, PF.q_retN, PF.q_iff, PF.q_iff1, PF.q_iff2, PF.q_for, PF.q_for1, PF.q_fg0, PF.q_fg1, PF.q_fb, PF.q_f1, PF.q_f2, PF.q_rse, PF.q_es0, PF.q_es1, PF.q_cn, PF.q_cr, PF.q_rk1, PF.q_rk2, PF.q_see1, PF.q_see2, PF.q_see3, PF.q_fz1, PF.q_fz2, PF.q_out1, PF.q_out2, PF.q_out3, PF.q_op, PF.q_add, PF.q_sub, PF.q_isi1, PF.q_isi2, PF.q_isi3, PF.q_isi4, PF.q_isi5, PF.q_asg1, PF.q_asg2, PF.q_put1, PF.q_put2, PF.q_bnm, PF.q_bt0, PF.q_bt1, PF.q_bt2, PF.q_tg1, PF.q_tg2, PF.q_its1, PF.q_its2, PF.q_len1, PF.q_len2, PF.q_bint, PF.q_fld0, PF.q_ctx, PF.q_cgl, PF.q_cwf, PF.q_size, List.map_cons, List.map_nil, Nat.reduceSub, Nat.sub_self, List.replicate, List.append_nil, List.cons_append, List.nil_append, List.length_cons, List.length_nil, List.getElem?_cons_zero, List.getElem?_cons_succ, List.set_cons_zero, List.set_cons_succ, Nat.reduceAdd, Nat.reduceLT, Nat.reduceLeDiff, Int.cast_ofNat_Int, Int.reduceEq, Int.reduceLT, Int.reduceLE, decide_true, decide_false, if_true, Bool.false_eq_true, if_false, Bool.not_true, Bool.not_false, Bool.and_true, Bool.true_and, Bool.or_true, Bool.or_false, Bool.and_self, ite_true, ite_false, PF.g_nu, PF.g_pt, PF.g_n0, PF.g_n1, PF.g_p0, PF.g_p1, PF.g_pi, PF.g_pa, PF.g_pb, PF.g_fi, PF.g_ff, PF.g_ce, PF.g_cn, PF.g_pe, PF.g_pn, PF.s_lc, PF.s_lc1, PF.s_lc2, PF.s_lc3, PF.s_fI, PF.s_fI1, PF.s_fI2, PF.s_fI3, PF.s_fI4, PF.s_ec0, PF.s_ec1, PF.s_ec2, PF.s_ec3, PF.s_lg0, PF.s_lg1, PF.s_lg2, PF.s_lg3, PF.s_lg4, PF.s_w0, PF.s_w1, PF.s_fre, PF.s_fre1, PF.s_fre2, PF.s_fre3, PF.s_app, PF.s_app1, PF.s_app2, PF.s_app3, PF.s_pop, PF.s_pop1, PF.s_pop2, PF.s_whl, PF.s_wh1, PF.s_wh2, PF.s_wh3, PF.s_wh4, PF.s_nn, PF.s_nn1, PF.s_nnp, PF.s_nnn, PF.s_tol, PF.s_tol2, PF.s_tol3, PF.s_tup, PF.s_tup2, PF.s_len, PF.s_len2, PF.s_all, PF.at_pt, PF.at_pv, PF.g_s0, PF.g_s1, PF.g_sa, List.length_map, f3, b3, h]
      rfl
    · simp -implicitDefEqProofs (maxSteps := 400000) (disch := (first | with_reducible assumption | (with_reducible apply PF.mulOk_of <;> (repeat' (first | with_reducible assumption | with_reducible (apply PyProof.Rows.bits_add) | with_reducible (apply PyProof.Rows.bits_sub) | with_reducible (apply PyProof.Rows.bits_mul) | with_reducible (apply PyProof.Rows.bits_neg) | with_reducible (apply PF.bits_div (by first | omega | decide +kernel)) | with_reducible (apply PF.bits_mod (by first | omega | decide +kernel)) | (with_reducible show _ + _ ≤ 134217728; decide +kernel) | exact Nat.le_refl _))) | ((with_reducible apply PF.lt_len); with_unfolding_all rfl) | omega | decide +kernel)) only [PF.opI_mul, PF.opI_mod, PF.opI_fdiv, PF.ixT0, PF.ixT1, PF.cmp_eq, PF.cmp_ne, PF.cmp_lt, PF.cmp_le, PF.cmp_gt, PF.cmp_ge, PF.cmp_t2, PF.cmp_n2, PF.cmp_tt2, PF.cmp_nt2, PF.isInsT, PF.q_lo, PF.q_s1, PF.q_s2, PF.q_non, PF.q_bl, PF.q_int, PF.q_str, PF.q_gl, PF.q_bin, PF.q_bin1, PF.q_bin2, PF.q_kI, PF.q_kB, PF.q_kIm, PF.q_kFz, PF.q_neg, PF.q_neg1, PF.q_not, PF.q_not1, PF.q_cmp, PF.q_cmp1, PF.q_cmp2, PF.q_isN, PF.q_isN1, PF.q_and, PF.q_and1, PF.q_and2, PF.q_or, PF.q_or1, PF.q_or2, PF.q_ite, PF.q_ite1, PF.q_ite2, PF.q_tup, PF.q_tup1, PF.q_tup2, PF.q_lst, PF.q_lst1, PF.q_lst2, PF.q_ix, PF.q_ix1, PF.q_ix2, PF.q_call, PF.q_call1, PF.q_meth, PF.q_meth1, PF.q_meth2, PF.q_meth3, PF.q_fld, PF.q_fld1, PF.q_blt, PF.q_blt1, PF.q_isi, PF.q_isi0, PF.q_vs0, PF.q_vs1, PF.q_vs2, PF.q_vs3, PF.q_vb0, PF.q_vb1, PF.q_vb2, PF.q_vb3, PF.q_itE, PF.q_itE1, PF.q_it1, PF.q_it2, PF.q_it3, PF.q_asg, PF.q_asg0, PF.q_nx, PF.q_par, PF.q_par1, PF.q_ret, PF.q_ret1, PF.q_retN, PF.q_iff, PF.q_iff1, PF.q_iff2, PF.q_for, PF.q_for1, PF.q_fg0, PF.q_fg1, PF.q_fb, PF.q_f1, PF.q_f2, PF.q_rse, PF.q_es0, PF.q_es1, PF.q_cn, PF.q_cr, PF.q_rk1, PF.q_rk2, PF.q_see1, PF.q_see2, PF.q_see3, PF.q_fz1, PF.q_fz2, PF.q_out1, PF.q_out2, PF.q_out3, PF.q_op, PF.q_add, PF.q_sub, PF.q_isi1, PF.q_isi2, PF.q_isi3, PF.q_isi4, PF.q_isi5, PF.q_asg1, PF.q_asg2, PF.q_put1, PF.q_put2, PF.q_bnm, PF.q_bt0, PF.q_bt1, PF.q_bt2, PF.q_tg1, PF.q_tg2, PF.q_its1, PF.q_its2, PF.q_len1, PF.q_len2, PF.q_bint, PF.q_fld0, PF.q_ctx, PF.q_cgl, PF.q_cwf, PF.q_size, List.map_cons, List.map_nil, Nat.reduceSub, Nat.sub_self, List.replicate, List.append_nil, List.cons_append, List.nil_append, List.length_cons, List.length_nil, List.getElem?_cons_zero, List.getElem?_cons_succ, List.set_cons_zero, List.set_cons_succ, Nat.reduceAdd, Nat.reduceLT, Nat.reduceLeDiff, Int.cast_ofNat_Int, Int.reduceEq, Int.reduceLT, Int.reduceLE, decide_true, decide_false, if_true, Bool.false_eq_true, if_false, Bool.not_true, Bool.not_false, Bool.and_true, Bool.true_and, Bool.or_true, Bool.or_false, Bool.and_self, ite_true, ite_false, PF.g_nu, PF.g_pt, PF.g_n0, PF.g_n1, PF.g_p0, PF.g_p1, PF.g_pi, PF.g_pa, PF.g_pb, PF.g_fi, PF.g_ff, PF.g_ce, PF.g_cn, PF.g_pe, PF.g_pn, PF.s_lc, PF.s_lc1, PF.s_lc2, PF.s_lc3, PF.s_fI, PF.s_fI1, PF.s_fI2, PF.s_fI3, PF.s_fI4, PF.s_ec0, PF.s_ec1, PF.s_ec2, PF.s_ec3, PF.s_lg0, PF.s_lg1, PF.s_lg2, PF.s_lg3, PF.s_lg4, PF.s_w0, PF.s_w1, PF.s_fre, PF.s_fre1, PF.s_fre2, PF.s_fre3, PF.s_app, PF.s_app1, PF.s_app2, PF.s_app3, PF.s_pop, PF.s_pop1, PF.s_pop2, PF.s_whl, PF.s_wh1, PF.s_wh2, PF.s_wh3, PF.s_wh4, PF.s_nn, PF.s_nn1, PF.s_nnp, PF.s_nnn, PF.s_tol, PF.s_tol2, PF.s_tol3, PF.s_tup, PF.s_tup2, PF.s_len, PF.s_len2, PF.s_all, PF.at_pt, PF.at_pv, PF.g_s0, PF.g_s1, PF.g_sa, List.length_map, f3, b3, h, h2]
      rw [d0, d1, if_neg h2, if_neg (by omega)]
theorem n2 {a b c d : Int} (h : a = c) (h2 : b = d) : (Oc.ok (Rs.im (nu a b)) : Oc Rs) = Oc.ok (Rs.im (nu c d)) := by rw [h, h2]
theorem times {k : Nat} {m a b c d : Int} (hm : Sz m) (h1 : m < 8 → b = 0) (h2 : m < 8 → d = 0) (wa : intBits a ≤ 30000) (wb : intBits b ≤ 30000) (wc : intBits c ≤ 30000) (wd : intBits d ≤ 30000) :
    callK Q (k + 2) 4 [fr m, nu a b, nu c d] = .ok (.im (nu (mP m a b c d) (mR m a b c d))) := by
  have sq : ixE (Q.gl 1) (.int m) = .ok (nu (wA m) (wB m)) := by
    rcases hm with rfl | rfl | rfl | rfl | rfl <;> rfl
  have q1 := bits_wA m
  have q2 := bits_wB m
  rw [call_f (f := f4) rfl (k + 1) _ rfl]
  simp -implicitDefEqProofs (maxSteps := 400000) (disch := (first | with_reducible assumption | (with_reducible apply PF.mulOk_of <;> (repeat' (first | with_reducible assumption | with_reducible (apply PyProof.Rows.bits_add) | with_reducible (apply PyProof.Rows.bits_sub) | with_reducible (apply PyProof.Rows.bits_mul) | with_reducible (apply PyProof.Rows.bits_neg) | with_reducible (apply PF.bits_div (by first | omega | decide +kernel)) | with_reducible (apply PF.bits_mod (by first | omega | decide +kernel)) | (with_reducible show _ + _ ≤ 134217728; decide +kernel) | exact Nat.le_refl _))) | ((with_reducible apply PF.lt_len); with_unfolding_all rfl) | omega | decide +kernel)) only [PF.opI_mul, PF.opI_mod, PF.opI_fdiv, PF.ixT0, PF.ixT1, PF.cmp_eq, PF.cmp_ne, PF.cmp_lt, PF.cmp_le, PF.cmp_gt, PF.cmp_ge, PF.cmp_t2, PF.cmp_n2, PF.cmp_tt2, PF.cmp_nt2, PF.isInsT, PF.q_lo, PF.q_s1, PF.q_s2, PF.q_non, PF.q_bl, PF.q_int, PF.q_str, PF.q_gl, PF.q_bin, PF.q_bin1, PF.q_bin2, PF.q_kI, PF.q_kB, PF.q_kIm, PF.q_kFz, PF.q_neg, PF.q_neg1, PF.q_not, PF.q_not1, PF.q_cmp, PF.q_cmp1, PF.q_cmp2, PF.q_isN, PF.q_isN1, PF.q_and, PF.q_and1, PF.q_and2, PF.q_or, PF.q_or1, PF.q_or2, PF.q_ite, PF.q_ite1, PF.q_ite2, PF.q_tup, PF.q_tup1, PF.q_tup2, PF.q_lst, PF.q_lst1, PF.q_lst2, PF.q_ix, PF.q_ix1, PF.q_ix2, PF.q_call, PF.q_call1, PF.q_meth, PF.q_meth1, PF.q_meth2, PF.q_meth3, PF.q_fld, PF.q_fld1, PF.q_blt, PF.q_blt1, PF.q_isi, PF.q_isi0, PF.q_vs0, PF.q_vs1, PF.q_vs2, PF.q_vs3, PF.q_vb0, PF.q_vb1, PF.q_vb2, PF.q_vb3, PF.q_itE, PF.q_itE1, PF.q_it1, PF.q_it2, PF.q_it3, PF.q_asg, PF.q_asg0, PF.q_nx, PF.q_par, PF.q_par1, PF.q_ret, PF.q_ret1, PF.q_retN, PF.q_iff, PF.q_iff1, PF.q_iff2, PF.q_for, PF.q_for1, PF.q_fg0, PF.q_fg1, PF.q_fb, PF.q_f1, PF.q_f2, PF.q_rse, PF.q_es0, PF.q_es1, PF.q_cn, PF.q_cr, PF.q_rk1, PF.q_rk2, PF.q_see1, PF.q_see2, PF.q_see3, PF.q_fz1, PF.q_fz2, PF.q_out1, PF.q_out2, PF.q_out3, PF.q_op, PF.q_add, PF.q_sub, PF.q_isi1, PF.q_isi2, PF.q_isi3, PF.q_isi4, PF.q_isi5, PF.q_asg1, PF.q_asg2, PF.q_put1, PF.q_put2, PF.q_bnm, PF.q_bt0, PF.q_bt1, PF.q_bt2, PF.q_tg1, PF.q_tg2, PF.q_its1, PF.q_its2, PF.q_len1, PF.q_len2, PF.q_bint, PF.q_fld0, PF.q_ctx, PF.q_cgl, PF.q_cwf, PF.q_size, List.map_cons, List.map_nil, Nat.reduceSub, Nat.sub_self, List.replicate, List.append_nil, List.cons_append, List.nil_append, List.length_cons, List.length_nil, List.getElem?_cons_zero, List.getElem?_cons_succ, List.set_cons_zero, List.set_cons_succ, Nat.reduceAdd, Nat.reduceLT, Nat.reduceLeDiff, Int.cast_ofNat_Int, Int.reduceEq, Int.reduceLT, Int.reduceLE, decide_true, decide_false, if_true, Bool.false_eq_true, if_false, Bool.not_true, Bool.not_false, Bool.and_true, Bool.true_and, Bool.or_true, Bool.or_false, Bool.and_self, ite_true, ite_false, PF.g_nu, PF.g_pt, PF.g_n0, PF.g_n1, PF.g_p0, PF.g_p1, PF.g_pi, PF.g_pa, PF.g_pb, PF.g_fi, PF.g_ff, PF.g_ce, PF.g_cn, PF.g_pe, PF.g_pn, PF.s_lc, PF.s_lc1, PF.s_lc2, PF.s_lc3, PF.s_fI, PF.s_fI1, PF.s_fI2, PF.s_fI3, PF.s_fI4, PF.s_ec0, PF.s_ec1, PF.s_ec2, PF.s_ec3, PF.s_lg0, PF.s_lg1, PF.s_lg2, PF.s_lg3, PF.s_lg4, PF.s_w0, PF.s_w1, PF.s_fre, PF.s_fre1, PF.s_fre2, PF.s_fre3, PF.s_app, PF.s_app1, PF.s_app2, PF.s_app3, PF.s_pop, PF.s_pop1, PF.s_pop2, PF.s_whl, PF.s_wh1, PF.s_wh2, PF.s_wh3, PF.s_wh4, PF.s_nn, PF.s_nn1, PF.s_nnp, PF.s_nnn, PF.s_tol, PF.s_tol2, PF.s_tol3, PF.s_tup, PF.s_tup2, PF.s_len, PF.s_len2, PF.s_all, PF.at_pt, PF.at_pv, PF.g_s0, PF.g_s1, PF.g_sa, List.length_map, f4, b4, sq, number]
  exact n2 (num_times hm h1 h2).1 (num_times hm h1 h2).2
theorem cross {k : Nat} {m : Int} (hm : Sz m) {p q : Pt} {B : Nat} (hp : OkP m p) (w : BtP B p) (hq : OkP m q) (w' : BtP B q) (hB : B ≤ 20000) : callK Q (k + 3) 7 [fr m, pt p, pt q] = .ok (.im (nu (cX m p q) (cY m p q))) := by
  have t1 := times (k := k) hm (fun h => (hp h).1) (fun h => (hq h).2) (bits_of_le w.1 (by omega)) (bits_of_le w.2.1 (by omega)) (bits_of_le w'.2.2.1 (by omega)) (bits_of_le w'.2.2.2 (by omega))
  have t2 := times (k := k) hm (fun h => (hp h).2) (fun h => (hq h).1) (bits_of_le w.2.2.1 (by omega)) (bits_of_le w.2.2.2 (by omega)) (bits_of_le w'.1 (by omega)) (bits_of_le w'.2.1 (by omega))
  rw [call_f (f := f7) rfl (k + 2) _ rfl]
  simp -implicitDefEqProofs (maxSteps := 400000) (disch := (first | with_reducible assumption | (with_reducible apply PF.mulOk_of <;> (repeat' (first | with_reducible assumption | with_reducible (apply PyProof.Rows.bits_add) | with_reducible (apply PyProof.Rows.bits_sub) | with_reducible (apply PyProof.Rows.bits_mul) | with_reducible (apply PyProof.Rows.bits_neg) | with_reducible (apply PF.bits_div (by first | omega | decide +kernel)) | with_reducible (apply PF.bits_mod (by first | omega | decide +kernel)) | (with_reducible show _ + _ ≤ 134217728; decide +kernel) | exact Nat.le_refl _))) | ((with_reducible apply PF.lt_len); with_unfolding_all rfl) | omega | decide +kernel)) only [PF.opI_mul, PF.opI_mod, PF.opI_fdiv, PF.ixT0, PF.ixT1, PF.cmp_eq, PF.cmp_ne, PF.cmp_lt, PF.cmp_le, PF.cmp_gt, PF.cmp_ge, PF.cmp_t2, PF.cmp_n2, PF.cmp_tt2, PF.cmp_nt2, PF.isInsT, PF.q_lo, PF.q_s1, PF.q_s2, PF.q_non, PF.q_bl, PF.q_int, PF.q_str, PF.q_gl, PF.q_bin, PF.q_bin1, PF.q_bin2, PF.q_kI, PF.q_kB, PF.q_kIm, PF.q_kFz, PF.q_neg, PF.q_neg1, PF.q_not, PF.q_not1, PF.q_cmp, PF.q_cmp1, PF.q_cmp2, PF.q_isN, PF.q_isN1, PF.q_and, PF.q_and1, PF.q_and2, PF.q_or, PF.q_or1, PF.q_or2, PF.q_ite, PF.q_ite1, PF.q_ite2, PF.q_tup, PF.q_tup1, PF.q_tup2, PF.q_lst, PF.q_lst1, PF.q_lst2, PF.q_ix, PF.q_ix1, PF.q_ix2, PF.q_call, PF.q_call1, PF.q_meth, PF.q_meth1, PF.q_meth2, PF.q_meth3, PF.q_fld, PF.q_fld1, PF.q_blt, PF.q_blt1, PF.q_isi, PF.q_isi0, PF.q_vs0, PF.q_vs1, PF.q_vs2, PF.q_vs3, PF.q_vb0, PF.q_vb1, PF.q_vb2, PF.q_vb3, PF.q_itE, PF.q_itE1, PF.q_it1, PF.q_it2, PF.q_it3, PF.q_asg, PF.q_asg0, PF.q_nx, PF.q_par, PF.q_par1, PF.q_ret, PF.q_ret1, PF.q_retN, PF.q_iff, PF.q_iff1, PF.q_iff2, PF.q_for, PF.q_for1, PF.q_fg0, PF.q_fg1, PF.q_fb, PF.q_f1, PF.q_f2, PF.q_rse, PF.q_es0, PF.q_es1, PF.q_cn, PF.q_cr, PF.q_rk1, PF.q_rk2, PF.q_see1, PF.q_see2, PF.q_see3, PF.q_fz1, PF.q_fz2, PF.q_out1, PF.q_out2, PF.q_out3, PF.q_op, PF.q_add, PF.q_sub, PF.q_isi1, PF.q_isi2, PF.q_isi3, PF.q_isi4, PF.q_isi5, PF.q_asg1, PF.q_asg2, PF.q_put1, PF.q_put2, PF.q_bnm, PF.q_bt0, PF.q_bt1, PF.q_bt2, PF.q_tg1, PF.q_tg2, PF.q_its1, PF.q_its2, PF.q_len1, PF.q_len2, PF.q_bint, PF.q_fld0, PF.q_ctx, PF.q_cgl, PF.q_cwf, PF.q_size, List.map_cons, List.map_nil, Nat.reduceSub, Nat.sub_self, List.replicate, List.append_nil, List.cons_append, List.nil_append, List.length_cons, List.length_nil, List.getElem?_cons_zero, List.getElem?_cons_succ, List.set_cons_zero, List.set_cons_succ, Nat.reduceAdd, Nat.reduceLT, Nat.reduceLeDiff, Int.cast_ofNat_Int, Int.reduceEq, Int.reduceLT, Int.reduceLE, decide_true, decide_false, if_true, Bool.false_eq_true, if_false, Bool.not_true, Bool.not_false, Bool.and_true, Bool.true_and, Bool.or_true, Bool.or_false, Bool.and_self, ite_true, ite_false, PF.g_nu, PF.g_pt, PF.g_n0, PF.g_n1, PF.g_p0, PF.g_p1, PF.g_pi, PF.g_pa, PF.g_pb, PF.g_fi, PF.g_ff, PF.g_ce, PF.g_cn, PF.g_pe, PF.g_pn, PF.s_lc, PF.s_lc1, PF.s_lc2, PF.s_lc3, PF.s_fI, PF.s_fI1, PF.s_fI2, PF.s_fI3, PF.s_fI4, PF.s_ec0, PF.s_ec1, PF.s_ec2, PF.s_ec3, PF.s_lg0, PF.s_lg1, PF.s_lg2, PF.s_lg3, PF.s_lg4, PF.s_w0, PF.s_w1, PF.s_fre, PF.s_fre1, PF.s_fre2, PF.s_fre3, PF.s_app, PF.s_app1, PF.s_app2, PF.s_app3, PF.s_pop, PF.s_pop1, PF.s_pop2, PF.s_whl, PF.s_wh1, PF.s_wh2, PF.s_wh3, PF.s_wh4, PF.s_nn, PF.s_nn1, PF.s_nnp, PF.s_nnn, PF.s_tol, PF.s_tol2, PF.s_tol3, PF.s_tup, PF.s_tup2, PF.s_len, PF.s_len2, PF.s_all, PF.at_pt, PF.at_pv, PF.g_s0, PF.g_s1, PF.g_sa, List.length_map, f7, b7, t1, t2, minus]
  rfl
theorem plain_sign {k : Nat} {x : Int} : callK Q (k + 1) 1 [.int x] = .ok (.im (.int (sgn x))) := by
  rw [call_f (f := f1) rfl k _ rfl]
  simp -implicitDefEqProofs (maxSteps := 400000) (disch := (first | with_reducible assumption | (with_reducible apply PF.mulOk_of <;> (repeat' (first | with_reducible assumption | with_reducible (apply PyProof.Rows.bits_add) | with_reducible (apply PyProof.Rows.bits_sub) | with_reducible (apply PyProof.Rows.bits_mul) | with_reducible (apply PyProof.Rows.bits_neg) | with_reducible (apply PF.bits_div (by first | omega | decide +kernel)) | with_reducible (apply PF.bits_mod (by first | omega | decide +kernel)) | (with_reducible show _ + _ ≤ 134217728; decide +kernel) | exact Nat.le_refl _))) | ((with_reducible apply PF.lt_len); with_unfolding_all rfl) | omega | decide +kernel)) only [PF.opI_mul, PF.opI_mod, PF.opI_fdiv, PF.ixT0, PF.ixT1, PF.cmp_eq, PF.cmp_ne, PF.cmp_lt, PF.cmp_le, PF.cmp_gt, PF.cmp_ge, PF.cmp_t2, PF.cmp_n2, PF.cmp_tt2, PF.cmp_nt2, PF.isInsT, PF.q_lo, PF.q_s1, PF.q_s2, PF.q_non, PF.q_bl, PF.q_int, PF.q_str, PF.q_gl, PF.q_bin, PF.q_bin1, PF.q_bin2, PF.q_kI, PF.q_kB, PF.q_kIm, PF.q_kFz, PF.q_neg, PF.q_neg1, PF.q_not, PF.q_not1, PF.q_cmp, PF.q_cmp1, PF.q_cmp2, PF.q_isN, PF.q_isN1, PF.q_and, PF.q_and1, PF.q_and2, PF.q_or, PF.q_or1, PF.q_or2, PF.q_ite, PF.q_ite1, PF.q_ite2, PF.q_tup, PF.q_tup1, PF.q_tup2, PF.q_lst, PF.q_lst1, PF.q_lst2, PF.q_ix, PF.q_ix1, PF.q_ix2, PF.q_call, PF.q_call1, PF.q_meth, PF.q_meth1, PF.q_meth2, PF.q_meth3, PF.q_fld, PF.q_fld1, PF.q_blt, PF.q_blt1, PF.q_isi, PF.q_isi0, PF.q_vs0, PF.q_vs1, PF.q_vs2, PF.q_vs3, PF.q_vb0, PF.q_vb1, PF.q_vb2, PF.q_vb3, PF.q_itE, PF.q_itE1, PF.q_it1, PF.q_it2, PF.q_it3, PF.q_asg, PF.q_asg0, PF.q_nx, PF.q_par, PF.q_par1, PF.q_ret, PF.q_ret1, PF.q_retN, PF.q_iff, PF.q_iff1, PF.q_iff2, PF.q_for, PF.q_for1, PF.q_fg0, PF.q_fg1, PF.q_fb, PF.q_f1, PF.q_f2, PF.q_rse, PF.q_es0, PF.q_es1, PF.q_cn, PF.q_cr, PF.q_rk1, PF.q_rk2, PF.q_see1, PF.q_see2, PF.q_see3, PF.q_fz1, PF.q_fz2, PF.q_out1, PF.q_out2, PF.q_out3, PF.q_op, PF.q_add, PF.q_sub, PF.q_isi1, PF.q_isi2, PF.q_isi3, PF.q_isi4, PF.q_isi5, PF.q_asg1, PF.q_asg2, PF.q_put1, PF.q_put2, PF.q_bnm, PF.q_bt0, PF.q_bt1, PF.q_bt2, PF.q_tg1, PF.q_tg2, PF.q_its1, PF.q_its2, PF.q_len1, PF.q_len2, PF.q_bint, PF.q_fld0, PF.q_ctx, PF.q_cgl, PF.q_cwf, PF.q_size, List.map_cons, List.map_nil, Nat.reduceSub, Nat.sub_self, List.replicate, List.append_nil, List.cons_append, List.nil_append, List.length_cons, List.length_nil, List.getElem?_cons_zero, List.getElem?_cons_succ, List.set_cons_zero, List.set_cons_succ, Nat.reduceAdd, Nat.reduceLT, Nat.reduceLeDiff, Int.cast_ofNat_Int, Int.reduceEq, Int.reduceLT, Int.reduceLE, decide_true, decide_false, if_true, Bool.false_eq_true, if_false, Bool.not_true, Bool.not_false, Bool.and_true, Bool.true_and, Bool.or_true, Bool.or_false, Bool.and_self, ite_true, ite_false, PF.g_nu, PF.g_pt, PF.g_n0, PF.g_n1, PF.g_p0, PF.g_p1, PF.g_pi, PF.g_pa, PF.g_pb, PF.g_fi, PF.g_ff, PF.g_ce, PF.g_cn, PF.g_pe, PF.g_pn, PF.s_lc, PF.s_lc1, PF.s_lc2, PF.s_lc3, PF.s_fI, PF.s_fI1, PF.s_fI2, PF.s_fI3, PF.s_fI4, PF.s_ec0, PF.s_ec1, PF.s_ec2, PF.s_ec3, PF.s_lg0, PF.s_lg1, PF.s_lg2, PF.s_lg3, PF.s_lg4, PF.s_w0, PF.s_w1, PF.s_fre, PF.s_fre1, PF.s_fre2, PF.s_fre3, PF.s_app, PF.s_app1, PF.s_app2, PF.s_app3, PF.s_pop, PF.s_pop1, PF.s_pop2, PF.s_whl, PF.s_wh1, PF.s_wh2, PF.s_wh3, PF.s_wh4, PF.s_nn, PF.s_nn1, PF.s_nnp, PF.s_nnn, PF.s_tol, PF.s_tol2, PF.s_tol3, PF.s_tup, PF.s_tup2, PF.s_len, PF.s_len2, PF.s_all, PF.at_pt, PF.at_pv, PF.g_s0, PF.g_s1, PF.g_sa, List.length_map, f1, b1]
  rfl
theorem root_sign {k : Nat} {o p u : Int} (wo : intBits o ≤ 30000) (wp : intBits p ≤ 30000) (wu : intBits u ≤ 30000) : callK Q (k + 2) 2 [.int o, .int p, .int u] = .ok (.im (.int (rsg o p u))) := by
  have q1 := bits_sgn o
  have q2 := bits_sgn p
  rw [call_f (f := f2) rfl (k + 1) _ rfl]
  unfold rsg
  by_cases h : 0 ≤ sgn o * sgn p
  · rw [if_pos h]
    simp -implicitDefEqProofs (maxSteps := 400000) (disch := (first | with_reducible assumption | (with_reducible apply PF.mulOk_of <;> (repeat' (first | with_reducible assumption | with_reducible (apply PyProof.Rows.bits_add) | with_reducible (apply PyProof.Rows.bits_sub) | with_reducible (apply PyProof.Rows.bits_mul) | with_reducible (apply PyProof.Rows.bits_neg) | with_reducible (apply PF.bits_div (by first | omega | decide +kernel)) | with_reducible (apply PF.bits_mod (by first | omega | decide +kernel)) | (with_reducible show _ + _ ≤ 134217728; decide +kernel) | exact Nat.le_refl _))) | ((with_reducible apply PF.lt_len); with_unfolding_all rfl) | omega | decide +kernel)) only [PF.opI_mul, PF.opI_mod, PF.opI_fdiv, PF.ixT0, PF.ixT1, PF.cmp_eq, PF.cmp_ne, PF.cmp_lt, PF.cmp_le, PF.cmp_gt, PF.cmp_ge, PF.cmp_t2, PF.cmp_n2, PF.cmp_tt2, PF.cmp_nt2, PF.isInsT, PF.q_lo, PF.q_s1, PF.q_s2, PF.q_non, PF.q_bl, PF.q_int, PF.q_str, PF.q_gl, PF.q_bin, PF.q_bin1, PF.q_bin2, PF.q_kI, PF.q_kB, PF.q_kIm, PF.q_kFz, PF.q_neg, PF.q_neg1, PF.q_not, PF.q_not1, PF.q_cmp, PF.q_cmp1, PF.q_cmp2, PF.q_isN, PF.q_isN1, PF.q_and, PF.q_and1, PF.q_and2, PF.q_or, PF.q_or1, PF.q_or2, PF.q_ite, PF.q_ite1, PF.q_ite2, PF.q_tup, PF.q_tup1, PF.q_tup2, PF.q_lst, PF.q_lst1, PF.q_lst2, PF.q_ix, PF.q_ix1, PF.q_ix2, PF.q_call, PF.q_call1, PF.q_meth, PF.q_meth1, PF.q_meth2, PF.q_meth3, PF.q_fld, PF.q_fld1, PF.q_blt, PF.q_blt1, PF.q_isi, PF.q_isi0, PF.q_vs0, PF.q_vs1, PF.q_vs2, PF.q_vs3, PF.q_vb0, PF.q_vb1, PF.q_vb2, PF.q_vb3, PF.q_itE, PF.q_itE1, PF.q_it1, PF.q_it2, PF.q_it3, PF.q_asg, PF.q_asg0, PF.q_nx, PF.q_par, PF.q_par1, PF.q_ret, PF.q_ret1, PF.q_retN, PF.q_iff, PF.q_iff1, PF.q_iff2, PF.q_for, PF.q_for1, PF.q_fg0, PF.q_fg1, PF.q_fb, PF.q_f1, PF.q_f2, PF.q_rse, PF.q_es0, PF.q_es1, PF.q_cn, PF.q_cr, PF.q_rk1, PF.q_rk2, PF.q_see1, PF.q_see2, PF.q_see3, PF.q_fz1, PF.q_fz2, PF.q_out1, PF.q_out2, PF.q_out3, PF.q_op, PF.q_add, PF.q_sub, PF.q_isi1, PF.q_isi2, PF.q_isi3, PF.q_isi4, PF.q_isi5, PF.q_asg1, PF.q_asg2, PF.q_put1, PF.q_put2, PF.q_bnm, PF.q_bt0, PF.q_bt1, PF.q_bt2, PF.q_tg1, PF.q_tg2, PF.q_its1, PF.q_its2, PF.q_len1, PF.q_len2, PF.q_bint, PF.q_fld0, PF.q_ctx, PF.q_cgl, PF.q_cwf, PF.q_size, List.map_cons, List.map_nil, Nat.reduceSub, Nat.sub_self, List.replicate, List.append_nil, List.cons_append, List.nil_append, List.length_cons, List.length_nil, List.getElem?_cons_zero, List.getElem?_cons_succ, List.set_cons_zero, List.set_cons_succ, Nat.reduceAdd, Nat.reduceLT, Nat.reduceLeDiff, Int.cast_ofNat_Int, Int.reduceEq, Int.reduceLT, Int.reduceLE, decide_true, decide_false, if_true, Bool.false_eq_true, if_false, Bool.not_true, Bool.not_false, Bool.and_true, Bool.true_and, Bool.or_true, Bool.or_false, Bool.and_self, ite_true, ite_false, PF.g_nu, PF.g_pt, PF.g_n0, PF.g_n1, PF.g_p0, PF.g_p1, PF.g_pi, PF.g_pa, PF.g_pb, PF.g_fi, PF.g_ff, PF.g_ce, PF.g_cn, PF.g_pe, PF.g_pn, PF.s_lc, PF.s_lc1, PF.s_lc2, PF.s_lc3, PF.s_fI, PF.s_fI1, PF.s_fI2, PF.s_fI3, PF.s_fI4, PF.s_ec0, PF.s_ec1, PF.s_ec2, PF.s_ec3, PF.s_lg0, PF.s_lg1, PF.s_lg2, PF.s_lg3, PF.s_lg4, PF.s_w0, PF.s_w1, PF.s_fre, PF.s_fre1, PF.s_fre2, PF.s_fre3, PF.s_app, PF.s_app1, PF.s_app2, PF.s_app3, PF.s_pop, PF.s_pop1, PF.s_pop2, PF.s_whl, PF.s_wh1, PF.s_wh2, PF.s_wh3, PF.s_wh4, PF.s_nn, PF.s_nn1, PF.s_nnp, PF.s_nnn, PF.s_tol, PF.s_tol2, PF.s_tol3, PF.s_tup, PF.s_tup2, PF.s_len, PF.s_len2, PF.s_all, PF.at_pt, PF.at_pv, PF.g_s0, PF.g_s1, PF.g_sa, List.length_map, f2, b2, plain_sign, h]
  · rw [if_neg h]
    by_cases h2 : p * p * u < o * o
    · rw [if_pos h2]
      simp -implicitDefEqProofs (maxSteps := 400000) (disch := (first | with_reducible assumption | (with_reducible apply PF.mulOk_of <;> (repeat' (first | with_reducible assumption | with_reducible (apply PyProof.Rows.bits_add) | with_reducible (apply PyProof.Rows.bits_sub) | with_reducible (apply PyProof.Rows.bits_mul) | with_reducible (apply PyProof.Rows.bits_neg) | with_reducible (apply PF.bits_div (by first | omega | decide +kernel)) | with_reducible (apply PF.bits_mod (by first | omega | decide +kernel)) | (with_reducible show _ + _ ≤ 134217728; decide +kernel) | exact Nat.le_refl _))) | ((with_reducible apply PF.lt_len); with_unfolding_all rfl) | omega | decide +kernel)) only [PF.opI_mul, PF.opI_mod, PF.opI_fdiv, PF.ixT0, PF.ixT1, PF.cmp_eq, PF.cmp_ne, PF.cmp_lt, PF.cmp_le, PF.cmp_gt, PF.cmp_ge, PF.cmp_t2, PF.cmp_n2, PF.cmp_tt2, PF.cmp_nt2, PF.isInsT, PF.q_lo, PF.q_s1, PF.q_s2, PF.q_non, PF.q_bl, PF.q_int, PF.q_str, PF.q_gl, PF.q_bin, PF.q_bin1, PF.q_bin2, PF.q_kI, PF.q_kB, PF.q_kIm, PF.q_kFz, PF.q_neg, PF.q_neg1, PF.q_not, PF.q_not1, PF.q_cmp, PF.q_cmp1, PF.q_cmp2, PF.q_isN, PF.q_isN1, PF.q_and, PF.q_and1, PF.q_and2, PF.q_or, PF.q_or1, PF.q_or2, PF.q_ite, PF.q_ite1, PF.q_ite2, PF.q_tup, PF.q_tup1, PF.q_tup2, PF.q_lst, PF.q_lst1, PF.q_lst2, PF.q_ix, PF.q_ix1, PF.q_ix2, PF.q_call, PF.q_call1, PF.q_meth, PF.q_meth1, PF.q_meth2, PF.q_meth3, PF.q_fld, PF.q_fld1, PF.q_blt, PF.q_blt1, PF.q_isi, PF.q_isi0, PF.q_vs0, PF.q_vs1, PF.q_vs2, PF.q_vs3, PF.q_vb0, PF.q_vb1, PF.q_vb2, PF.q_vb3, PF.q_itE, PF.q_itE1, PF.q_it1, PF.q_it2, PF.q_it3, PF.q_asg, PF.q_asg0, PF.q_nx, PF.q_par, PF.q_par1, PF.q_ret, PF.q_ret1, PF.q_retN, PF.q_iff, PF.q_iff1, PF.q_iff2, PF.q_for, PF.q_for1, PF.q_fg0, PF.q_fg1, PF.q_fb, PF.q_f1, PF.q_f2, PF.q_rse, PF.q_es0, PF.q_es1, PF.q_cn, PF.q_cr, PF.q_rk1, PF.q_rk2, PF.q_see1, PF.q_see2, PF.q_see3, PF.q_fz1, PF.q_fz2, PF.q_out1, PF.q_out2, PF.q_out3, PF.q_op, PF.q_add, PF.q_sub, PF.q_isi1, PF.q_isi2, PF.q_isi3, PF.q_isi4, PF.q_isi5, PF.q_asg1, PF.q_asg2, PF.q_put1, PF.q_put2, PF.q_bnm, PF.q_bt0, PF.q_bt1, PF.q_bt2, PF.q_tg1, PF.q_tg2, PF.q_its1, PF.q_its2, PF.q_len1, PF.q_len2, PF.q_bint, PF.q_fld0, PF.q_ctx, PF.q_cgl, PF.q_cwf, PF.q_size, List.map_cons, List.map_nil, Nat.reduceSub, Nat.sub_self, List.replicate, List.append_nil, List.cons_append, List.nil_append, List.length_cons, List.length_nil, List.getElem?_cons_zero, List.getElem?_cons_succ, List.set_cons_zero, List.set_cons_succ, Nat.reduceAdd, Nat.reduceLT, Nat.reduceLeDiff, Int.cast_ofNat_Int, Int.reduceEq, Int.reduceLT, Int.reduceLE, decide_true, decide_false, if_true, Bool.false_eq_true, if_false, Bool.not_true, Bool.not_false, Bool.and_true, Bool.true_and, Bool.or_true, Bool.or_false, Bool.and_self, ite_true, ite_false, PF.g_nu, PF.g_pt, PF.g_n0, PF.g_n1, PF.g_p0, PF.g_p1, PF.g_pi, PF.g_pa, PF.g_pb, PF.g_fi, PF.g_ff, PF.g_ce, PF.g_cn, PF.g_pe, PF.g_pn, PF.s_lc, PF.s_lc1, PF.s_lc2, PF.s_lc3, PF.s_fI, PF.s_fI1, PF.s_fI2, PF.s_fI3, PF.s_fI4, PF.s_ec0, PF.s_ec1, PF.s_ec2, PF.s_ec3, PF.s_lg0, PF.s_lg1, PF.s_lg2, PF.s_lg3, PF.s_lg4, PF.s_w0, PF.s_w1, PF.s_fre, PF.s_fre1, PF.s_fre2, PF.s_fre3, PF.s_app, PF.s_app1, PF.s_app2, PF.s_app3, PF.s_pop, PF.s_pop1, PF.s_pop2, PF.s_whl, PF.s_wh1, PF.s_wh2, PF.s_wh3, PF.s_wh4, PF.s_nn, PF.s_nn1, PF.s_nnp, PF.s_nnn, PF.s_tol, PF.s_tol2, PF.s_tol3, PF.s_tup, PF.s_tup2, PF.s_len, PF.s_len2, PF.s_all, PF.at_pt, PF.at_pv, PF.g_s0, PF.g_s1, PF.g_sa, List.length_map, f2, b2, plain_sign, h, h2]
    · rw [if_neg h2]
      simp -implicitDefEqProofs (maxSteps := 400000) (disch := (first | with_reducible assumption | (with_reducible apply PF.mulOk_of <;> (repeat' (first | with_reducible assumption | with_reducible (apply PyProof.Rows.bits_add) | with_reducible (apply PyProof.Rows.bits_sub) | with_reducible (apply PyProof.Rows.bits_mul) | with_reducible (apply PyProof.Rows.bits_neg) | with_reducible (apply PF.bits_div (by first | omega | decide +kernel)) | with_reducible (apply PF.bits_mod (by first | omega | decide +kernel)) | (with_reducible show _ + _ ≤ 134217728; decide +kernel) | exact Nat.le_refl _))) | ((with_reducible apply PF.lt_len); with_unfolding_all rfl) | omega | decide +kernel)) only [PF.opI_mul, PF.opI_mod, PF.opI_fdiv, PF.ixT0, PF.ixT1, PF.cmp_eq, PF.cmp_ne, PF.cmp_lt, PF.cmp_le, PF.cmp_gt, PF.cmp_ge, PF.cmp_t2, PF.cmp_n2, PF.cmp_tt2, PF.cmp_nt2, PF.isInsT, PF.q_lo, PF.q_s1, PF.q_s2, PF.q_non, PF.q_bl, PF.q_int, PF.q_str, PF.q_gl, PF.q_bin, PF.q_bin1, PF.q_bin2, PF.q_kI, PF.q_kB, PF.q_kIm, PF.q_kFz, PF.q_neg, PF.q_neg1, PF.q_not, PF.q_not1, PF.q_cmp, PF.q_cmp1, PF.q_cmp2, PF.q_isN, PF.q_isN1, PF.q_and, PF.q_and1, PF.q_and2, PF.q_or, PF.q_or1, PF.q_or2, PF.q_ite, PF.q_ite1, PF.q_ite2, PF.q_tup, PF.q_tup1, PF.q_tup2, PF.q_lst, PF.q_lst1, PF.q_lst2, PF.q_ix, PF.q_ix1, PF.q_ix2, PF.q_call, PF.q_call1, PF.q_meth, PF.q_meth1, PF.q_meth2, PF.q_meth3, PF.q_fld, PF.q_fld1, PF.q_blt, PF.q_blt1, PF.q_isi, PF.q_isi0, PF.q_vs0, PF.q_vs1, PF.q_vs2, PF.q_vs3, PF.q_vb0, PF.q_vb1, PF.q_vb2, PF.q_vb3, PF.q_itE, PF.q_itE1, PF.q_it1, PF.q_it2, PF.q_it3, PF.q_asg, PF.q_asg0, PF.q_nx, PF.q_par, PF.q_par1, PF.q_ret, PF.q_ret1, PF.q_retN, PF.q_iff, PF.q_iff1, PF.q_iff2, PF.q_for, PF.q_for1, PF.q_fg0, PF.q_fg1, PF.q_fb, PF.q_f1, PF.q_f2, PF.q_rse, PF.q_es0, PF.q_es1, PF.q_cn, PF.q_cr, PF.q_rk1, PF.q_rk2, PF.q_see1, PF.q_see2, PF.q_see3, PF.q_fz1, PF.q_fz2, PF.q_out1, PF.q_out2, PF.q_out3, PF.q_op, PF.q_add, PF.q_sub, PF.q_isi1, PF.q_isi2, PF.q_isi3, PF.q_isi4, PF.q_isi5, PF.q_asg1, PF.q_asg2, PF.q_put1, PF.q_put2, PF.q_bnm, PF.q_bt0, PF.q_bt1, PF.q_bt2, PF.q_tg1, PF.q_tg2, PF.q_its1, PF.q_its2, PF.q_len1, PF.q_len2, PF.q_bint, PF.q_fld0, PF.q_ctx, PF.q_cgl, PF.q_cwf, PF.q_size, List.map_cons, List.map_nil, Nat.reduceSub, Nat.sub_self, List.replicate, List.append_nil, List.cons_append, List.nil_append, List.length_cons, List.length_nil, List.getElem?_cons_zero, List.getElem?_cons_succ, List.set_cons_zero, List.set_cons_succ, Nat.reduceAdd, Nat.reduceLT, Nat.reduceLeDiff, Int.cast_ofNat_Int, Int.reduceEq, Int.reduceLT, Int.reduceLE, decide_true, decide_false, if_true, Bool.false_eq_true, if_false, Bool.not_true, Bool.not_false, Bool.and_true, Bool.true_and, Bool.or_true, Bool.or_false, Bool.and_self, ite_true, ite_false, PF.g_nu, PF.g_pt, PF.g_n0, PF.g_n1, PF.g_p0, PF.g_p1, PF.g_pi, PF.g_pa, PF.g_pb, PF.g_fi, PF.g_ff, PF.g_ce, PF.g_cn, PF.g_pe, PF.g_pn, PF.s_lc, PF.s_lc1, PF.s_lc2, PF.s_lc3, PF.s_fI, PF.s_fI1, PF.s_fI2, PF.s_fI3, PF.s_fI4, PF.s_ec0, PF.s_ec1, PF.s_ec2, PF.s_ec3, PF.s_lg0, PF.s_lg1, PF.s_lg2, PF.s_lg3, PF.s_lg4, PF.s_w0, PF.s_w1, PF.s_fre, PF.s_fre1, PF.s_fre2, PF.s_fre3, PF.s_app, PF.s_app1, PF.s_app2, PF.s_app3, PF.s_pop, PF.s_pop1, PF.s_pop2, PF.s_whl, PF.s_wh1, PF.s_wh2, PF.s_wh3, PF.s_wh4, PF.s_nn, PF.s_nn1, PF.s_nnp, PF.s_nnn, PF.s_tol, PF.s_tol2, PF.s_tol3, PF.s_tup, PF.s_tup2, PF.s_len, PF.s_len2, PF.s_all, PF.at_pt, PF.at_pv, PF.g_s0, PF.g_s1, PF.g_sa, List.length_map, f2, b2, plain_sign, h, h2]
theorem sign {k : Nat} {m a b : Int} (hm : Sz m) (wa : intBits a ≤ 20000) (wb : intBits b ≤ 20000) : callK Q (k + 3) 5 [fr m, nu a b] = .ok (.im (.int (sg m a b))) := by
  have r1 := root_sign (k := k) (o := 2 * a + b) (p := b) (u := 5) (bits_of_le (bits_add (bits_mul (show intBits 2 ≤ 2 by decide) wa) wb) (by decide)) (bits_of_le wb (by decide)) (by decide)
  have r2 := root_sign (k := k) (o := a) (p := b) (u := 2) (bits_of_le wa (by decide)) (bits_of_le wb (by decide)) (by decide)
  have r3 := root_sign (k := k) (o := a) (p := b) (u := 3) (bits_of_le wa (by decide)) (bits_of_le wb (by decide)) (by decide)
  have x8 : ixE (Q.gl 2) (.int 8) = .ok (.int 2) := rfl
  have x12 : ixE (Q.gl 2) (.int 12) = .ok (.int 3) := rfl
  have w2 : intBits (2 : Int) ≤ 2 := by decide
  rw [call_f (f := f5) rfl (k + 2) _ rfl]
  rcases hm with rfl | rfl | rfl | rfl | rfl <;> simp -implicitDefEqProofs (maxSteps := 400000) (disch := (first | with_reducible assumption | (with_reducible apply PF.mulOk_of <;> (repeat' (first | with_reducible assumption | with_reducible (apply PyProof.Rows.bits_add) | with_reducible (apply PyProof.Rows.bits_sub) | with_reducible (apply PyProof.Rows.bits_mul) | with_reducible (apply PyProof.Rows.bits_neg) | with_reducible (apply PF.bits_div (by first | omega | decide +kernel)) | with_reducible (apply PF.bits_mod (by first | omega | decide +kernel)) | (with_reducible show _ + _ ≤ 134217728; decide +kernel) | exact Nat.le_refl _))) | ((with_reducible apply PF.lt_len); with_unfolding_all rfl) | omega | decide +kernel)) only [PF.opI_mul, PF.opI_mod, PF.opI_fdiv, PF.ixT0, PF.ixT1, PF.cmp_eq, PF.cmp_ne, PF.cmp_lt, PF.cmp_le, PF.cmp_gt, PF.cmp_ge, PF.cmp_t2, PF.cmp_n2, PF.cmp_tt2, PF.cmp_nt2, PF.isInsT, PF.q_lo, PF.q_s1, PF.q_s2, PF.q_non, PF.q_bl, PF.q_int, PF.q_str, PF.q_gl, PF.q_bin, PF.q_bin1, PF.q_bin2, PF.q_kI, PF.q_kB, PF.q_kIm, PF.q_kFz, PF.q_neg, PF.q_neg1, PF.q_not, PF.q_not1, PF.q_cmp, PF.q_cmp1, PF.q_cmp2, PF.q_isN, PF.q_isN1, PF.q_and, PF.q_and1, PF.q_and2, PF.q_or, PF.q_or1, PF.q_or2, PF.q_ite, PF.q_ite1, PF.q_ite2, PF.q_tup, PF.q_tup1, PF.q_tup2, PF.q_lst, PF.q_lst1, PF.q_lst2, PF.q_ix, PF.q_ix1, PF.q_ix2, PF.q_call, PF.q_call1, PF.q_meth, PF.q_meth1, PF.q_meth2, PF.q_meth3, PF.q_fld, PF.q_fld1, PF.q_blt, PF.q_blt1, PF.q_isi, PF.q_isi0, PF.q_vs0, PF.q_vs1, PF.q_vs2, PF.q_vs3, PF.q_vb0, PF.q_vb1, PF.q_vb2, PF.q_vb3, PF.q_itE, PF.q_itE1, PF.q_it1, PF.q_it2, PF.q_it3, PF.q_asg, PF.q_asg0, PF.q_nx, PF.q_par, PF.q_par1, PF.q_ret, PF.q_ret1, PF.q_retN, PF.q_iff, PF.q_iff1, PF.q_iff2, PF.q_for, PF.q_for1, PF.q_fg0, PF.q_fg1, PF.q_fb, PF.q_f1, PF.q_f2, PF.q_rse, PF.q_es0, PF.q_es1, PF.q_cn, PF.q_cr, PF.q_rk1, PF.q_rk2, PF.q_see1, PF.q_see2, PF.q_see3, PF.q_fz1, PF.q_fz2, PF.q_out1, PF.q_out2, PF.q_out3, PF.q_op, PF.q_add, PF.q_sub, PF.q_isi1, PF.q_isi2, PF.q_isi3, PF.q_isi4, PF.q_isi5, PF.q_asg1, PF.q_asg2, PF.q_put1, PF.q_put2, PF.q_bnm, PF.q_bt0, PF.q_bt1, PF.q_bt2, PF.q_tg1, PF.q_tg2, PF.q_its1, PF.q_its2, PF.q_len1, PF.q_len2, PF.q_bint, PF.q_fld0, PF.q_ctx, PF.q_cgl, PF.q_cwf, PF.q_size, List.map_cons, List.map_nil, Nat.reduceSub, Nat.sub_self, List.replicate, List.append_nil, List.cons_append, List.nil_append, List.length_cons, List.length_nil, List.getElem?_cons_zero, List.getElem?_cons_succ, List.set_cons_zero, List.set_cons_succ, Nat.reduceAdd, Nat.reduceLT, Nat.reduceLeDiff, Int.cast_ofNat_Int, Int.reduceEq, Int.reduceLT, Int.reduceLE, decide_true, decide_false, if_true, Bool.false_eq_true, if_false, Bool.not_true, Bool.not_false, Bool.and_true, Bool.true_and, Bool.or_true, Bool.or_false, Bool.and_self, ite_true, ite_false, PF.g_nu, PF.g_pt, PF.g_n0, PF.g_n1, PF.g_p0, PF.g_p1, PF.g_pi, PF.g_pa, PF.g_pb, PF.g_fi, PF.g_ff, PF.g_ce, PF.g_cn, PF.g_pe, PF.g_pn, PF.s_lc, PF.s_lc1, PF.s_lc2, PF.s_lc3, PF.s_fI, PF.s_fI1, PF.s_fI2, PF.s_fI3, PF.s_fI4, PF.s_ec0, PF.s_ec1, PF.s_ec2, PF.s_ec3, PF.s_lg0, PF.s_lg1, PF.s_lg2, PF.s_lg3, PF.s_lg4, PF.s_w0, PF.s_w1, PF.s_fre, PF.s_fre1, PF.s_fre2, PF.s_fre3, PF.s_app, PF.s_app1, PF.s_app2, PF.s_app3, PF.s_pop, PF.s_pop1, PF.s_pop2, PF.s_whl, PF.s_wh1, PF.s_wh2, PF.s_wh3, PF.s_wh4, PF.s_nn, PF.s_nn1, PF.s_nnp, PF.s_nnn, PF.s_tol, PF.s_tol2, PF.s_tol3, PF.s_tup, PF.s_tup2, PF.s_len, PF.s_len2, PF.s_all, PF.at_pt, PF.at_pv, PF.g_s0, PF.g_s1, PF.g_sa, List.length_map, f5, b5, plain_sign, r1, r2, r3, x8, x12] <;> rfl
theorem way_from {k : Nat} {p q : Pt} : callK Q (k + 2) 8 [pt p, pt q] = .ok (.im (pt (sbP q p))) := by
  rw [call_f (f := f8) rfl (k + 1) _ rfl]
  simp -implicitDefEqProofs (maxSteps := 400000) (disch := (first | with_reducible assumption | (with_reducible apply PF.mulOk_of <;> (repeat' (first | with_reducible assumption | with_reducible (apply PyProof.Rows.bits_add) | with_reducible (apply PyProof.Rows.bits_sub) | with_reducible (apply PyProof.Rows.bits_mul) | with_reducible (apply PyProof.Rows.bits_neg) | with_reducible (apply PF.bits_div (by first | omega | decide +kernel)) | with_reducible (apply PF.bits_mod (by first | omega | decide +kernel)) | (with_reducible show _ + _ ≤ 134217728; decide +kernel) | exact Nat.le_refl _))) | ((with_reducible apply PF.lt_len); with_unfolding_all rfl) | omega | decide +kernel)) only [PF.opI_mul, PF.opI_mod, PF.opI_fdiv, PF.ixT0, PF.ixT1, PF.cmp_eq, PF.cmp_ne, PF.cmp_lt, PF.cmp_le, PF.cmp_gt, PF.cmp_ge, PF.cmp_t2, PF.cmp_n2, PF.cmp_tt2, PF.cmp_nt2, PF.isInsT, PF.q_lo, PF.q_s1, PF.q_s2, PF.q_non, PF.q_bl, PF.q_int, PF.q_str, PF.q_gl, PF.q_bin, PF.q_bin1, PF.q_bin2, PF.q_kI, PF.q_kB, PF.q_kIm, PF.q_kFz, PF.q_neg, PF.q_neg1, PF.q_not, PF.q_not1, PF.q_cmp, PF.q_cmp1, PF.q_cmp2, PF.q_isN, PF.q_isN1, PF.q_and, PF.q_and1, PF.q_and2, PF.q_or, PF.q_or1, PF.q_or2, PF.q_ite, PF.q_ite1, PF.q_ite2, PF.q_tup, PF.q_tup1, PF.q_tup2, PF.q_lst, PF.q_lst1, PF.q_lst2, PF.q_ix, PF.q_ix1, PF.q_ix2, PF.q_call, PF.q_call1, PF.q_meth, PF.q_meth1, PF.q_meth2, PF.q_meth3, PF.q_fld, PF.q_fld1, PF.q_blt, PF.q_blt1, PF.q_isi, PF.q_isi0, PF.q_vs0, PF.q_vs1, PF.q_vs2, PF.q_vs3, PF.q_vb0, PF.q_vb1, PF.q_vb2, PF.q_vb3, PF.q_itE, PF.q_itE1, PF.q_it1, PF.q_it2, PF.q_it3, PF.q_asg, PF.q_asg0, PF.q_nx, PF.q_par, PF.q_par1, PF.q_ret, PF.q_ret1, PF.q_retN, PF.q_iff, PF.q_iff1, PF.q_iff2, PF.q_for, PF.q_for1, PF.q_fg0, PF.q_fg1, PF.q_fb, PF.q_f1, PF.q_f2, PF.q_rse, PF.q_es0, PF.q_es1, PF.q_cn, PF.q_cr, PF.q_rk1, PF.q_rk2, PF.q_see1, PF.q_see2, PF.q_see3, PF.q_fz1, PF.q_fz2, PF.q_out1, PF.q_out2, PF.q_out3, PF.q_op, PF.q_add, PF.q_sub, PF.q_isi1, PF.q_isi2, PF.q_isi3, PF.q_isi4, PF.q_isi5, PF.q_asg1, PF.q_asg2, PF.q_put1, PF.q_put2, PF.q_bnm, PF.q_bt0, PF.q_bt1, PF.q_bt2, PF.q_tg1, PF.q_tg2, PF.q_its1, PF.q_its2, PF.q_len1, PF.q_len2, PF.q_bint, PF.q_fld0, PF.q_ctx, PF.q_cgl, PF.q_cwf, PF.q_size, List.map_cons, List.map_nil, Nat.reduceSub, Nat.sub_self, List.replicate, List.append_nil, List.cons_append, List.nil_append, List.length_cons, List.length_nil, List.getElem?_cons_zero, List.getElem?_cons_succ, List.set_cons_zero, List.set_cons_succ, Nat.reduceAdd, Nat.reduceLT, Nat.reduceLeDiff, Int.cast_ofNat_Int, Int.reduceEq, Int.reduceLT, Int.reduceLE, decide_true, decide_false, if_true, Bool.false_eq_true, if_false, Bool.not_true, Bool.not_false, Bool.and_true, Bool.true_and, Bool.or_true, Bool.or_false, Bool.and_self, ite_true, ite_false, PF.g_nu, PF.g_pt, PF.g_n0, PF.g_n1, PF.g_p0, PF.g_p1, PF.g_pi, PF.g_pa, PF.g_pb, PF.g_fi, PF.g_ff, PF.g_ce, PF.g_cn, PF.g_pe, PF.g_pn, PF.s_lc, PF.s_lc1, PF.s_lc2, PF.s_lc3, PF.s_fI, PF.s_fI1, PF.s_fI2, PF.s_fI3, PF.s_fI4, PF.s_ec0, PF.s_ec1, PF.s_ec2, PF.s_ec3, PF.s_lg0, PF.s_lg1, PF.s_lg2, PF.s_lg3, PF.s_lg4, PF.s_w0, PF.s_w1, PF.s_fre, PF.s_fre1, PF.s_fre2, PF.s_fre3, PF.s_app, PF.s_app1, PF.s_app2, PF.s_app3, PF.s_pop, PF.s_pop1, PF.s_pop2, PF.s_whl, PF.s_wh1, PF.s_wh2, PF.s_wh3, PF.s_wh4, PF.s_nn, PF.s_nn1, PF.s_nnp, PF.s_nnn, PF.s_tol, PF.s_tol2, PF.s_tol3, PF.s_tup, PF.s_tup2, PF.s_len, PF.s_len2, PF.s_all, PF.at_pt, PF.at_pv, PF.g_s0, PF.g_s1, PF.g_sa, List.length_map, f8, b8, minus]
  rfl
theorem hand {k : Nat} {m : Int} (hm : Sz m) {p q r : Pt} (hp : Gd m p) (hq : Gd m q) (hr : Gd m r) : callK Q (k + 4) 9 [fr m, pt p, pt q, pt r] = .ok (.im (.int (hd m p q r))) := by
  have x := cross (k := k) hm (hq.1.sb hp.1) ((hq.2.sb hp.2).bt (by decide)) (hr.1.sb hp.1) ((hr.2.sb hp.2).bt (by decide)) (by decide)
  have s := sign (k := k) (a := cX m (sbP q p) (sbP r p)) (b := cY m (sbP q p) (sbP r p)) hm (bits_of_le (bits_of_bd (bd_cX (hq.2.sb hp.2) (hr.2.sb hp.2)) (by decide)) (by decide)) (bits_of_le (bits_of_bd (bd_cY (hq.2.sb hp.2) (hr.2.sb hp.2)) (by decide)) (by decide))
  rw [call_f (f := f9) rfl (k + 3) _ rfl]
  simp -implicitDefEqProofs (maxSteps := 400000) (disch := (first | with_reducible assumption | (with_reducible apply PF.mulOk_of <;> (repeat' (first | with_reducible assumption | with_reducible (apply PyProof.Rows.bits_add) | with_reducible (apply PyProof.Rows.bits_sub) | with_reducible (apply PyProof.Rows.bits_mul) | with_reducible (apply PyProof.Rows.bits_neg) | with_reducible (apply PF.bits_div (by first | omega | decide +kernel)) | with_reducible (apply PF.bits_mod (by first | omega | decide +kernel)) | (with_reducible show _ + _ ≤ 134217728; decide +kernel) | exact Nat.le_refl _))) | ((with_reducible apply PF.lt_len); with_unfolding_all rfl) | omega | decide +kernel)) only [PF.opI_mul, PF.opI_mod, PF.opI_fdiv, PF.ixT0, PF.ixT1, PF.cmp_eq, PF.cmp_ne, PF.cmp_lt, PF.cmp_le, PF.cmp_gt, PF.cmp_ge, PF.cmp_t2, PF.cmp_n2, PF.cmp_tt2, PF.cmp_nt2, PF.isInsT, PF.q_lo, PF.q_s1, PF.q_s2, PF.q_non, PF.q_bl, PF.q_int, PF.q_str, PF.q_gl, PF.q_bin, PF.q_bin1, PF.q_bin2, PF.q_kI, PF.q_kB, PF.q_kIm, PF.q_kFz, PF.q_neg, PF.q_neg1, PF.q_not, PF.q_not1, PF.q_cmp, PF.q_cmp1, PF.q_cmp2, PF.q_isN, PF.q_isN1, PF.q_and, PF.q_and1, PF.q_and2, PF.q_or, PF.q_or1, PF.q_or2, PF.q_ite, PF.q_ite1, PF.q_ite2, PF.q_tup, PF.q_tup1, PF.q_tup2, PF.q_lst, PF.q_lst1, PF.q_lst2, PF.q_ix, PF.q_ix1, PF.q_ix2, PF.q_call, PF.q_call1, PF.q_meth, PF.q_meth1, PF.q_meth2, PF.q_meth3, PF.q_fld, PF.q_fld1, PF.q_blt, PF.q_blt1, PF.q_isi, PF.q_isi0, PF.q_vs0, PF.q_vs1, PF.q_vs2, PF.q_vs3, PF.q_vb0, PF.q_vb1, PF.q_vb2, PF.q_vb3, PF.q_itE, PF.q_itE1, PF.q_it1, PF.q_it2, PF.q_it3, PF.q_asg, PF.q_asg0, PF.q_nx, PF.q_par, PF.q_par1, PF.q_ret, PF.q_ret1, PF.q_retN, PF.q_iff, PF.q_iff1, PF.q_iff2, PF.q_for, PF.q_for1, PF.q_fg0, PF.q_fg1, PF.q_fb, PF.q_f1, PF.q_f2, PF.q_rse, PF.q_es0, PF.q_es1, PF.q_cn, PF.q_cr, PF.q_rk1, PF.q_rk2, PF.q_see1, PF.q_see2, PF.q_see3, PF.q_fz1, PF.q_fz2, PF.q_out1, PF.q_out2, PF.q_out3, PF.q_op, PF.q_add, PF.q_sub, PF.q_isi1, PF.q_isi2, PF.q_isi3, PF.q_isi4, PF.q_isi5, PF.q_asg1, PF.q_asg2, PF.q_put1, PF.q_put2, PF.q_bnm, PF.q_bt0, PF.q_bt1, PF.q_bt2, PF.q_tg1, PF.q_tg2, PF.q_its1, PF.q_its2, PF.q_len1, PF.q_len2, PF.q_bint, PF.q_fld0, PF.q_ctx, PF.q_cgl, PF.q_cwf, PF.q_size, List.map_cons, List.map_nil, Nat.reduceSub, Nat.sub_self, List.replicate, List.append_nil, List.cons_append, List.nil_append, List.length_cons, List.length_nil, List.getElem?_cons_zero, List.getElem?_cons_succ, List.set_cons_zero, List.set_cons_succ, Nat.reduceAdd, Nat.reduceLT, Nat.reduceLeDiff, Int.cast_ofNat_Int, Int.reduceEq, Int.reduceLT, Int.reduceLE, decide_true, decide_false, if_true, Bool.false_eq_true, if_false, Bool.not_true, Bool.not_false, Bool.and_true, Bool.true_and, Bool.or_true, Bool.or_false, Bool.and_self, ite_true, ite_false, PF.g_nu, PF.g_pt, PF.g_n0, PF.g_n1, PF.g_p0, PF.g_p1, PF.g_pi, PF.g_pa, PF.g_pb, PF.g_fi, PF.g_ff, PF.g_ce, PF.g_cn, PF.g_pe, PF.g_pn, PF.s_lc, PF.s_lc1, PF.s_lc2, PF.s_lc3, PF.s_fI, PF.s_fI1, PF.s_fI2, PF.s_fI3, PF.s_fI4, PF.s_ec0, PF.s_ec1, PF.s_ec2, PF.s_ec3, PF.s_lg0, PF.s_lg1, PF.s_lg2, PF.s_lg3, PF.s_lg4, PF.s_w0, PF.s_w1, PF.s_fre, PF.s_fre1, PF.s_fre2, PF.s_fre3, PF.s_app, PF.s_app1, PF.s_app2, PF.s_app3, PF.s_pop, PF.s_pop1, PF.s_pop2, PF.s_whl, PF.s_wh1, PF.s_wh2, PF.s_wh3, PF.s_wh4, PF.s_nn, PF.s_nn1, PF.s_nnp, PF.s_nnn, PF.s_tol, PF.s_tol2, PF.s_tol3, PF.s_tup, PF.s_tup2, PF.s_len, PF.s_len2, PF.s_all, PF.at_pt, PF.at_pv, PF.g_s0, PF.g_s1, PF.g_sa, List.length_map, f9, b9, way_from, x, s]
  rfl
theorem ltimes {k : Nat} {m a b c d : Int} (hm : Sz m) (h1 : m < 8 → b = 0) (h2 : m < 8 → d = 0) (wa : intBits a ≤ 30000) (wb : intBits b ≤ 30000) (wc : intBits c ≤ 30000) (wd : intBits d ≤ 30000) :
    callK Q (k + 1) 12 [.int m, nu a b, nu c d] = .ok (.im (nu (mP m a b c d) (mR m a b c d))) := by
  rw [call_f (f := f12) rfl k _ rfl]
  rcases hm with rfl | rfl | rfl | rfl | rfl
  · simp -implicitDefEqProofs (maxSteps := 400000) (disch := (first | with_reducible assumption | (with_reducible apply PF.mulOk_of <;> (repeat' (first | with_reducible assumption | with_reducible (apply PyProof.Rows.bits_add) | with_reducible (apply PyProof.Rows.bits_sub) | with_reducible (apply PyProof.Rows.bits_mul) | with_reducible (apply PyProof.Rows.bits_neg) | with_reducible (apply PF.bits_div (by first | omega | decide +kernel)) | with_reducible (apply PF.bits_mod (by first | omega | decide +kernel)) | (with_reducible show _ + _ ≤ 134217728; decide +kernel) | exact Nat.le_refl _))) | ((with_reducible apply PF.lt_len); with_unfolding_all rfl) | omega | decide +kernel)) only [PF.opI_mul, PF.opI_mod, PF.opI_fdiv, PF.ixT0, PF.ixT1, PF.cmp_eq, PF.cmp_ne, PF.cmp_lt, PF.cmp_le, PF.cmp_gt, PF.cmp_ge, PF.cmp_t2, PF.cmp_n2, PF.cmp_tt2, PF.cmp_nt2, PF.isInsT, PF.q_lo, PF.q_s1, PF.q_s2, PF.q_non, PF.q_bl, PF.q_int, PF.q_str, PF.q_gl, PF.q_bin, PF.q_bin1, PF.q_bin2, PF.q_kI, PF.q_kB, PF.q_kIm, PF.q_kFz, PF.q_neg, PF.q_neg1, PF.q_not, PF.q_not1, PF.q_cmp, PF.q_cmp1, PF.q_cmp2, PF.q_isN, PF.q_isN1, PF.q_and, PF.q_and1, PF.q_and2, PF.q_or, PF.q_or1, PF.q_or2, PF.q_ite, PF.q_ite1, PF.q_ite2, PF.q_tup, PF.q_tup1, PF.q_tup2, PF.q_lst, PF.q_lst1, PF.q_lst2, PF.q_ix, PF.q_ix1, PF.q_ix2, PF.q_call, PF.q_call1, PF.q_meth, PF.q_meth1, PF.q_meth2, PF.q_meth3, PF.q_fld, PF.q_fld1, PF.q_blt, PF.q_blt1, PF.q_isi, PF.q_isi0, PF.q_vs0, PF.q_vs1, PF.q_vs2, PF.q_vs3, PF.q_vb0, PF.q_vb1, PF.q_vb2, PF.q_vb3, PF.q_itE, PF.q_itE1, PF.q_it1, PF.q_it2, PF.q_it3, PF.q_asg, PF.q_asg0, PF.q_nx, PF.q_par, PF.q_par1, PF.q_ret, PF.q_ret1, PF.q_retN, PF.q_iff, PF.q_iff1, PF.q_iff2, PF.q_for, PF.q_for1, PF.q_fg0, PF.q_fg1, PF.q_fb, PF.q_f1, PF.q_f2, PF.q_rse, PF.q_es0, PF.q_es1, PF.q_cn, PF.q_cr, PF.q_rk1, PF.q_rk2, PF.q_see1, PF.q_see2, PF.q_see3, PF.q_fz1, PF.q_fz2, PF.q_out1, PF.q_out2, PF.q_out3, PF.q_op, PF.q_add, PF.q_sub, PF.q_isi1, PF.q_isi2, PF.q_isi3, PF.q_isi4, PF.q_isi5, PF.q_asg1, PF.q_asg2, PF.q_put1, PF.q_put2, PF.q_bnm, PF.q_bt0, PF.q_bt1, PF.q_bt2, PF.q_tg1, PF.q_tg2, PF.q_its1, PF.q_its2, PF.q_len1, PF.q_len2, PF.q_bint, PF.q_fld0, PF.q_ctx, PF.q_cgl, PF.q_cwf, PF.q_size, List.map_cons, List.map_nil, Nat.reduceSub, Nat.sub_self, List.replicate, List.append_nil, List.cons_append, List.nil_append, List.length_cons, List.length_nil, List.getElem?_cons_zero, List.getElem?_cons_succ, List.set_cons_zero, List.set_cons_succ, Nat.reduceAdd, Nat.reduceLT, Nat.reduceLeDiff, Int.cast_ofNat_Int, Int.reduceEq, Int.reduceLT, Int.reduceLE, decide_true, decide_false, if_true, Bool.false_eq_true, if_false, Bool.not_true, Bool.not_false, Bool.and_true, Bool.true_and, Bool.or_true, Bool.or_false, Bool.and_self, ite_true, ite_false, PF.g_nu, PF.g_pt, PF.g_n0, PF.g_n1, PF.g_p0, PF.g_p1, PF.g_pi, PF.g_pa, PF.g_pb, PF.g_fi, PF.g_ff, PF.g_ce, PF.g_cn, PF.g_pe, PF.g_pn, PF.s_lc, PF.s_lc1, PF.s_lc2, PF.s_lc3, PF.s_fI, PF.s_fI1, PF.s_fI2, PF.s_fI3, PF.s_fI4, PF.s_ec0, PF.s_ec1, PF.s_ec2, PF.s_ec3, PF.s_lg0, PF.s_lg1, PF.s_lg2, PF.s_lg3, PF.s_lg4, PF.s_w0, PF.s_w1, PF.s_fre, PF.s_fre1, PF.s_fre2, PF.s_fre3, PF.s_app, PF.s_app1, PF.s_app2, PF.s_app3, PF.s_pop, PF.s_pop1, PF.s_pop2, PF.s_whl, PF.s_wh1, PF.s_wh2, PF.s_wh3, PF.s_wh4, PF.s_nn, PF.s_nn1, PF.s_nnp, PF.s_nnn, PF.s_tol, PF.s_tol2, PF.s_tol3, PF.s_tup, PF.s_tup2, PF.s_len, PF.s_len2, PF.s_all, PF.at_pt, PF.at_pv, PF.g_s0, PF.g_s1, PF.g_sa, List.length_map, f12, b12]
    have e1 := h1 (by decide)
    have e2 := h2 (by decide)
    subst e1 e2
    refine n2 ?_ ?_ <;> simp only [mP, mR, wA, wB] <;> grind
  · simp -implicitDefEqProofs (maxSteps := 400000) (disch := (first | with_reducible assumption | (with_reducible apply PF.mulOk_of <;> (repeat' (first | with_reducible assumption | with_reducible (apply PyProof.Rows.bits_add) | with_reducible (apply PyProof.Rows.bits_sub) | with_reducible (apply PyProof.Rows.bits_mul) | with_reducible (apply PyProof.Rows.bits_neg) | with_reducible (apply PF.bits_div (by first | omega | decide +kernel)) | with_reducible (apply PF.bits_mod (by first | omega | decide +kernel)) | (with_reducible show _ + _ ≤ 134217728; decide +kernel) | exact Nat.le_refl _))) | ((with_reducible apply PF.lt_len); with_unfolding_all rfl) | omega | decide +kernel)) only [PF.opI_mul, PF.opI_mod, PF.opI_fdiv, PF.ixT0, PF.ixT1, PF.cmp_eq, PF.cmp_ne, PF.cmp_lt, PF.cmp_le, PF.cmp_gt, PF.cmp_ge, PF.cmp_t2, PF.cmp_n2, PF.cmp_tt2, PF.cmp_nt2, PF.isInsT, PF.q_lo, PF.q_s1, PF.q_s2, PF.q_non, PF.q_bl, PF.q_int, PF.q_str, PF.q_gl, PF.q_bin, PF.q_bin1, PF.q_bin2, PF.q_kI, PF.q_kB, PF.q_kIm, PF.q_kFz, PF.q_neg, PF.q_neg1, PF.q_not, PF.q_not1, PF.q_cmp, PF.q_cmp1, PF.q_cmp2, PF.q_isN, PF.q_isN1, PF.q_and, PF.q_and1, PF.q_and2, PF.q_or, PF.q_or1, PF.q_or2, PF.q_ite, PF.q_ite1, PF.q_ite2, PF.q_tup, PF.q_tup1, PF.q_tup2, PF.q_lst, PF.q_lst1, PF.q_lst2, PF.q_ix, PF.q_ix1, PF.q_ix2, PF.q_call, PF.q_call1, PF.q_meth, PF.q_meth1, PF.q_meth2, PF.q_meth3, PF.q_fld, PF.q_fld1, PF.q_blt, PF.q_blt1, PF.q_isi, PF.q_isi0, PF.q_vs0, PF.q_vs1, PF.q_vs2, PF.q_vs3, PF.q_vb0, PF.q_vb1, PF.q_vb2, PF.q_vb3, PF.q_itE, PF.q_itE1, PF.q_it1, PF.q_it2, PF.q_it3, PF.q_asg, PF.q_asg0, PF.q_nx, PF.q_par, PF.q_par1, PF.q_ret, PF.q_ret1, PF.q_retN, PF.q_iff, PF.q_iff1, PF.q_iff2, PF.q_for, PF.q_for1, PF.q_fg0, PF.q_fg1, PF.q_fb, PF.q_f1, PF.q_f2, PF.q_rse, PF.q_es0, PF.q_es1, PF.q_cn, PF.q_cr, PF.q_rk1, PF.q_rk2, PF.q_see1, PF.q_see2, PF.q_see3, PF.q_fz1, PF.q_fz2, PF.q_out1, PF.q_out2, PF.q_out3, PF.q_op, PF.q_add, PF.q_sub, PF.q_isi1, PF.q_isi2, PF.q_isi3, PF.q_isi4, PF.q_isi5, PF.q_asg1, PF.q_asg2, PF.q_put1, PF.q_put2, PF.q_bnm, PF.q_bt0, PF.q_bt1, PF.q_bt2, PF.q_tg1, PF.q_tg2, PF.q_its1, PF.q_its2, PF.q_len1, PF.q_len2, PF.q_bint, PF.q_fld0, PF.q_ctx, PF.q_cgl, PF.q_cwf, PF.q_size, List.map_cons, List.map_nil, Nat.reduceSub, Nat.sub_self, List.replicate, List.append_nil, List.cons_append, List.nil_append, List.length_cons, List.length_nil, List.getElem?_cons_zero, List.getElem?_cons_succ, List.set_cons_zero, List.set_cons_succ, Nat.reduceAdd, Nat.reduceLT, Nat.reduceLeDiff, Int.cast_ofNat_Int, Int.reduceEq, Int.reduceLT, Int.reduceLE, decide_true, decide_false, if_true, Bool.false_eq_true, if_false, Bool.not_true, Bool.not_false, Bool.and_true, Bool.true_and, Bool.or_true, Bool.or_false, Bool.and_self, ite_true, ite_false, PF.g_nu, PF.g_pt, PF.g_n0, PF.g_n1, PF.g_p0, PF.g_p1, PF.g_pi, PF.g_pa, PF.g_pb, PF.g_fi, PF.g_ff, PF.g_ce, PF.g_cn, PF.g_pe, PF.g_pn, PF.s_lc, PF.s_lc1, PF.s_lc2, PF.s_lc3, PF.s_fI, PF.s_fI1, PF.s_fI2, PF.s_fI3, PF.s_fI4, PF.s_ec0, PF.s_ec1, PF.s_ec2, PF.s_ec3, PF.s_lg0, PF.s_lg1, PF.s_lg2, PF.s_lg3, PF.s_lg4, PF.s_w0, PF.s_w1, PF.s_fre, PF.s_fre1, PF.s_fre2, PF.s_fre3, PF.s_app, PF.s_app1, PF.s_app2, PF.s_app3, PF.s_pop, PF.s_pop1, PF.s_pop2, PF.s_whl, PF.s_wh1, PF.s_wh2, PF.s_wh3, PF.s_wh4, PF.s_nn, PF.s_nn1, PF.s_nnp, PF.s_nnn, PF.s_tol, PF.s_tol2, PF.s_tol3, PF.s_tup, PF.s_tup2, PF.s_len, PF.s_len2, PF.s_all, PF.at_pt, PF.at_pv, PF.g_s0, PF.g_s1, PF.g_sa, List.length_map, f12, b12]
    have e1 := h1 (by decide)
    have e2 := h2 (by decide)
    subst e1 e2
    refine n2 ?_ ?_ <;> simp only [mP, mR, wA, wB] <;> grind
  · simp -implicitDefEqProofs (maxSteps := 400000) (disch := (first | with_reducible assumption | (with_reducible apply PF.mulOk_of <;> (repeat' (first | with_reducible assumption | with_reducible (apply PyProof.Rows.bits_add) | with_reducible (apply PyProof.Rows.bits_sub) | with_reducible (apply PyProof.Rows.bits_mul) | with_reducible (apply PyProof.Rows.bits_neg) | with_reducible (apply PF.bits_div (by first | omega | decide +kernel)) | with_reducible (apply PF.bits_mod (by first | omega | decide +kernel)) | (with_reducible show _ + _ ≤ 134217728; decide +kernel) | exact Nat.le_refl _))) | ((with_reducible apply PF.lt_len); with_unfolding_all rfl) | omega | decide +kernel)) only [PF.opI_mul, PF.opI_mod, PF.opI_fdiv, PF.ixT0, PF.ixT1, PF.cmp_eq, PF.cmp_ne, PF.cmp_lt, PF.cmp_le, PF.cmp_gt, PF.cmp_ge, PF.cmp_t2, PF.cmp_n2, PF.cmp_tt2, PF.cmp_nt2, PF.isInsT, PF.q_lo, PF.q_s1, PF.q_s2, PF.q_non, PF.q_bl, PF.q_int, PF.q_str, PF.q_gl, PF.q_bin, PF.q_bin1, PF.q_bin2, PF.q_kI, PF.q_kB, PF.q_kIm, PF.q_kFz, PF.q_neg, PF.q_neg1, PF.q_not, PF.q_not1, PF.q_cmp, PF.q_cmp1, PF.q_cmp2, PF.q_isN, PF.q_isN1, PF.q_and, PF.q_and1, PF.q_and2, PF.q_or, PF.q_or1, PF.q_or2, PF.q_ite, PF.q_ite1, PF.q_ite2, PF.q_tup, PF.q_tup1, PF.q_tup2, PF.q_lst, PF.q_lst1, PF.q_lst2, PF.q_ix, PF.q_ix1, PF.q_ix2, PF.q_call, PF.q_call1, PF.q_meth, PF.q_meth1, PF.q_meth2, PF.q_meth3, PF.q_fld, PF.q_fld1, PF.q_blt, PF.q_blt1, PF.q_isi, PF.q_isi0, PF.q_vs0, PF.q_vs1, PF.q_vs2, PF.q_vs3, PF.q_vb0, PF.q_vb1, PF.q_vb2, PF.q_vb3, PF.q_itE, PF.q_itE1, PF.q_it1, PF.q_it2, PF.q_it3, PF.q_asg, PF.q_asg0, PF.q_nx, PF.q_par, PF.q_par1, PF.q_ret, PF.q_ret1, PF.q_retN, PF.q_iff, PF.q_iff1, PF.q_iff2, PF.q_for, PF.q_for1, PF.q_fg0, PF.q_fg1, PF.q_fb, PF.q_f1, PF.q_f2, PF.q_rse, PF.q_es0, PF.q_es1, PF.q_cn, PF.q_cr, PF.q_rk1, PF.q_rk2, PF.q_see1, PF.q_see2, PF.q_see3, PF.q_fz1, PF.q_fz2, PF.q_out1, PF.q_out2, PF.q_out3, PF.q_op, PF.q_add, PF.q_sub, PF.q_isi1, PF.q_isi2, PF.q_isi3, PF.q_isi4, PF.q_isi5, PF.q_asg1, PF.q_asg2, PF.q_put1, PF.q_put2, PF.q_bnm, PF.q_bt0, PF.q_bt1, PF.q_bt2, PF.q_tg1, PF.q_tg2, PF.q_its1, PF.q_its2, PF.q_len1, PF.q_len2, PF.q_bint, PF.q_fld0, PF.q_ctx, PF.q_cgl, PF.q_cwf, PF.q_size, List.map_cons, List.map_nil, Nat.reduceSub, Nat.sub_self, List.replicate, List.append_nil, List.cons_append, List.nil_append, List.length_cons, List.length_nil, List.getElem?_cons_zero, List.getElem?_cons_succ, List.set_cons_zero, List.set_cons_succ, Nat.reduceAdd, Nat.reduceLT, Nat.reduceLeDiff, Int.cast_ofNat_Int, Int.reduceEq, Int.reduceLT, Int.reduceLE, decide_true, decide_false, if_true, Bool.false_eq_true, if_false, Bool.not_true, Bool.not_false, Bool.and_true, Bool.true_and, Bool.or_true, Bool.or_false, Bool.and_self, ite_true, ite_false, PF.g_nu, PF.g_pt, PF.g_n0, PF.g_n1, PF.g_p0, PF.g_p1, PF.g_pi, PF.g_pa, PF.g_pb, PF.g_fi, PF.g_ff, PF.g_ce, PF.g_cn, PF.g_pe, PF.g_pn, PF.s_lc, PF.s_lc1, PF.s_lc2, PF.s_lc3, PF.s_fI, PF.s_fI1, PF.s_fI2, PF.s_fI3, PF.s_fI4, PF.s_ec0, PF.s_ec1, PF.s_ec2, PF.s_ec3, PF.s_lg0, PF.s_lg1, PF.s_lg2, PF.s_lg3, PF.s_lg4, PF.s_w0, PF.s_w1, PF.s_fre, PF.s_fre1, PF.s_fre2, PF.s_fre3, PF.s_app, PF.s_app1, PF.s_app2, PF.s_app3, PF.s_pop, PF.s_pop1, PF.s_pop2, PF.s_whl, PF.s_wh1, PF.s_wh2, PF.s_wh3, PF.s_wh4, PF.s_nn, PF.s_nn1, PF.s_nnp, PF.s_nnn, PF.s_tol, PF.s_tol2, PF.s_tol3, PF.s_tup, PF.s_tup2, PF.s_len, PF.s_len2, PF.s_all, PF.at_pt, PF.at_pv, PF.g_s0, PF.g_s1, PF.g_sa, List.length_map, f12, b12]
    refine n2 ?_ ?_ <;> simp only [mP, mR, wA, wB] <;> grind
  · simp -implicitDefEqProofs (maxSteps := 400000) (disch := (first | with_reducible assumption | (with_reducible apply PF.mulOk_of <;> (repeat' (first | with_reducible assumption | with_reducible (apply PyProof.Rows.bits_add) | with_reducible (apply PyProof.Rows.bits_sub) | with_reducible (apply PyProof.Rows.bits_mul) | with_reducible (apply PyProof.Rows.bits_neg) | with_reducible (apply PF.bits_div (by first | omega | decide +kernel)) | with_reducible (apply PF.bits_mod (by first | omega | decide +kernel)) | (with_reducible show _ + _ ≤ 134217728; decide +kernel) | exact Nat.le_refl _))) | ((with_reducible apply PF.lt_len); with_unfolding_all rfl) | omega | decide +kernel)) only [PF.opI_mul, PF.opI_mod, PF.opI_fdiv, PF.ixT0, PF.ixT1, PF.cmp_eq, PF.cmp_ne, PF.cmp_lt, PF.cmp_le, PF.cmp_gt, PF.cmp_ge, PF.cmp_t2, PF.cmp_n2, PF.cmp_tt2, PF.cmp_nt2, PF.isInsT, PF.q_lo, PF.q_s1, PF.q_s2, PF.q_non, PF.q_bl, PF.q_int, PF.q_str, PF.q_gl, PF.q_bin, PF.q_bin1, PF.q_bin2, PF.q_kI, PF.q_kB, PF.q_kIm, PF.q_kFz, PF.q_neg, PF.q_neg1, PF.q_not, PF.q_not1, PF.q_cmp, PF.q_cmp1, PF.q_cmp2, PF.q_isN, PF.q_isN1, PF.q_and, PF.q_and1, PF.q_and2, PF.q_or, PF.q_or1, PF.q_or2, PF.q_ite, PF.q_ite1, PF.q_ite2, PF.q_tup, PF.q_tup1, PF.q_tup2, PF.q_lst, PF.q_lst1, PF.q_lst2, PF.q_ix, PF.q_ix1, PF.q_ix2, PF.q_call, PF.q_call1, PF.q_meth, PF.q_meth1, PF.q_meth2, PF.q_meth3, PF.q_fld, PF.q_fld1, PF.q_blt, PF.q_blt1, PF.q_isi, PF.q_isi0, PF.q_vs0, PF.q_vs1, PF.q_vs2, PF.q_vs3, PF.q_vb0, PF.q_vb1, PF.q_vb2, PF.q_vb3, PF.q_itE, PF.q_itE1, PF.q_it1, PF.q_it2, PF.q_it3, PF.q_asg, PF.q_asg0, PF.q_nx, PF.q_par, PF.q_par1, PF.q_ret, PF.q_ret1, PF.q_retN, PF.q_iff, PF.q_iff1, PF.q_iff2, PF.q_for, PF.q_for1, PF.q_fg0, PF.q_fg1, PF.q_fb, PF.q_f1, PF.q_f2, PF.q_rse, PF.q_es0, PF.q_es1, PF.q_cn, PF.q_cr, PF.q_rk1, PF.q_rk2, PF.q_see1, PF.q_see2, PF.q_see3, PF.q_fz1, PF.q_fz2, PF.q_out1, PF.q_out2, PF.q_out3, PF.q_op, PF.q_add, PF.q_sub, PF.q_isi1, PF.q_isi2, PF.q_isi3, PF.q_isi4, PF.q_isi5, PF.q_asg1, PF.q_asg2, PF.q_put1, PF.q_put2, PF.q_bnm, PF.q_bt0, PF.q_bt1, PF.q_bt2, PF.q_tg1, PF.q_tg2, PF.q_its1, PF.q_its2, PF.q_len1, PF.q_len2, PF.q_bint, PF.q_fld0, PF.q_ctx, PF.q_cgl, PF.q_cwf, PF.q_size, List.map_cons, List.map_nil, Nat.reduceSub, Nat.sub_self, List.replicate, List.append_nil, List.cons_append, List.nil_append, List.length_cons, List.length_nil, List.getElem?_cons_zero, List.getElem?_cons_succ, List.set_cons_zero, List.set_cons_succ, Nat.reduceAdd, Nat.reduceLT, Nat.reduceLeDiff, Int.cast_ofNat_Int, Int.reduceEq, Int.reduceLT, Int.reduceLE, decide_true, decide_false, if_true, Bool.false_eq_true, if_false, Bool.not_true, Bool.not_false, Bool.and_true, Bool.true_and, Bool.or_true, Bool.or_false, Bool.and_self, ite_true, ite_false, PF.g_nu, PF.g_pt, PF.g_n0, PF.g_n1, PF.g_p0, PF.g_p1, PF.g_pi, PF.g_pa, PF.g_pb, PF.g_fi, PF.g_ff, PF.g_ce, PF.g_cn, PF.g_pe, PF.g_pn, PF.s_lc, PF.s_lc1, PF.s_lc2, PF.s_lc3, PF.s_fI, PF.s_fI1, PF.s_fI2, PF.s_fI3, PF.s_fI4, PF.s_ec0, PF.s_ec1, PF.s_ec2, PF.s_ec3, PF.s_lg0, PF.s_lg1, PF.s_lg2, PF.s_lg3, PF.s_lg4, PF.s_w0, PF.s_w1, PF.s_fre, PF.s_fre1, PF.s_fre2, PF.s_fre3, PF.s_app, PF.s_app1, PF.s_app2, PF.s_app3, PF.s_pop, PF.s_pop1, PF.s_pop2, PF.s_whl, PF.s_wh1, PF.s_wh2, PF.s_wh3, PF.s_wh4, PF.s_nn, PF.s_nn1, PF.s_nnp, PF.s_nnn, PF.s_tol, PF.s_tol2, PF.s_tol3, PF.s_tup, PF.s_tup2, PF.s_len, PF.s_len2, PF.s_all, PF.at_pt, PF.at_pv, PF.g_s0, PF.g_s1, PF.g_sa, List.length_map, f12, b12]
    refine n2 ?_ ?_ <;> simp only [mP, mR, wA, wB] <;> grind
  · simp -implicitDefEqProofs (maxSteps := 400000) (disch := (first | with_reducible assumption | (with_reducible apply PF.mulOk_of <;> (repeat' (first | with_reducible assumption | with_reducible (apply PyProof.Rows.bits_add) | with_reducible (apply PyProof.Rows.bits_sub) | with_reducible (apply PyProof.Rows.bits_mul) | with_reducible (apply PyProof.Rows.bits_neg) | with_reducible (apply PF.bits_div (by first | omega | decide +kernel)) | with_reducible (apply PF.bits_mod (by first | omega | decide +kernel)) | (with_reducible show _ + _ ≤ 134217728; decide +kernel) | exact Nat.le_refl _))) | ((with_reducible apply PF.lt_len); with_unfolding_all rfl) | omega | decide +kernel)) only [PF.opI_mul, PF.opI_mod, PF.opI_fdiv, PF.ixT0, PF.ixT1, PF.cmp_eq, PF.cmp_ne, PF.cmp_lt, PF.cmp_le, PF.cmp_gt, PF.cmp_ge, PF.cmp_t2, PF.cmp_n2, PF.cmp_tt2, PF.cmp_nt2, PF.isInsT, PF.q_lo, PF.q_s1, PF.q_s2, PF.q_non, PF.q_bl, PF.q_int, PF.q_str, PF.q_gl, PF.q_bin, PF.q_bin1, PF.q_bin2, PF.q_kI, PF.q_kB, PF.q_kIm, PF.q_kFz, PF.q_neg, PF.q_neg1, PF.q_not, PF.q_not1, PF.q_cmp, PF.q_cmp1, PF.q_cmp2, PF.q_isN, PF.q_isN1, PF.q_and, PF.q_and1, PF.q_and2, PF.q_or, PF.q_or1, PF.q_or2, PF.q_ite, PF.q_ite1, PF.q_ite2, PF.q_tup, PF.q_tup1, PF.q_tup2, PF.q_lst, PF.q_lst1, PF.q_lst2, PF.q_ix, PF.q_ix1, PF.q_ix2, PF.q_call, PF.q_call1, PF.q_meth, PF.q_meth1, PF.q_meth2, PF.q_meth3, PF.q_fld, PF.q_fld1, PF.q_blt, PF.q_blt1, PF.q_isi, PF.q_isi0, PF.q_vs0, PF.q_vs1, PF.q_vs2, PF.q_vs3, PF.q_vb0, PF.q_vb1, PF.q_vb2, PF.q_vb3, PF.q_itE, PF.q_itE1, PF.q_it1, PF.q_it2, PF.q_it3, PF.q_asg, PF.q_asg0, PF.q_nx, PF.q_par, PF.q_par1, PF.q_ret, PF.q_ret1, PF.q_retN, PF.q_iff, PF.q_iff1, PF.q_iff2, PF.q_for, PF.q_for1, PF.q_fg0, PF.q_fg1, PF.q_fb, PF.q_f1, PF.q_f2, PF.q_rse, PF.q_es0, PF.q_es1, PF.q_cn, PF.q_cr, PF.q_rk1, PF.q_rk2, PF.q_see1, PF.q_see2, PF.q_see3, PF.q_fz1, PF.q_fz2, PF.q_out1, PF.q_out2, PF.q_out3, PF.q_op, PF.q_add, PF.q_sub, PF.q_isi1, PF.q_isi2, PF.q_isi3, PF.q_isi4, PF.q_isi5, PF.q_asg1, PF.q_asg2, PF.q_put1, PF.q_put2, PF.q_bnm, PF.q_bt0, PF.q_bt1, PF.q_bt2, PF.q_tg1, PF.q_tg2, PF.q_its1, PF.q_its2, PF.q_len1, PF.q_len2, PF.q_bint, PF.q_fld0, PF.q_ctx, PF.q_cgl, PF.q_cwf, PF.q_size, List.map_cons, List.map_nil, Nat.reduceSub, Nat.sub_self, List.replicate, List.append_nil, List.cons_append, List.nil_append, List.length_cons, List.length_nil, List.getElem?_cons_zero, List.getElem?_cons_succ, List.set_cons_zero, List.set_cons_succ, Nat.reduceAdd, Nat.reduceLT, Nat.reduceLeDiff, Int.cast_ofNat_Int, Int.reduceEq, Int.reduceLT, Int.reduceLE, decide_true, decide_false, if_true, Bool.false_eq_true, if_false, Bool.not_true, Bool.not_false, Bool.and_true, Bool.true_and, Bool.or_true, Bool.or_false, Bool.and_self, ite_true, ite_false, PF.g_nu, PF.g_pt, PF.g_n0, PF.g_n1, PF.g_p0, PF.g_p1, PF.g_pi, PF.g_pa, PF.g_pb, PF.g_fi, PF.g_ff, PF.g_ce, PF.g_cn, PF.g_pe, PF.g_pn, PF.s_lc, PF.s_lc1, PF.s_lc2, PF.s_lc3, PF.s_fI, PF.s_fI1, PF.s_fI2, PF.s_fI3, PF.s_fI4, PF.s_ec0, PF.s_ec1, PF.s_ec2, PF.s_ec3, PF.s_lg0, PF.s_lg1, PF.s_lg2, PF.s_lg3, PF.s_lg4, PF.s_w0, PF.s_w1, PF.s_fre, PF.s_fre1, PF.s_fre2, PF.s_fre3, PF.s_app, PF.s_app1, PF.s_app2, PF.s_app3, PF.s_pop, PF.s_pop1, PF.s_pop2, PF.s_whl, PF.s_wh1, PF.s_wh2, PF.s_wh3, PF.s_wh4, PF.s_nn, PF.s_nn1, PF.s_nnp, PF.s_nnn, PF.s_tol, PF.s_tol2, PF.s_tol3, PF.s_tup, PF.s_tup2, PF.s_len, PF.s_len2, PF.s_all, PF.at_pt, PF.at_pv, PF.g_s0, PF.g_s1, PF.g_sa, List.length_map, f12, b12]
    refine n2 ?_ ?_ <;> simp only [mP, mR, wA, wB] <;> grind
theorem lsign {k : Nat} {m a b : Int} (hm : Sz m) (wa : intBits a ≤ 20000) (wb : intBits b ≤ 20000) : callK Q (k + 1) 13 [.int m, nu a b] = .ok (.im (.int (sgn (a * 1000000000000000000000000000000 + b * wT m)))) := by
  have e : opI .pow 10 30 = .ok 1000000000000000000000000000000 := rfl
  have w1 : intBits (1000000000000000000000000000000 : Int) ≤ 200 := by decide
  have w2 : intBits (1414213562373095048801688724209 : Int) ≤ 200 := by decide
  have w3 : intBits (1618033988749894848204586834365 : Int) ≤ 200 := by decide
  have w4 : intBits (1732050807568877293527446341505 : Int) ≤ 200 := by decide
  have w5 : intBits (0 : Int) ≤ 200 := by decide
  rw [call_f (f := f13) rfl k _ rfl]
  rcases hm with rfl | rfl | rfl | rfl | rfl <;> simp -implicitDefEqProofs (maxSteps := 400000) (disch := (first | with_reducible assumption | (with_reducible apply PF.mulOk_of <;> (repeat' (first | with_reducible assumption | with_reducible (apply PyProof.Rows.bits_add) | with_reducible (apply PyProof.Rows.bits_sub) | with_reducible (apply PyProof.Rows.bits_mul) | with_reducible (apply PyProof.Rows.bits_neg) | with_reducible (apply PF.bits_div (by first | omega | decide +kernel)) | with_reducible (apply PF.bits_mod (by first | omega | decide +kernel)) | (with_reducible show _ + _ ≤ 134217728; decide +kernel) | exact Nat.le_refl _))) | ((with_reducible apply PF.lt_len); with_unfolding_all rfl) | omega | decide +kernel)) only [PF.opI_mul, PF.opI_mod, PF.opI_fdiv, PF.ixT0, PF.ixT1, PF.cmp_eq, PF.cmp_ne, PF.cmp_lt, PF.cmp_le, PF.cmp_gt, PF.cmp_ge, PF.cmp_t2, PF.cmp_n2, PF.cmp_tt2, PF.cmp_nt2, PF.isInsT, PF.q_lo, PF.q_s1, PF.q_s2, PF.q_non, PF.q_bl, PF.q_int, PF.q_str, PF.q_gl, PF.q_bin, PF.q_bin1, PF.q_bin2, PF.q_kI, PF.q_kB, PF.q_kIm, PF.q_kFz, PF.q_neg, PF.q_neg1, PF.q_not, PF.q_not1, PF.q_cmp, PF.q_cmp1, PF.q_cmp2, PF.q_isN, PF.q_isN1, PF.q_and, PF.q_and1, PF.q_and2, PF.q_or, PF.q_or1, PF.q_or2, PF.q_ite, PF.q_ite1, PF.q_ite2, PF.q_tup, PF.q_tup1, PF.q_tup2, PF.q_lst, PF.q_lst1, PF.q_lst2, PF.q_ix, PF.q_ix1, PF.q_ix2, PF.q_call, PF.q_call1, PF.q_meth, PF.q_meth1, PF.q_meth2, PF.q_meth3, PF.q_fld, PF.q_fld1, PF.q_blt, PF.q_blt1, PF.q_isi, PF.q_isi0, PF.q_vs0, PF.q_vs1, PF.q_vs2, PF.q_vs3, PF.q_vb0, PF.q_vb1, PF.q_vb2, PF.q_vb3, PF.q_itE, PF.q_itE1, PF.q_it1, PF.q_it2, PF.q_it3, PF.q_asg, PF.q_asg0, PF.q_nx, PF.q_par, PF.q_par1, PF.q_ret, PF.q_ret1, PF.q_retN, PF.q_iff, PF.q_iff1, PF.q_iff2, PF.q_for, PF.q_for1, PF.q_fg0, PF.q_fg1, PF.q_fb, PF.q_f1, PF.q_f2, PF.q_rse, PF.q_es0, PF.q_es1, PF.q_cn, PF.q_cr, PF.q_rk1, PF.q_rk2, PF.q_see1, PF.q_see2, PF.q_see3, PF.q_fz1, PF.q_fz2, PF.q_out1, PF.q_out2, PF.q_out3, PF.q_op, PF.q_add, PF.q_sub, PF.q_isi1, PF.q_isi2, PF.q_isi3, PF.q_isi4, PF.q_isi5, PF.q_asg1, PF.q_asg2, PF.q_put1, PF.q_put2, PF.q_bnm, PF.q_bt0, PF.q_bt1, PF.q_bt2, PF.q_tg1, PF.q_tg2, PF.q_its1, PF.q_its2, PF.q_len1, PF.q_len2, PF.q_bint, PF.q_fld0, PF.q_ctx, PF.q_cgl, PF.q_cwf, PF.q_size, List.map_cons, List.map_nil, Nat.reduceSub, Nat.sub_self, List.replicate, List.append_nil, List.cons_append, List.nil_append, List.length_cons, List.length_nil, List.getElem?_cons_zero, List.getElem?_cons_succ, List.set_cons_zero, List.set_cons_succ, Nat.reduceAdd, Nat.reduceLT, Nat.reduceLeDiff, Int.cast_ofNat_Int, Int.reduceEq, Int.reduceLT, Int.reduceLE, decide_true, decide_false, if_true, Bool.false_eq_true, if_false, Bool.not_true, Bool.not_false, Bool.and_true, Bool.true_and, Bool.or_true, Bool.or_false, Bool.and_self, ite_true, ite_false, PF.g_nu, PF.g_pt, PF.g_n0, PF.g_n1, PF.g_p0, PF.g_p1, PF.g_pi, PF.g_pa, PF.g_pb, PF.g_fi, PF.g_ff, PF.g_ce, PF.g_cn, PF.g_pe, PF.g_pn, PF.s_lc, PF.s_lc1, PF.s_lc2, PF.s_lc3, PF.s_fI, PF.s_fI1, PF.s_fI2, PF.s_fI3, PF.s_fI4, PF.s_ec0, PF.s_ec1, PF.s_ec2, PF.s_ec3, PF.s_lg0, PF.s_lg1, PF.s_lg2, PF.s_lg3, PF.s_lg4, PF.s_w0, PF.s_w1, PF.s_fre, PF.s_fre1, PF.s_fre2, PF.s_fre3, PF.s_app, PF.s_app1, PF.s_app2, PF.s_app3, PF.s_pop, PF.s_pop1, PF.s_pop2, PF.s_whl, PF.s_wh1, PF.s_wh2, PF.s_wh3, PF.s_wh4, PF.s_nn, PF.s_nn1, PF.s_nnp, PF.s_nnn, PF.s_tol, PF.s_tol2, PF.s_tol3, PF.s_tup, PF.s_tup2, PF.s_len, PF.s_len2, PF.s_all, PF.at_pt, PF.at_pv, PF.g_s0, PF.g_s1, PF.g_sa, List.length_map, f13, b13, e] <;> rfl
theorem lless {k : Nat} {p q : Pt} : callK Q (k + 1) 15 [pt p, pt q] = .ok (.im (pt (sbP p q))) := by
  rw [call_f (f := f15) rfl k _ rfl]
  simp -implicitDefEqProofs (maxSteps := 400000) (disch := (first | with_reducible assumption | (with_reducible apply PF.mulOk_of <;> (repeat' (first | with_reducible assumption | with_reducible (apply PyProof.Rows.bits_add) | with_reducible (apply PyProof.Rows.bits_sub) | with_reducible (apply PyProof.Rows.bits_mul) | with_reducible (apply PyProof.Rows.bits_neg) | with_reducible (apply PF.bits_div (by first | omega | decide +kernel)) | with_reducible (apply PF.bits_mod (by first | omega | decide +kernel)) | (with_reducible show _ + _ ≤ 134217728; decide +kernel) | exact Nat.le_refl _))) | ((with_reducible apply PF.lt_len); with_unfolding_all rfl) | omega | decide +kernel)) only [PF.opI_mul, PF.opI_mod, PF.opI_fdiv, PF.ixT0, PF.ixT1, PF.cmp_eq, PF.cmp_ne, PF.cmp_lt, PF.cmp_le, PF.cmp_gt, PF.cmp_ge, PF.cmp_t2, PF.cmp_n2, PF.cmp_tt2, PF.cmp_nt2, PF.isInsT, PF.q_lo, PF.q_s1, PF.q_s2, PF.q_non, PF.q_bl, PF.q_int, PF.q_str, PF.q_gl, PF.q_bin, PF.q_bin1, PF.q_bin2, PF.q_kI, PF.q_kB, PF.q_kIm, PF.q_kFz, PF.q_neg, PF.q_neg1, PF.q_not, PF.q_not1, PF.q_cmp, PF.q_cmp1, PF.q_cmp2, PF.q_isN, PF.q_isN1, PF.q_and, PF.q_and1, PF.q_and2, PF.q_or, PF.q_or1, PF.q_or2, PF.q_ite, PF.q_ite1, PF.q_ite2, PF.q_tup, PF.q_tup1, PF.q_tup2, PF.q_lst, PF.q_lst1, PF.q_lst2, PF.q_ix, PF.q_ix1, PF.q_ix2, PF.q_call, PF.q_call1, PF.q_meth, PF.q_meth1, PF.q_meth2, PF.q_meth3, PF.q_fld, PF.q_fld1, PF.q_blt, PF.q_blt1, PF.q_isi, PF.q_isi0, PF.q_vs0, PF.q_vs1, PF.q_vs2, PF.q_vs3, PF.q_vb0, PF.q_vb1, PF.q_vb2, PF.q_vb3, PF.q_itE, PF.q_itE1, PF.q_it1, PF.q_it2, PF.q_it3, PF.q_asg, PF.q_asg0, PF.q_nx, PF.q_par, PF.q_par1, PF.q_ret, PF.q_ret1, PF.q_retN, PF.q_iff, PF.q_iff1, PF.q_iff2, PF.q_for, PF.q_for1, PF.q_fg0, PF.q_fg1, PF.q_fb, PF.q_f1, PF.q_f2, PF.q_rse, PF.q_es0, PF.q_es1, PF.q_cn, PF.q_cr, PF.q_rk1, PF.q_rk2, PF.q_see1, PF.q_see2, PF.q_see3, PF.q_fz1, PF.q_fz2, PF.q_out1, PF.q_out2, PF.q_out3, PF.q_op, PF.q_add, PF.q_sub, PF.q_isi1, PF.q_isi2, PF.q_isi3, PF.q_isi4, PF.q_isi5, PF.q_asg1, PF.q_asg2, PF.q_put1, PF.q_put2, PF.q_bnm, PF.q_bt0, PF.q_bt1, PF.q_bt2, PF.q_tg1, PF.q_tg2, PF.q_its1, PF.q_its2, PF.q_len1, PF.q_len2, PF.q_bint, PF.q_fld0, PF.q_ctx, PF.q_cgl, PF.q_cwf, PF.q_size, List.map_cons, List.map_nil, Nat.reduceSub, Nat.sub_self, List.replicate, List.append_nil, List.cons_append, List.nil_append, List.length_cons, List.length_nil, List.getElem?_cons_zero, List.getElem?_cons_succ, List.set_cons_zero, List.set_cons_succ, Nat.reduceAdd, Nat.reduceLT, Nat.reduceLeDiff, Int.cast_ofNat_Int, Int.reduceEq, Int.reduceLT, Int.reduceLE, decide_true, decide_false, if_true, Bool.false_eq_true, if_false, Bool.not_true, Bool.not_false, Bool.and_true, Bool.true_and, Bool.or_true, Bool.or_false, Bool.and_self, ite_true, ite_false, PF.g_nu, PF.g_pt, PF.g_n0, PF.g_n1, PF.g_p0, PF.g_p1, PF.g_pi, PF.g_pa, PF.g_pb, PF.g_fi, PF.g_ff, PF.g_ce, PF.g_cn, PF.g_pe, PF.g_pn, PF.s_lc, PF.s_lc1, PF.s_lc2, PF.s_lc3, PF.s_fI, PF.s_fI1, PF.s_fI2, PF.s_fI3, PF.s_fI4, PF.s_ec0, PF.s_ec1, PF.s_ec2, PF.s_ec3, PF.s_lg0, PF.s_lg1, PF.s_lg2, PF.s_lg3, PF.s_lg4, PF.s_w0, PF.s_w1, PF.s_fre, PF.s_fre1, PF.s_fre2, PF.s_fre3, PF.s_app, PF.s_app1, PF.s_app2, PF.s_app3, PF.s_pop, PF.s_pop1, PF.s_pop2, PF.s_whl, PF.s_wh1, PF.s_wh2, PF.s_wh3, PF.s_wh4, PF.s_nn, PF.s_nn1, PF.s_nnp, PF.s_nnn, PF.s_tol, PF.s_tol2, PF.s_tol3, PF.s_tup, PF.s_tup2, PF.s_len, PF.s_len2, PF.s_all, PF.at_pt, PF.at_pv, PF.g_s0, PF.g_s1, PF.g_sa, List.length_map, f15, b15]
  rfl
theorem lsum {k : Nat} {p q : Pt} : callK Q (k + 1) 14 [pt p, pt q] = .ok (.im (pt (adP p q))) := by
  rw [call_f (f := f14) rfl k _ rfl]
  simp -implicitDefEqProofs (maxSteps := 400000) (disch := (first | with_reducible assumption | (with_reducible apply PF.mulOk_of <;> (repeat' (first | with_reducible assumption | with_reducible (apply PyProof.Rows.bits_add) | with_reducible (apply PyProof.Rows.bits_sub) | with_reducible (apply PyProof.Rows.bits_mul) | with_reducible (apply PyProof.Rows.bits_neg) | with_reducible (apply PF.bits_div (by first | omega | decide +kernel)) | with_reducible (apply PF.bits_mod (by first | omega | decide +kernel)) | (with_reducible show _ + _ ≤ 134217728; decide +kernel) | exact Nat.le_refl _))) | ((with_reducible apply PF.lt_len); with_unfolding_all rfl) | omega | decide +kernel)) only [PF.opI_mul, PF.opI_mod, PF.opI_fdiv, PF.ixT0, PF.ixT1, PF.cmp_eq, PF.cmp_ne, PF.cmp_lt, PF.cmp_le, PF.cmp_gt, PF.cmp_ge, PF.cmp_t2, PF.cmp_n2, PF.cmp_tt2, PF.cmp_nt2, PF.isInsT, PF.q_lo, PF.q_s1, PF.q_s2, PF.q_non, PF.q_bl, PF.q_int, PF.q_str, PF.q_gl, PF.q_bin, PF.q_bin1, PF.q_bin2, PF.q_kI, PF.q_kB, PF.q_kIm, PF.q_kFz, PF.q_neg, PF.q_neg1, PF.q_not, PF.q_not1, PF.q_cmp, PF.q_cmp1, PF.q_cmp2, PF.q_isN, PF.q_isN1, PF.q_and, PF.q_and1, PF.q_and2, PF.q_or, PF.q_or1, PF.q_or2, PF.q_ite, PF.q_ite1, PF.q_ite2, PF.q_tup, PF.q_tup1, PF.q_tup2, PF.q_lst, PF.q_lst1, PF.q_lst2, PF.q_ix, PF.q_ix1, PF.q_ix2, PF.q_call, PF.q_call1, PF.q_meth, PF.q_meth1, PF.q_meth2, PF.q_meth3, PF.q_fld, PF.q_fld1, PF.q_blt, PF.q_blt1, PF.q_isi, PF.q_isi0, PF.q_vs0, PF.q_vs1, PF.q_vs2, PF.q_vs3, PF.q_vb0, PF.q_vb1, PF.q_vb2, PF.q_vb3, PF.q_itE, PF.q_itE1, PF.q_it1, PF.q_it2, PF.q_it3, PF.q_asg, PF.q_asg0, PF.q_nx, PF.q_par, PF.q_par1, PF.q_ret, PF.q_ret1, PF.q_retN, PF.q_iff, PF.q_iff1, PF.q_iff2, PF.q_for, PF.q_for1, PF.q_fg0, PF.q_fg1, PF.q_fb, PF.q_f1, PF.q_f2, PF.q_rse, PF.q_es0, PF.q_es1, PF.q_cn, PF.q_cr, PF.q_rk1, PF.q_rk2, PF.q_see1, PF.q_see2, PF.q_see3, PF.q_fz1, PF.q_fz2, PF.q_out1, PF.q_out2, PF.q_out3, PF.q_op, PF.q_add, PF.q_sub, PF.q_isi1, PF.q_isi2, PF.q_isi3, PF.q_isi4, PF.q_isi5, PF.q_asg1, PF.q_asg2, PF.q_put1, PF.q_put2, PF.q_bnm, PF.q_bt0, PF.q_bt1, PF.q_bt2, PF.q_tg1, PF.q_tg2, PF.q_its1, PF.q_its2, PF.q_len1, PF.q_len2, PF.q_bint, PF.q_fld0, PF.q_ctx, PF.q_cgl, PF.q_cwf, PF.q_size, List.map_cons, List.map_nil, Nat.reduceSub, Nat.sub_self, List.replicate, List.append_nil, List.cons_append, List.nil_append, List.length_cons, List.length_nil, List.getElem?_cons_zero, List.getElem?_cons_succ, List.set_cons_zero, List.set_cons_succ, Nat.reduceAdd, Nat.reduceLT, Nat.reduceLeDiff, Int.cast_ofNat_Int, Int.reduceEq, Int.reduceLT, Int.reduceLE, decide_true, decide_false, if_true, Bool.false_eq_true, if_false, Bool.not_true, Bool.not_false, Bool.and_true, Bool.true_and, Bool.or_true, Bool.or_false, Bool.and_self, ite_true, ite_false, PF.g_nu, PF.g_pt, PF.g_n0, PF.g_n1, PF.g_p0, PF.g_p1, PF.g_pi, PF.g_pa, PF.g_pb, PF.g_fi, PF.g_ff, PF.g_ce, PF.g_cn, PF.g_pe, PF.g_pn, PF.s_lc, PF.s_lc1, PF.s_lc2, PF.s_lc3, PF.s_fI, PF.s_fI1, PF.s_fI2, PF.s_fI3, PF.s_fI4, PF.s_ec0, PF.s_ec1, PF.s_ec2, PF.s_ec3, PF.s_lg0, PF.s_lg1, PF.s_lg2, PF.s_lg3, PF.s_lg4, PF.s_w0, PF.s_w1, PF.s_fre, PF.s_fre1, PF.s_fre2, PF.s_fre3, PF.s_app, PF.s_app1, PF.s_app2, PF.s_app3, PF.s_pop, PF.s_pop1, PF.s_pop2, PF.s_whl, PF.s_wh1, PF.s_wh2, PF.s_wh3, PF.s_wh4, PF.s_nn, PF.s_nn1, PF.s_nnp, PF.s_nnn, PF.s_tol, PF.s_tol2, PF.s_tol3, PF.s_tup, PF.s_tup2, PF.s_len, PF.s_len2, PF.s_all, PF.at_pt, PF.at_pv, PF.g_s0, PF.g_s1, PF.g_sa, List.length_map, f14, b14]
  rfl
theorem lhand {k : Nat} {m : Int} (hm : Sz m) {p q r : Pt} (hp : Gd m p) (hq : Gd m q) (hr : Gd m r) : callK Q (k + 2) 16 [.int m, pt p, pt q, pt r] = .ok (.im (.int (hd m p q r))) := by
  have o1 := hq.1.sb hp.1
  have o2 := hr.1.sb hp.1
  have b1 := (hq.2.sb hp.2).bt (by decide)
  have b2 := (hr.2.sb hp.2).bt (by decide)
  have t1 := ltimes (k := k) hm (fun h => (o1 h).1) (fun h => (o2 h).2) (bits_of_le b1.1 (by decide)) (bits_of_le b1.2.1 (by decide)) (bits_of_le b2.2.2.1 (by decide)) (bits_of_le b2.2.2.2 (by decide))
  have t2 := ltimes (k := k) hm (fun h => (o1 h).2) (fun h => (o2 h).1) (bits_of_le b1.2.2.1 (by decide)) (bits_of_le b1.2.2.2 (by decide)) (bits_of_le b2.1 (by decide)) (bits_of_le b2.2.1 (by decide))
  have s := lsign (k := k) (a := cX m (sbP q p) (sbP r p)) (b := cY m (sbP q p) (sbP r p)) hm (bits_of_le (bits_of_bd (bd_cX (hq.2.sb hp.2) (hr.2.sb hp.2)) (by decide)) (by decide)) (bits_of_le (bits_of_bd (bd_cY (hq.2.sb hp.2) (hr.2.sb hp.2)) (by decide)) (by decide))
  rw [hd_near hm hp hq hr] at s
  unfold cX cY at s
  rw [call_f (f := f16) rfl (k + 1) _ rfl]
  simp -implicitDefEqProofs (maxSteps := 400000) (disch := (first | with_reducible assumption | (with_reducible apply PF.mulOk_of <;> (repeat' (first | with_reducible assumption | with_reducible (apply PyProof.Rows.bits_add) | with_reducible (apply PyProof.Rows.bits_sub) | with_reducible (apply PyProof.Rows.bits_mul) | with_reducible (apply PyProof.Rows.bits_neg) | with_reducible (apply PF.bits_div (by first | omega | decide +kernel)) | with_reducible (apply PF.bits_mod (by first | omega | decide +kernel)) | (with_reducible show _ + _ ≤ 134217728; decide +kernel) | exact Nat.le_refl _))) | ((with_reducible apply PF.lt_len); with_unfolding_all rfl) | omega | decide +kernel)) only [PF.opI_mul, PF.opI_mod, PF.opI_fdiv, PF.ixT0, PF.ixT1, PF.cmp_eq, PF.cmp_ne, PF.cmp_lt, PF.cmp_le, PF.cmp_gt, PF.cmp_ge, PF.cmp_t2, PF.cmp_n2, PF.cmp_tt2, PF.cmp_nt2, PF.isInsT, PF.q_lo, PF.q_s1, PF.q_s2, PF.q_non, PF.q_bl, PF.q_int, PF.q_str, PF.q_gl, PF.q_bin, PF.q_bin1, PF.q_bin2, PF.q_kI, PF.q_kB, PF.q_kIm, PF.q_kFz, PF.q_neg, PF.q_neg1, PF.q_not, PF.q_not1, PF.q_cmp, PF.q_cmp1, PF.q_cmp2, PF.q_isN, PF.q_isN1, PF.q_and, PF.q_and1, PF.q_and2, PF.q_or, PF.q_or1, PF.q_or2, PF.q_ite, PF.q_ite1, PF.q_ite2, PF.q_tup, PF.q_tup1, PF.q_tup2, PF.q_lst, PF.q_lst1, PF.q_lst2, PF.q_ix, PF.q_ix1, PF.q_ix2, PF.q_call, PF.q_call1, PF.q_meth, PF.q_meth1, PF.q_meth2, PF.q_meth3, PF.q_fld, PF.q_fld1, PF.q_blt, PF.q_blt1, PF.q_isi, PF.q_isi0, PF.q_vs0, PF.q_vs1, PF.q_vs2, PF.q_vs3, PF.q_vb0, PF.q_vb1, PF.q_vb2, PF.q_vb3, PF.q_itE, PF.q_itE1, PF.q_it1, PF.q_it2, PF.q_it3, PF.q_asg, PF.q_asg0, PF.q_nx, PF.q_par, PF.q_par1, PF.q_ret, PF.q_ret1, PF.q_retN, PF.q_iff, PF.q_iff1, PF.q_iff2, PF.q_for, PF.q_for1, PF.q_fg0, PF.q_fg1, PF.q_fb, PF.q_f1, PF.q_f2, PF.q_rse, PF.q_es0, PF.q_es1, PF.q_cn, PF.q_cr, PF.q_rk1, PF.q_rk2, PF.q_see1, PF.q_see2, PF.q_see3, PF.q_fz1, PF.q_fz2, PF.q_out1, PF.q_out2, PF.q_out3, PF.q_op, PF.q_add, PF.q_sub, PF.q_isi1, PF.q_isi2, PF.q_isi3, PF.q_isi4, PF.q_isi5, PF.q_asg1, PF.q_asg2, PF.q_put1, PF.q_put2, PF.q_bnm, PF.q_bt0, PF.q_bt1, PF.q_bt2, PF.q_tg1, PF.q_tg2, PF.q_its1, PF.q_its2, PF.q_len1, PF.q_len2, PF.q_bint, PF.q_fld0, PF.q_ctx, PF.q_cgl, PF.q_cwf, PF.q_size, List.map_cons, List.map_nil, Nat.reduceSub, Nat.sub_self, List.replicate, List.append_nil, List.cons_append, List.nil_append, List.length_cons, List.length_nil, List.getElem?_cons_zero, List.getElem?_cons_succ, List.set_cons_zero, List.set_cons_succ, Nat.reduceAdd, Nat.reduceLT, Nat.reduceLeDiff, Int.cast_ofNat_Int, Int.reduceEq, Int.reduceLT, Int.reduceLE, decide_true, decide_false, if_true, Bool.false_eq_true, if_false, Bool.not_true, Bool.not_false, Bool.and_true, Bool.true_and, Bool.or_true, Bool.or_false, Bool.and_self, ite_true, ite_false, PF.g_nu, PF.g_pt, PF.g_n0, PF.g_n1, PF.g_p0, PF.g_p1, PF.g_pi, PF.g_pa, PF.g_pb, PF.g_fi, PF.g_ff, PF.g_ce, PF.g_cn, PF.g_pe, PF.g_pn, PF.s_lc, PF.s_lc1, PF.s_lc2, PF.s_lc3, PF.s_fI, PF.s_fI1, PF.s_fI2, PF.s_fI3, PF.s_fI4, PF.s_ec0, PF.s_ec1, PF.s_ec2, PF.s_ec3, PF.s_lg0, PF.s_lg1, PF.s_lg2, PF.s_lg3, PF.s_lg4, PF.s_w0, PF.s_w1, PF.s_fre, PF.s_fre1, PF.s_fre2, PF.s_fre3, PF.s_app, PF.s_app1, PF.s_app2, PF.s_app3, PF.s_pop, PF.s_pop1, PF.s_pop2, PF.s_whl, PF.s_wh1, PF.s_wh2, PF.s_wh3, PF.s_wh4, PF.s_nn, PF.s_nn1, PF.s_nnp, PF.s_nnn, PF.s_tol, PF.s_tol2, PF.s_tol3, PF.s_tup, PF.s_tup2, PF.s_len, PF.s_len2, PF.s_all, PF.at_pt, PF.at_pv, PF.g_s0, PF.g_s1, PF.g_sa, List.length_map, f16, b16, lless, t1, t2, s]
theorem lway_loop {k : Nat} {m : Int} (hm : Sz m) (s1 s2 : Sl) (z0 : m < 8 → d1 m 0 1 = 0) (y0 : intBits (d0 m 0 1) ≤ 30000) (y1 : intBits (d1 m 0 1) ≤ 30000) : ∀ (xs : List Tr) (p : Pt) (s6 s7 : Sl) (B : Nat), OkP m p → BtP B p → B + 4 * xs.length ≤ 20000 →
    ∃ s6' s7', forK (Q.ctx (k + 2)) (.nm 6) [.asg (.nm 7) (.call 12 [.lo 0, .lo 3, .lo 5]), .par 4 5 (.tup [.neg (.ix (.lo 5) (.int 0)), .neg (.ix (.lo 5) (.int 1))]) (.tup [.bin .add (.ix (.lo 4) (.int 0)) (.ix (.lo 7) (.int 0)), .bin .add (.ix (.lo 4) (.int 1)) (.ix (.lo 7) (.int 1))])] xs [.im (.int m), s1, s2, .im (nu (d0 m 0 1) (d1 m 0 1)), .im (nu p.x p.y), .im (nu p.u p.v), s6, s7] =
      .ok (.nx [.im (.int m), s1, s2, .im (nu (d0 m 0 1) (d1 m 0 1)), .im (nu (it m xs.length p).x (it m xs.length p).y), .im (nu (it m xs.length p).u (it m xs.length p).v), s6', s7'])
  | [], p, s6, s7, B, hp, w, h => ⟨s6, s7, rfl⟩
  | x :: xs, p, s6, s7, B, hp, w, h => by
    rw [List.length_cons] at h
    obtain ⟨s6', s7', e⟩ := lway_loop (k := k) hm s1 s2 z0 y0 y1 xs (stp m p) (.im x) (.im (nu (Wp m p.u p.v) (Wq m p.u p.v))) (B + 4) hp.stp w.stp (by omega)
    have t := ltimes (k := k + 1) hm z0 (fun h8 => (hp h8).2) y0 y1 (bits_of_le w.2.2.1 (by omega)) (bits_of_le w.2.2.2 (by omega))
    rw [(num_w hm (fun h8 => (hp h8).2)).1, (num_w hm (fun h8 => (hp h8).2)).2] at t
    refine ⟨s6', s7', ?_⟩
    rw [show (stp m p).x = -p.u from rfl, show (stp m p).y = -p.v from rfl, show (stp m p).u = p.x + Wp m p.u p.v from rfl, show (stp m p).v = p.y + Wq m p.u p.v from rfl] at e
    simp -implicitDefEqProofs (maxSteps := 400000) (disch := (first | with_reducible assumption | (with_reducible apply PF.mulOk_of <;> (repeat' (first | with_reducible assumption | with_reducible (apply PyProof.Rows.bits_add) | with_reducible (apply PyProof.Rows.bits_sub) | with_reducible (apply PyProof.Rows.bits_mul) | with_reducible (apply PyProof.Rows.bits_neg) | with_reducible (apply PF.bits_div (by first | omega | decide +kernel)) | with_reducible (apply PF.bits_mod (by first | omega | decide +kernel)) | (with_reducible show _ + _ ≤ 134217728; decide +kernel) | exact Nat.le_refl _))) | ((with_reducible apply PF.lt_len); with_unfolding_all rfl) | omega | decide +kernel)) only [PF.opI_mul, PF.opI_mod, PF.opI_fdiv, PF.ixT0, PF.ixT1, PF.cmp_eq, PF.cmp_ne, PF.cmp_lt, PF.cmp_le, PF.cmp_gt, PF.cmp_ge, PF.cmp_t2, PF.cmp_n2, PF.cmp_tt2, PF.cmp_nt2, PF.isInsT, PF.q_lo, PF.q_s1, PF.q_s2, PF.q_non, PF.q_bl, PF.q_int, PF.q_str, PF.q_gl, PF.q_bin, PF.q_bin1, PF.q_bin2, PF.q_kI, PF.q_kB, PF.q_kIm, PF.q_kFz, PF.q_neg, PF.q_neg1, PF.q_not, PF.q_not1, PF.q_cmp, PF.q_cmp1, PF.q_cmp2, PF.q_isN, PF.q_isN1, PF.q_and, PF.q_and1, PF.q_and2, PF.q_or, PF.q_or1, PF.q_or2, PF.q_ite, PF.q_ite1, PF.q_ite2, PF.q_tup, PF.q_tup1, PF.q_tup2, PF.q_lst, PF.q_lst1, PF.q_lst2, PF.q_ix, PF.q_ix1, PF.q_ix2, PF.q_call, PF.q_call1, PF.q_meth, PF.q_meth1, PF.q_meth2, PF.q_meth3, PF.q_fld, PF.q_fld1, PF.q_blt, PF.q_blt1, PF.q_isi, PF.q_isi0, PF.q_vs0, PF.q_vs1, PF.q_vs2, PF.q_vs3, PF.q_vb0, PF.q_vb1, PF.q_vb2, PF.q_vb3, PF.q_itE, PF.q_itE1, PF.q_it1, PF.q_it2, PF.q_it3, PF.q_asg, PF.q_asg0, PF.q_nx, PF.q_par, PF.q_par1, PF.q_ret, PF.q_ret1, PF.q_retN, PF.q_iff, PF.q_iff1, PF.q_iff2, PF.q_for, PF.q_for1, PF.q_fg0, PF.q_fg1, PF.q_fb, PF.q_f1, PF.q_f2, PF.q_rse, PF.q_es0, PF.q_es1, PF.q_cn, PF.q_cr, PF.q_rk1, PF.q_rk2, PF.q_see1, PF.q_see2, PF.q_see3, PF.q_fz1, PF.q_fz2, PF.q_out1, PF.q_out2, PF.q_out3, PF.q_op, PF.q_add, PF.q_sub, PF.q_isi1, PF.q_isi2, PF.q_isi3, PF.q_isi4, PF.q_isi5, PF.q_asg1, PF.q_asg2, PF.q_put1, PF.q_put2, PF.q_bnm, PF.q_bt0, PF.q_bt1, PF.q_bt2, PF.q_tg1, PF.q_tg2, PF.q_its1, PF.q_its2, PF.q_len1, PF.q_len2, PF.q_bint, PF.q_fld0, PF.q_ctx, PF.q_cgl, PF.q_cwf, PF.q_size, List.map_cons, List.map_nil, Nat.reduceSub, Nat.sub_self, List.replicate, List.append_nil, List.cons_append, List.nil_append, List.length_cons, List.length_nil, List.getElem?_cons_zero, List.getElem?_cons_succ, List.set_cons_zero, List.set_cons_succ, Nat.reduceAdd, Nat.reduceLT, Nat.reduceLeDiff, Int.cast_ofNat_Int, Int.reduceEq, Int.reduceLT, Int.reduceLE, decide_true, decide_false, if_true, Bool.false_eq_true, if_false, Bool.not_true, Bool.not_false, Bool.and_true, Bool.true_and, Bool.or_true, Bool.or_false, Bool.and_self, ite_true, ite_false, PF.g_nu, PF.g_pt, PF.g_n0, PF.g_n1, PF.g_p0, PF.g_p1, PF.g_pi, PF.g_pa, PF.g_pb, PF.g_fi, PF.g_ff, PF.g_ce, PF.g_cn, PF.g_pe, PF.g_pn, PF.s_lc, PF.s_lc1, PF.s_lc2, PF.s_lc3, PF.s_fI, PF.s_fI1, PF.s_fI2, PF.s_fI3, PF.s_fI4, PF.s_ec0, PF.s_ec1, PF.s_ec2, PF.s_ec3, PF.s_lg0, PF.s_lg1, PF.s_lg2, PF.s_lg3, PF.s_lg4, PF.s_w0, PF.s_w1, PF.s_fre, PF.s_fre1, PF.s_fre2, PF.s_fre3, PF.s_app, PF.s_app1, PF.s_app2, PF.s_app3, PF.s_pop, PF.s_pop1, PF.s_pop2, PF.s_whl, PF.s_wh1, PF.s_wh2, PF.s_wh3, PF.s_wh4, PF.s_nn, PF.s_nn1, PF.s_nnp, PF.s_nnn, PF.s_tol, PF.s_tol2, PF.s_tol3, PF.s_tup, PF.s_tup2, PF.s_len, PF.s_len2, PF.s_all, PF.at_pt, PF.at_pv, PF.g_s0, PF.g_s1, PF.g_sa, List.length_map, t, e, it1]
theorem lway {k : Nat} {m t a b : Int} (hm : Sz m) (hb : m < 8 → b = 0) (wa : intBits a ≤ 64) (wb : intBits b ≤ 64) : callK Q (k + 3) 17 [.int m, .int t, nu a b] = .ok (.im (pt (wy m t a b))) := by
  have m0 : (0 : Int) < m := by unfold Sz at hm; omega
  have z0 : m < 8 → d1 m 0 1 = 0 := fun h => by
    unfold d1
    rw [if_pos (by unfold Sz at hm; omega)]
  have y0 : intBits (d0 m 0 1) ≤ 30000 := by
    unfold d0
    split <;> decide
  have y1 : intBits (d1 m 0 1) ≤ 30000 := by
    unfold d1
    split <;> decide
  obtain ⟨r0, r1⟩ := modr hm t
  have l := rangeT_len 0 (t % m)
  have hs : smallI (t % m) = true := by
    unfold smallI
    rw [Bool.and_eq_true]
    exact ⟨decide_eq_true (by omega), decide_eq_true (by omega)⟩
  have fin : ∀ s3 : Int × Int, s3 = (d0 m 0 1, d1 m 0 1) → kEnd (kCont (Q.ctx (k + 2)) [.ret (.tup [.lo 4, .lo 5])] (forK (Q.ctx (k + 2)) (.nm 6) [.asg (.nm 7) (.call 12 [.lo 0, .lo 3, .lo 5]), .par 4 5 (.tup [.neg (.ix (.lo 5) (.int 0)), .neg (.ix (.lo 5) (.int 1))]) (.tup [.bin .add (.ix (.lo 4) (.int 0)) (.ix (.lo 7) (.int 0)), .bin .add (.ix (.lo 4) (.int 1)) (.ix (.lo 7) (.int 1))])] (rangeT 0 (t % m)) [.im (.int m), .im (.int t), .im (nu a b), .im (nu s3.1 s3.2), .im (nu a b), .im (nu 0 0), .un, .un])) = .ok (.im (pt (wy m t a b))) := by
    rintro _ rfl
    obtain ⟨s6, s7, e⟩ := lway_loop (k := k) hm (.im (.int t)) (.im (nu a b)) z0 y0 y1 (rangeT 0 (t % m)) ⟨a, b, 0, 0⟩ .un .un 64 (fun h => ⟨hb h, rfl⟩) ⟨wa, wb, show intBits 0 ≤ 64 by decide, show intBits 0 ≤ 64 by decide⟩ (by rw [l]; omega)
    rw [l, tuP] at e
    simp -implicitDefEqProofs (maxSteps := 400000) (disch := (first | with_reducible assumption | (with_reducible apply PF.mulOk_of <;> (repeat' (first | with_reducible assumption | with_reducible (apply PyProof.Rows.bits_add) | with_reducible (apply PyProof.Rows.bits_sub) | with_reducible (apply PyProof.Rows.bits_mul) | with_reducible (apply PyProof.Rows.bits_neg) | with_reducible (apply PF.bits_div (by first | omega | decide +kernel)) | with_reducible (apply PF.bits_mod (by first | omega | decide +kernel)) | (with_reducible show _ + _ ≤ 134217728; decide +kernel) | exact Nat.le_refl _))) | ((with_reducible apply PF.lt_len); with_unfolding_all rfl) | omega | decide +kernel)) only [PF.opI_mul, PF.opI_mod, PF.opI_fdiv, PF.ixT0, PF.ixT1, PF.cmp_eq, PF.cmp_ne, PF.cmp_lt, PF.cmp_le, PF.cmp_gt, PF.cmp_ge, PF.cmp_t2, PF.cmp_n2, PF.cmp_tt2, PF.cmp_nt2, PF.isInsT, PF.q_lo, PF.q_s1, PF.q_s2, PF.q_non, PF.q_bl, PF.q_int, PF.q_str, PF.q_gl, PF.q_bin, PF.q_bin1, PF.q_bin2, PF.q_kI, PF.q_kB, PF.q_kIm, PF.q_kFz, PF.q_neg, PF.q_neg1, PF.q_not, PF.q_not1, PF.q_cmp, PF.q_cmp1, PF.q_cmp2, PF.q_isN, PF.q_isN1, PF.q_and, PF.q_and1, PF.q_and2, PF.q_or, PF.q_or1, PF.q_or2, PF.q_ite, PF.q_ite1, PF.q_ite2, PF.q_tup, PF.q_tup1, PF.q_tup2, PF.q_lst, PF.q_lst1, PF.q_lst2, PF.q_ix, PF.q_ix1, PF.q_ix2, PF.q_call, PF.q_call1, PF.q_meth, PF.q_meth1, PF.q_meth2, PF.q_meth3, PF.q_fld, PF.q_fld1, PF.q_blt, PF.q_blt1, PF.q_isi, PF.q_isi0, PF.q_vs0, PF.q_vs1, PF.q_vs2, PF.q_vs3, PF.q_vb0, PF.q_vb1, PF.q_vb2, PF.q_vb3, PF.q_itE, PF.q_itE1, PF.q_it1, PF.q_it2, PF.q_it3, PF.q_asg, PF.q_asg0, PF.q_nx, PF.q_par, PF.q_par1, PF.q_ret, PF.q_ret1, PF.q_retN, PF.q_iff, PF.q_iff1, PF.q_iff2, PF.q_for, PF.q_for1, PF.q_fg0, PF.q_fg1, PF.q_fb, PF.q_f1, PF.q_f2, PF.q_rse, PF.q_es0, PF.q_es1, PF.q_cn, PF.q_cr, PF.q_rk1, PF.q_rk2, PF.q_see1, PF.q_see2, PF.q_see3, PF.q_fz1, PF.q_fz2, PF.q_out1, PF.q_out2, PF.q_out3, PF.q_op, PF.q_add, PF.q_sub, PF.q_isi1, PF.q_isi2, PF.q_isi3, PF.q_isi4, PF.q_isi5, PF.q_asg1, PF.q_asg2, PF.q_put1, PF.q_put2, PF.q_bnm, PF.q_bt0, PF.q_bt1, PF.q_bt2, PF.q_tg1, PF.q_tg2, PF.q_its1, PF.q_its2, PF.q_len1, PF.q_len2, PF.q_bint, PF.q_fld0, PF.q_ctx, PF.q_cgl, PF.q_cwf, PF.q_size, List.map_cons, List.map_nil, Nat.reduceSub, Nat.sub_self, List.replicate, List.append_nil, List.cons_append, List.nil_append, List.length_cons, List.length_nil, List.getElem?_cons_zero, List.getElem?_cons_succ, List.set_cons_zero, List.set_cons_succ, Nat.reduceAdd, Nat.reduceLT, Nat.reduceLeDiff, Int.cast_ofNat_Int, Int.reduceEq, Int.reduceLT, Int.reduceLE, decide_true, decide_false, if_true, Bool.false_eq_true, if_false, Bool.not_true, Bool.not_false, Bool.and_true, Bool.true_and, Bool.or_true, Bool.or_false, Bool.and_self, ite_true, ite_false, PF.g_nu, PF.g_pt, PF.g_n0, PF.g_n1, PF.g_p0, PF.g_p1, PF.g_pi, PF.g_pa, PF.g_pb, PF.g_fi, PF.g_ff, PF.g_ce, PF.g_cn, PF.g_pe, PF.g_pn, PF.s_lc, PF.s_lc1, PF.s_lc2, PF.s_lc3, PF.s_fI, PF.s_fI1, PF.s_fI2, PF.s_fI3, PF.s_fI4, PF.s_ec0, PF.s_ec1, PF.s_ec2, PF.s_ec3, PF.s_lg0, PF.s_lg1, PF.s_lg2, PF.s_lg3, PF.s_lg4, PF.s_w0, PF.s_w1, PF.s_fre, PF.s_fre1, PF.s_fre2, PF.s_fre3, PF.s_app, PF.s_app1, PF.s_app2, PF.s_app3, PF.s_pop, PF.s_pop1, PF.s_pop2, PF.s_whl, PF.s_wh1, PF.s_wh2, PF.s_wh3, PF.s_wh4, PF.s_nn, PF.s_nn1, PF.s_nnp, PF.s_nnn, PF.s_tol, PF.s_tol2, PF.s_tol3, PF.s_tup, PF.s_tup2, PF.s_len, PF.s_len2, PF.s_all, PF.at_pt, PF.at_pv, PF.g_s0, PF.g_s1, PF.g_sa, List.length_map, e]
    rfl
  rw [call_f (f := f17) rfl (k + 2) _ rfl]
  by_cases h6 : m = 6
  · subst h6
    have f := fin (1, 0) rfl
    simp -implicitDefEqProofs (maxSteps := 400000) (disch := (first | with_reducible assumption | (with_reducible apply PF.mulOk_of <;> (repeat' (first | with_reducible assumption | with_reducible (apply PyProof.Rows.bits_add) | with_reducible (apply PyProof.Rows.bits_sub) | with_reducible (apply PyProof.Rows.bits_mul) | with_reducible (apply PyProof.Rows.bits_neg) | with_reducible (apply PF.bits_div (by first | omega | decide +kernel)) | with_reducible (apply PF.bits_mod (by first | omega | decide +kernel)) | (with_reducible show _ + _ ≤ 134217728; decide +kernel) | exact Nat.le_refl _))) | ((with_reducible apply PF.lt_len); with_unfolding_all rfl) | omega | decide +kernel)) only [PF.opI_mul, PF.opI_mod, PF.opI_fdiv, PF.ixT0, PF.ixT1, PF.cmp_eq, PF.cmp_ne, PF.cmp_lt, PF.cmp_le, PF.cmp_gt, PF.cmp_ge, PF.cmp_t2, PF.cmp_n2, PF.cmp_tt2, PF.cmp_nt2, PF.isInsT, PF.q_lo, PF.q_s1, PF.q_s2, PF.q_non, PF.q_bl, PF.q_int, PF.q_str, PF.q_gl, PF.q_bin, PF.q_bin1, PF.q_bin2, PF.q_kI, PF.q_kB, PF.q_kIm, PF.q_kFz, PF.q_neg, PF.q_neg1, PF.q_not, PF.q_not1, PF.q_cmp, PF.q_cmp1, PF.q_cmp2, PF.q_isN, PF.q_isN1, PF.q_and, PF.q_and1, PF.q_and2, PF.q_or, PF.q_or1, PF.q_or2, PF.q_ite, PF.q_ite1, PF.q_ite2, PF.q_tup, PF.q_tup1, PF.q_tup2, PF.q_lst, PF.q_lst1, PF.q_lst2, PF.q_ix, PF.q_ix1, PF.q_ix2, PF.q_call, PF.q_call1, PF.q_meth, PF.q_meth1, PF.q_meth2, PF.q_meth3, PF.q_fld, PF.q_fld1, PF.q_blt, PF.q_blt1, PF.q_isi, PF.q_isi0, PF.q_vs0, PF.q_vs1, PF.q_vs2, PF.q_vs3, PF.q_vb0, PF.q_vb1, PF.q_vb2, PF.q_vb3, PF.q_itE, PF.q_itE1, PF.q_it1, PF.q_it2, PF.q_it3, PF.q_asg, PF.q_asg0, PF.q_nx, PF.q_par, PF.q_par1, PF.q_ret, PF.q_ret1, PF.q_retN, PF.q_iff, PF.q_iff1, PF.q_iff2, PF.q_for, PF.q_for1, PF.q_fg0, PF.q_fg1, PF.q_fb, PF.q_f1, PF.q_f2, PF.q_rse, PF.q_es0, PF.q_es1, PF.q_cn, PF.q_cr, PF.q_rk1, PF.q_rk2, PF.q_see1, PF.q_see2, PF.q_see3, PF.q_fz1, PF.q_fz2, PF.q_out1, PF.q_out2, PF.q_out3, PF.q_op, PF.q_add, PF.q_sub, PF.q_isi1, PF.q_isi2, PF.q_isi3, PF.q_isi4, PF.q_isi5, PF.q_asg1, PF.q_asg2, PF.q_put1, PF.q_put2, PF.q_bnm, PF.q_bt0, PF.q_bt1, PF.q_bt2, PF.q_tg1, PF.q_tg2, PF.q_its1, PF.q_its2, PF.q_len1, PF.q_len2, PF.q_bint, PF.q_fld0, PF.q_ctx, PF.q_cgl, PF.q_cwf, PF.q_size, List.map_cons, List.map_nil, Nat.reduceSub, Nat.sub_self, List.replicate, List.append_nil, List.cons_append, List.nil_append, List.length_cons, List.length_nil, List.getElem?_cons_zero, List.getElem?_cons_succ, List.set_cons_zero, List.set_cons_succ, Nat.reduceAdd, Nat.reduceLT, Nat.reduceLeDiff, Int.cast_ofNat_Int, Int.reduceEq, Int.reduceLT, Int.reduceLE, decide_true, decide_false, if_true, Bool.false_eq_true, if_false, Bool.not_true, Bool.not_false, Bool.and_true, Bool.true_and, Bool.or_true, Bool.or_false, Bool.and_self, ite_true, ite_false, PF.g_nu, PF.g_pt, PF.g_n0, PF.g_n1, PF.g_p0, PF.g_p1, PF.g_pi, PF.g_pa, PF.g_pb, PF.g_fi, PF.g_ff, PF.g_ce, PF.g_cn, PF.g_pe, PF.g_pn, PF.s_lc, PF.s_lc1, PF.s_lc2, PF.s_lc3, PF.s_fI, PF.s_fI1, PF.s_fI2, PF.s_fI3, PF.s_fI4, PF.s_ec0, PF.s_ec1, PF.s_ec2, PF.s_ec3, PF.s_lg0, PF.s_lg1, PF.s_lg2, PF.s_lg3, PF.s_lg4, PF.s_w0, PF.s_w1, PF.s_fre, PF.s_fre1, PF.s_fre2, PF.s_fre3, PF.s_app, PF.s_app1, PF.s_app2, PF.s_app3, PF.s_pop, PF.s_pop1, PF.s_pop2, PF.s_whl, PF.s_wh1, PF.s_wh2, PF.s_wh3, PF.s_wh4, PF.s_nn, PF.s_nn1, PF.s_nnp, PF.s_nnn, PF.s_tol, PF.s_tol2, PF.s_tol3, PF.s_tup, PF.s_tup2, PF.s_len, PF.s_len2, PF.s_all, PF.at_pt, PF.at_pv, PF.g_s0, PF.g_s1, PF.g_sa, List.length_map, f17, b17, hs]
    exact f
  · have f := fin (0, if decide ((6 : Int) < m) = true then 1 else 0) (by rcases hm with rfl | rfl | rfl | rfl | rfl <;> first | rfl | exact absurd rfl h6)
    simp -implicitDefEqProofs (maxSteps := 400000) (disch := (first | with_reducible assumption | (with_reducible apply PF.mulOk_of <;> (repeat' (first | with_reducible assumption | with_reducible (apply PyProof.Rows.bits_add) | with_reducible (apply PyProof.Rows.bits_sub) | with_reducible (apply PyProof.Rows.bits_mul) | with_reducible (apply PyProof.Rows.bits_neg) | with_reducible (apply PF.bits_div (by first | omega | decide +kernel)) | with_reducible (apply PF.bits_mod (by first | omega | decide +kernel)) | (with_reducible show _ + _ ≤ 134217728; decide +kernel) | exact Nat.le_refl _))) | ((with_reducible apply PF.lt_len); with_unfolding_all rfl) | omega | decide +kernel)) only [PF.opI_mul, PF.opI_mod, PF.opI_fdiv, PF.ixT0, PF.ixT1, PF.cmp_eq, PF.cmp_ne, PF.cmp_lt, PF.cmp_le, PF.cmp_gt, PF.cmp_ge, PF.cmp_t2, PF.cmp_n2, PF.cmp_tt2, PF.cmp_nt2, PF.isInsT, PF.q_lo, PF.q_s1, PF.q_s2, PF.q_non, PF.q_bl, PF.q_int, PF.q_str, PF.q_gl, PF.q_bin, PF.q_bin1, PF.q_bin2, PF.q_kI, PF.q_kB, PF.q_kIm, PF.q_kFz, PF.q_neg, PF.q_neg1, PF.q_not, PF.q_not1, PF.q_cmp, PF.q_cmp1, PF.q_cmp2, PF.q_isN, PF.q_isN1, PF.q_and, PF.q_and1, PF.q_and2, PF.q_or, PF.q_or1, PF.q_or2, PF.q_ite, PF.q_ite1, PF.q_ite2, PF.q_tup, PF.q_tup1, PF.q_tup2, PF.q_lst, PF.q_lst1, PF.q_lst2, PF.q_ix, PF.q_ix1, PF.q_ix2, PF.q_call, PF.q_call1, PF.q_meth, PF.q_meth1, PF.q_meth2, PF.q_meth3, PF.q_fld, PF.q_fld1, PF.q_blt, PF.q_blt1, PF.q_isi, PF.q_isi0, PF.q_vs0, PF.q_vs1, PF.q_vs2, PF.q_vs3, PF.q_vb0, PF.q_vb1, PF.q_vb2, PF.q_vb3, PF.q_itE, PF.q_itE1, PF.q_it1, PF.q_it2, PF.q_it3, PF.q_asg, PF.q_asg0, PF.q_nx, PF.q_par, PF.q_par1, PF.q_ret, PF.q_ret1, PF.q_retN, PF.q_iff, PF.q_iff1, PF.q_iff2, PF.q_for, PF.q_for1, PF.q_fg0, PF.q_fg1, PF.q_fb, PF.q_f1, PF.q_f2, PF.q_rse, PF.q_es0, PF.q_es1, PF.q_cn, PF.q_cr, PF.q_rk1, PF.q_rk2, PF.q_see1, PF.q_see2, PF.q_see3, PF.q_fz1, PF.q_fz2, PF.q_out1, PF.q_out2, PF.q_out3, PF.q_op, PF.q_add, PF.q_sub, PF.q_isi1, PF.q_isi2, PF.q_isi3, PF.q_isi4, PF.q_isi5, PF.q_asg1, PF.q_asg2, PF.q_put1, PF.q_put2, PF.q_bnm, PF.q_bt0, PF.q_bt1, PF.q_bt2, PF.q_tg1, PF.q_tg2, PF.q_its1, PF.q_its2, PF.q_len1, PF.q_len2, PF.q_bint, PF.q_fld0, PF.q_ctx, PF.q_cgl, PF.q_cwf, PF.q_size, List.map_cons, List.map_nil, Nat.reduceSub, Nat.sub_self, List.replicate, List.append_nil, List.cons_append, List.nil_append, List.length_cons, List.length_nil, List.getElem?_cons_zero, List.getElem?_cons_succ, List.set_cons_zero, List.set_cons_succ, Nat.reduceAdd, Nat.reduceLT, Nat.reduceLeDiff, Int.cast_ofNat_Int, Int.reduceEq, Int.reduceLT, Int.reduceLE, decide_true, decide_false, if_true, Bool.false_eq_true, if_false, Bool.not_true, Bool.not_false, Bool.and_true, Bool.true_and, Bool.or_true, Bool.or_false, Bool.and_self, ite_true, ite_false, PF.g_nu, PF.g_pt, PF.g_n0, PF.g_n1, PF.g_p0, PF.g_p1, PF.g_pi, PF.g_pa, PF.g_pb, PF.g_fi, PF.g_ff, PF.g_ce, PF.g_cn, PF.g_pe, PF.g_pn, PF.s_lc, PF.s_lc1, PF.s_lc2, PF.s_lc3, PF.s_fI, PF.s_fI1, PF.s_fI2, PF.s_fI3, PF.s_fI4, PF.s_ec0, PF.s_ec1, PF.s_ec2, PF.s_ec3, PF.s_lg0, PF.s_lg1, PF.s_lg2, PF.s_lg3, PF.s_lg4, PF.s_w0, PF.s_w1, PF.s_fre, PF.s_fre1, PF.s_fre2, PF.s_fre3, PF.s_app, PF.s_app1, PF.s_app2, PF.s_app3, PF.s_pop, PF.s_pop1, PF.s_pop2, PF.s_whl, PF.s_wh1, PF.s_wh2, PF.s_wh3, PF.s_wh4, PF.s_nn, PF.s_nn1, PF.s_nnp, PF.s_nnn, PF.s_tol, PF.s_tol2, PF.s_tol3, PF.s_tup, PF.s_tup2, PF.s_len, PF.s_len2, PF.s_all, PF.at_pt, PF.at_pv, PF.g_s0, PF.g_s1, PF.g_sa, List.length_map, f17, b17, hs, h6]
    exact f
theorem lround {ns : List Int} (hb : ∀ z ∈ ns, intBits z ≤ 1048576) {m : Int} (hm : Sz m) (j : Int) (h0 : 0 ≤ j) (h1 : j ≤ 40) :
    ∃ S, (∀ k, callK Q (k + 5) 18 [.lst (ns.map Tr.int), .int j, .int m] = .ok (.ow (S.map pt))) ∧ ShN 168 m S ∧ 4 ≤ S.length := by
  have w : ∀ i : Int, 0 ≤ i → i ≤ 2000 → intBits i ≤ 64 := fun i h h' => intBits_le_64 (by omega) (by omega)
  obtain ⟨c0, e0, w0⟩ := cell hb j h0 (w _ h0 (by omega))
  obtain ⟨c1, e1, w1⟩ := cell hb (j + 1) (by omega) (w _ (by omega) (by omega))
  obtain ⟨c2, e2, w2⟩ := cell hb (j + 2) (by omega) (w _ (by omega) (by omega))
  obtain ⟨c3, e3, w3⟩ := cell hb (j + 3) (by omega) (w _ (by omega) (by omega))
  obtain ⟨c4, e4, w4⟩ := cell hb (j + 4 + 0) (by omega) (w _ (by omega) (by omega))
  obtain ⟨c5, e5, w5⟩ := cell hb (j + 4 + 1) (by omega) (w _ (by omega) (by omega))
  obtain ⟨c6, e6, w6⟩ := cell hb (j + 4 + 2) (by omega) (w _ (by omega) (by omega))
  obtain ⟨c7, e7, w7⟩ := cell hb (j + 7) (by omega) (w _ (by omega) (by omega))
  obtain ⟨c8, e8, w8⟩ := cell hb (j + 8) (by omega) (w _ (by omega) (by omega))
  have hm' : m = 4 ∨ m = 6 ∨ m = 8 ∨ m = 10 ∨ m = 12 := hm
  have m0 : (0 : Int) < m := by omega
  have mh : (0 : Int) < m / 2 - 1 := by omega
  have wi := bits_int (decide ((6 : Int) < m) = true)
  have lz : ∀ c : Int, m < 8 → c / 4 % 3 * (if decide ((6 : Int) < m) = true then 1 else 0) = 0 := fun c h => by
    rw [if_neg (by rw [decide_eq_true_eq]; omega), Int.mul_zero]
  have lr : ∀ c : Int, 0 ≤ c / 4 % 3 * (if decide ((6 : Int) < m) = true then 1 else 0) ∧ c / 4 % 3 * (if decide ((6 : Int) < m) = true then 1 else 0) < 3 := fun c => by
    split <;> omega
  have lw : ∀ (k : Nat) (t c : Int), callK Q (k + 3) 17 [.int m, .int t, nu (1 + c % 4) (c / 4 % 3 * (if decide ((6 : Int) < m) = true then 1 else 0))] = .ok (.im (pt (wy m t (1 + c % 4) (c / 4 % 3 * (if decide ((6 : Int) < m) = true then 1 else 0))))) := fun k t c =>
    lway hm (lz c) (w _ (by omega) (by omega)) (w _ (lr c).1 (by have := (lr c).2; omega))
  have lw0 : ∀ (k : Nat) (t c : Int), callK Q (k + 3) 17 [.int m, .int t, nu (c % 9) 0] = .ok (.im (pt (wy m t (c % 9) 0))) := fun k t c =>
    lway hm (fun _ => rfl) (w _ (by omega) (by omega)) (by decide)
  have wo : ∀ t c : Int, OkP m (wy m t (1 + c % 4) (c / 4 % 3 * (if decide ((6 : Int) < m) = true then 1 else 0))) := fun t c => wy_ok (lz c)
  have wb : ∀ t c : Int, Bd (8 * 4) (wy m t (1 + c % 4) (c / 4 % 3 * (if decide ((6 : Int) < m) = true then 1 else 0))) := fun t c => wy_bdG hm (by omega) ⟨by have := lr c; omega, by have := lr c; omega⟩ (lz c)
  have wl : ∀ t t' c c' : Int, t < t' → t' - t < m / 2 → Lf m (wy m t (1 + c % 4) (c / 4 % 3 * (if decide ((6 : Int) < m) = true then 1 else 0))) (wy m t' (1 + c' % 4) (c' / 4 % 3 * (if decide ((6 : Int) < m) = true then 1 else 0))) := fun t t' c c' h h' => by
    have f := Lf.wy (t := t) (k := t' - t) hm (lz c) (lz c') (by omega) h' (sg_len (a := 1 + c % 4) hm (by omega) (lr c).1 (lz c)) (sg_len (a := 1 + c' % 4) hm (by omega) (lr c').1 (lz c'))
    rw [show t + (t' - t) = t' by omega] at f
    exact f
  have r0 := Int.emod_nonneg c0 (show m / 2 - 1 ≠ 0 by omega)
  have r1 := Int.emod_lt_of_pos c0 mh
  have i4 : intBits (m / 2 - 1) ≤ 64 := w _ (by omega) (by omega)
  by_cases h2 : c1 % 2 = 1 ∧ 1 + c0 % (m / 2 - 1) < m / 2 - 1
  · have mk : 0 < m / 2 - 1 - (1 + c0 % (m / 2 - 1)) := by omega
    have r2 := Int.emod_nonneg c2 (show m / 2 - 1 - (1 + c0 % (m / 2 - 1)) ≠ 0 by omega)
    have r3 := Int.emod_lt_of_pos c2 mk
    refine ⟨rimB (wy m (c7 % m) (c8 % 9) 0) (wy m (c3 % m + 0) (1 + c4 % 4) (c4 / 4 % 3 * (if decide ((6 : Int) < m) = true then 1 else 0))) (wy m (c3 % m + (1 + c0 % (m / 2 - 1))) (1 + c5 % 4) (c5 / 4 % 3 * (if decide ((6 : Int) < m) = true then 1 else 0))) (wy m (c3 % m + (1 + c0 % (m / 2 - 1) + 1 + c2 % (m / 2 - 1 - (1 + c0 % (m / 2 - 1))))) (1 + c6 % 4) (c6 / 4 % 3 * (if decide ((6 : Int) < m) = true then 1 else 0))), fun k => ?_, ShN.rimB (x := 8 * 9) (y := 8 * 4) (by decide) (by decide) (by decide) hm (wl _ _ _ _ (by omega) (by omega)) (wl _ _ _ _ (by omega) (by omega)) (wl _ _ _ _ (by omega) (by omega)) (wy_ok (fun _ => rfl)) (wo _ _) (wo _ _) (wo _ _) (wy_bdG hm (by omega) (by decide) (fun _ => rfl)) (wb _ _) (wb _ _) (wb _ _), show 4 ≤ 6 by omega⟩
    rw [call_f (f := f18) rfl (k + 4) _ rfl]
    simp -implicitDefEqProofs (maxSteps := 400000) (disch := (first | with_reducible assumption | (with_reducible apply PF.mulOk_of <;> (repeat' (first | with_reducible assumption | with_reducible (apply PyProof.Rows.bits_add) | with_reducible (apply PyProof.Rows.bits_sub) | with_reducible (apply PyProof.Rows.bits_mul) | with_reducible (apply PyProof.Rows.bits_neg) | with_reducible (apply PF.bits_div (by first | omega | decide +kernel)) | with_reducible (apply PF.bits_mod (by first | omega | decide +kernel)) | (with_reducible show _ + _ ≤ 134217728; decide +kernel) | exact Nat.le_refl _))) | ((with_reducible apply PF.lt_len); with_unfolding_all rfl) | omega | decide +kernel)) only [PF.opI_mul, PF.opI_mod, PF.opI_fdiv, PF.ixT0, PF.ixT1, PF.cmp_eq, PF.cmp_ne, PF.cmp_lt, PF.cmp_le, PF.cmp_gt, PF.cmp_ge, PF.cmp_t2, PF.cmp_n2, PF.cmp_tt2, PF.cmp_nt2, PF.isInsT, PF.q_lo, PF.q_s1, PF.q_s2, PF.q_non, PF.q_bl, PF.q_int, PF.q_str, PF.q_gl, PF.q_bin, PF.q_bin1, PF.q_bin2, PF.q_kI, PF.q_kB, PF.q_kIm, PF.q_kFz, PF.q_neg, PF.q_neg1, PF.q_not, PF.q_not1, PF.q_cmp, PF.q_cmp1, PF.q_cmp2, PF.q_isN, PF.q_isN1, PF.q_and, PF.q_and1, PF.q_and2, PF.q_or, PF.q_or1, PF.q_or2, PF.q_ite, PF.q_ite1, PF.q_ite2, PF.q_tup, PF.q_tup1, PF.q_tup2, PF.q_lst, PF.q_lst1, PF.q_lst2, PF.q_ix, PF.q_ix1, PF.q_ix2, PF.q_call, PF.q_call1, PF.q_meth, PF.q_meth1, PF.q_meth2, PF.q_meth3, PF.q_fld, PF.q_fld1, PF.q_blt, PF.q_blt1, PF.q_isi, PF.q_isi0, PF.q_vs0, PF.q_vs1, PF.q_vs2, PF.q_vs3, PF.q_vb0, PF.q_vb1, PF.q_vb2, PF.q_vb3, PF.q_itE, PF.q_itE1, PF.q_it1, PF.q_it2, PF.q_it3, PF.q_asg, PF.q_asg0, PF.q_nx, PF.q_par, PF.q_par1, PF.q_ret, PF.q_ret1, PF.q_retN, PF.q_iff, PF.q_iff1, PF.q_iff2, PF.q_for, PF.q_for1, PF.q_fg0, PF.q_fg1, PF.q_fb, PF.q_f1, PF.q_f2, PF.q_rse, PF.q_es0, PF.q_es1, PF.q_cn, PF.q_cr, PF.q_rk1, PF.q_rk2, PF.q_see1, PF.q_see2, PF.q_see3, PF.q_fz1, PF.q_fz2, PF.q_out1, PF.q_out2, PF.q_out3, PF.q_op, PF.q_add, PF.q_sub, PF.q_isi1, PF.q_isi2, PF.q_isi3, PF.q_isi4, PF.q_isi5, PF.q_asg1, PF.q_asg2, PF.q_put1, PF.q_put2, PF.q_bnm, PF.q_bt0, PF.q_bt1, PF.q_bt2, PF.q_tg1, PF.q_tg2, PF.q_its1, PF.q_its2, PF.q_len1, PF.q_len2, PF.q_bint, PF.q_fld0, PF.q_ctx, PF.q_cgl, PF.q_cwf, PF.q_size, List.map_cons, List.map_nil, Nat.reduceSub, Nat.sub_self, List.replicate, List.append_nil, List.cons_append, List.nil_append, List.length_cons, List.length_nil, List.getElem?_cons_zero, List.getElem?_cons_succ, List.set_cons_zero, List.set_cons_succ, Nat.reduceAdd, Nat.reduceLT, Nat.reduceLeDiff, Int.cast_ofNat_Int, Int.reduceEq, Int.reduceLT, Int.reduceLE, decide_true, decide_false, if_true, Bool.false_eq_true, if_false, Bool.not_true, Bool.not_false, Bool.and_true, Bool.true_and, Bool.or_true, Bool.or_false, Bool.and_self, ite_true, ite_false, PF.g_nu, PF.g_pt, PF.g_n0, PF.g_n1, PF.g_p0, PF.g_p1, PF.g_pi, PF.g_pa, PF.g_pb, PF.g_fi, PF.g_ff, PF.g_ce, PF.g_cn, PF.g_pe, PF.g_pn, PF.s_lc, PF.s_lc1, PF.s_lc2, PF.s_lc3, PF.s_fI, PF.s_fI1, PF.s_fI2, PF.s_fI3, PF.s_fI4, PF.s_ec0, PF.s_ec1, PF.s_ec2, PF.s_ec3, PF.s_lg0, PF.s_lg1, PF.s_lg2, PF.s_lg3, PF.s_lg4, PF.s_w0, PF.s_w1, PF.s_fre, PF.s_fre1, PF.s_fre2, PF.s_fre3, PF.s_app, PF.s_app1, PF.s_app2, PF.s_app3, PF.s_pop, PF.s_pop1, PF.s_pop2, PF.s_whl, PF.s_wh1, PF.s_wh2, PF.s_wh3, PF.s_wh4, PF.s_nn, PF.s_nn1, PF.s_nnp, PF.s_nnn, PF.s_tol, PF.s_tol2, PF.s_tol3, PF.s_tup, PF.s_tup2, PF.s_len, PF.s_len2, PF.s_all, PF.at_pt, PF.at_pv, PF.g_s0, PF.g_s1, PF.g_sa, List.length_map, f18, b18, e0, e1, e2, e3, e4, e5, e6, e7, e8, h2.1, h2.2, lw, lw0, lless, lsum, PF.g_l0, PF.g_l1, PF.g_l2, PF.g_sm2, PF.g_sm3, PF.g_r2, PF.g_r3, PF.g_cat, PF.g_cat2, rimB]
  · have h2' : ¬ (c1 % 2 = 1) ∨ ¬ (1 + c0 % (m / 2 - 1) < m / 2 - 1) := by omega
    refine ⟨rimA (wy m (c7 % m) (c8 % 9) 0) (wy m (c3 % m + 0) (1 + c4 % 4) (c4 / 4 % 3 * (if decide ((6 : Int) < m) = true then 1 else 0))) (wy m (c3 % m + (1 + c0 % (m / 2 - 1))) (1 + c5 % 4) (c5 / 4 % 3 * (if decide ((6 : Int) < m) = true then 1 else 0))), fun k => ?_, ShN.rimA (x := 8 * 9) (y := 8 * 4) (by decide) (by decide) (by decide) (wl _ _ _ _ (by omega) (by omega)) (wy_ok (fun _ => rfl)) (wo _ _) (wo _ _) (wy_bdG hm (by omega) (by decide) (fun _ => rfl)) (wb _ _) (wb _ _), show 4 ≤ 4 by omega⟩
    rw [call_f (f := f18) rfl (k + 4) _ rfl]
    by_cases q : c1 % 2 = 1
    · have q2 : ¬ (1 + c0 % (m / 2 - 1) < m / 2 - 1) := by omega
      simp -implicitDefEqProofs (maxSteps := 400000) (disch := (first | with_reducible assumption | (with_reducible apply PF.mulOk_of <;> (repeat' (first | with_reducible assumption | with_reducible (apply PyProof.Rows.bits_add) | with_reducible (apply PyProof.Rows.bits_sub) | with_reducible (apply PyProof.Rows.bits_mul) | with_reducible (apply PyProof.Rows.bits_neg) | with_reducible (apply PF.bits_div (by first | omega | decide +kernel)) | with_reducible (apply PF.bits_mod (by first | omega | decide +kernel)) | (with_reducible show _ + _ ≤ 134217728; decide +kernel) | exact Nat.le_refl _))) | ((with_reducible apply PF.lt_len); with_unfolding_all rfl) | omega | decide +kernel)) only [PF.opI_mul, PF.opI_mod, PF.opI_fdiv, PF.ixT0, PF.ixT1, PF.cmp_eq, PF.cmp_ne, PF.cmp_lt, PF.cmp_le, PF.cmp_gt, PF.cmp_ge, PF.cmp_t2, PF.cmp_n2, PF.cmp_tt2, PF.cmp_nt2, PF.isInsT, PF.q_lo, PF.q_s1, PF.q_s2, PF.q_non, PF.q_bl, PF.q_int, PF.q_str, PF.q_gl, PF.q_bin, PF.q_bin1, PF.q_bin2, PF.q_kI, PF.q_kB, PF.q_kIm, PF.q_kFz, PF.q_neg, PF.q_neg1, PF.q_not, PF.q_not1, PF.q_cmp, PF.q_cmp1, PF.q_cmp2, PF.q_isN, PF.q_isN1, PF.q_and, PF.q_and1, PF.q_and2, PF.q_or, PF.q_or1, PF.q_or2, PF.q_ite, PF.q_ite1, PF.q_ite2, PF.q_tup, PF.q_tup1, PF.q_tup2, PF.q_lst, PF.q_lst1, PF.q_lst2, PF.q_ix, PF.q_ix1, PF.q_ix2, PF.q_call, PF.q_call1, PF.q_meth, PF.q_meth1, PF.q_meth2, PF.q_meth3, PF.q_fld, PF.q_fld1, PF.q_blt, PF.q_blt1, PF.q_isi, PF.q_isi0, PF.q_vs0, PF.q_vs1, PF.q_vs2, PF.q_vs3, PF.q_vb0, PF.q_vb1, PF.q_vb2, PF.q_vb3, PF.q_itE, PF.q_itE1, PF.q_it1, PF.q_it2, PF.q_it3, PF.q_asg, PF.q_asg0, PF.q_nx, PF.q_par, PF.q_par1, PF.q_ret, PF.q_ret1, PF.q_retN, PF.q_iff, PF.q_iff1, PF.q_iff2, PF.q_for, PF.q_for1, PF.q_fg0, PF.q_fg1, PF.q_fb, PF.q_f1, PF.q_f2, PF.q_rse, PF.q_es0, PF.q_es1, PF.q_cn, PF.q_cr, PF.q_rk1, PF.q_rk2, PF.q_see1, PF.q_see2, PF.q_see3, PF.q_fz1, PF.q_fz2, PF.q_out1, PF.q_out2, PF.q_out3, PF.q_op, PF.q_add, PF.q_sub, PF.q_isi1, PF.q_isi2, PF.q_isi3, PF.q_isi4, PF.q_isi5, PF.q_asg1, PF.q_asg2, PF.q_put1, PF.q_put2, PF.q_bnm, PF.q_bt0, PF.q_bt1, PF.q_bt2, PF.q_tg1, PF.q_tg2, PF.q_its1, PF.q_its2, PF.q_len1, PF.q_len2, PF.q_bint, PF.q_fld0, PF.q_ctx, PF.q_cgl, PF.q_cwf, PF.q_size, List.map_cons, List.map_nil, Nat.reduceSub, Nat.sub_self, List.replicate, List.append_nil, List.cons_append, List.nil_append, List.length_cons, List.length_nil, List.getElem?_cons_zero, List.getElem?_cons_succ, List.set_cons_zero, List.set_cons_succ, Nat.reduceAdd, Nat.reduceLT, Nat.reduceLeDiff, Int.cast_ofNat_Int, Int.reduceEq, Int.reduceLT, Int.reduceLE, decide_true, decide_false, if_true, Bool.false_eq_true, if_false, Bool.not_true, Bool.not_false, Bool.and_true, Bool.true_and, Bool.or_true, Bool.or_false, Bool.and_self, ite_true, ite_false, PF.g_nu, PF.g_pt, PF.g_n0, PF.g_n1, PF.g_p0, PF.g_p1, PF.g_pi, PF.g_pa, PF.g_pb, PF.g_fi, PF.g_ff, PF.g_ce, PF.g_cn, PF.g_pe, PF.g_pn, PF.s_lc, PF.s_lc1, PF.s_lc2, PF.s_lc3, PF.s_fI, PF.s_fI1, PF.s_fI2, PF.s_fI3, PF.s_fI4, PF.s_ec0, PF.s_ec1, PF.s_ec2, PF.s_ec3, PF.s_lg0, PF.s_lg1, PF.s_lg2, PF.s_lg3, PF.s_lg4, PF.s_w0, PF.s_w1, PF.s_fre, PF.s_fre1, PF.s_fre2, PF.s_fre3, PF.s_app, PF.s_app1, PF.s_app2, PF.s_app3, PF.s_pop, PF.s_pop1, PF.s_pop2, PF.s_whl, PF.s_wh1, PF.s_wh2, PF.s_wh3, PF.s_wh4, PF.s_nn, PF.s_nn1, PF.s_nnp, PF.s_nnn, PF.s_tol, PF.s_tol2, PF.s_tol3, PF.s_tup, PF.s_tup2, PF.s_len, PF.s_len2, PF.s_all, PF.at_pt, PF.at_pv, PF.g_s0, PF.g_s1, PF.g_sa, List.length_map, f18, b18, e0, e1, e2, e3, e4, e5, e6, e7, e8, q, q2, lw, lw0, lless, lsum, PF.g_l0, PF.g_l1, PF.g_l2, PF.g_sm2, PF.g_sm3, PF.g_r2, PF.g_r3, PF.g_cat, PF.g_cat2, rimA]
    · simp -implicitDefEqProofs (maxSteps := 400000) (disch := (first | with_reducible assumption | (with_reducible apply PF.mulOk_of <;> (repeat' (first | with_reducible assumption | with_reducible (apply PyProof.Rows.bits_add) | with_reducible (apply PyProof.Rows.bits_sub) | with_reducible (apply PyProof.Rows.bits_mul) | with_reducible (apply PyProof.Rows.bits_neg) | with_reducible (apply PF.bits_div (by first | omega | decide +kernel)) | with_reducible (apply PF.bits_mod (by first | omega | decide +kernel)) | (with_reducible show _ + _ ≤ 134217728; decide +kernel) | exact Nat.le_refl _))) | ((with_reducible apply PF.lt_len); with_unfolding_all rfl) | omega | decide +kernel)) only [PF.opI_mul, PF.opI_mod, PF.opI_fdiv, PF.ixT0, PF.ixT1, PF.cmp_eq, PF.cmp_ne, PF.cmp_lt, PF.cmp_le, PF.cmp_gt, PF.cmp_ge, PF.cmp_t2, PF.cmp_n2, PF.cmp_tt2, PF.cmp_nt2, PF.isInsT, PF.q_lo, PF.q_s1, PF.q_s2, PF.q_non, PF.q_bl, PF.q_int, PF.q_str, PF.q_gl, PF.q_bin, PF.q_bin1, PF.q_bin2, PF.q_kI, PF.q_kB, PF.q_kIm, PF.q_kFz, PF.q_neg, PF.q_neg1, PF.q_not, PF.q_not1, PF.q_cmp, PF.q_cmp1, PF.q_cmp2, PF.q_isN, PF.q_isN1, PF.q_and, PF.q_and1, PF.q_and2, PF.q_or, PF.q_or1, PF.q_or2, PF.q_ite, PF.q_ite1, PF.q_ite2, PF.q_tup, PF.q_tup1, PF.q_tup2, PF.q_lst, PF.q_lst1, PF.q_lst2, PF.q_ix, PF.q_ix1, PF.q_ix2, PF.q_call, PF.q_call1, PF.q_meth, PF.q_meth1, PF.q_meth2, PF.q_meth3, PF.q_fld, PF.q_fld1, PF.q_blt, PF.q_blt1, PF.q_isi, PF.q_isi0, PF.q_vs0, PF.q_vs1, PF.q_vs2, PF.q_vs3, PF.q_vb0, PF.q_vb1, PF.q_vb2, PF.q_vb3, PF.q_itE, PF.q_itE1, PF.q_it1, PF.q_it2, PF.q_it3, PF.q_asg, PF.q_asg0, PF.q_nx, PF.q_par, PF.q_par1, PF.q_ret, PF.q_ret1, PF.q_retN, PF.q_iff, PF.q_iff1, PF.q_iff2, PF.q_for, PF.q_for1, PF.q_fg0, PF.q_fg1, PF.q_fb, PF.q_f1, PF.q_f2, PF.q_rse, PF.q_es0, PF.q_es1, PF.q_cn, PF.q_cr, PF.q_rk1, PF.q_rk2, PF.q_see1, PF.q_see2, PF.q_see3, PF.q_fz1, PF.q_fz2, PF.q_out1, PF.q_out2, PF.q_out3, PF.q_op, PF.q_add, PF.q_sub, PF.q_isi1, PF.q_isi2, PF.q_isi3, PF.q_isi4, PF.q_isi5, PF.q_asg1, PF.q_asg2, PF.q_put1, PF.q_put2, PF.q_bnm, PF.q_bt0, PF.q_bt1, PF.q_bt2, PF.q_tg1, PF.q_tg2, PF.q_its1, PF.q_its2, PF.q_len1, PF.q_len2, PF.q_bint, PF.q_fld0, PF.q_ctx, PF.q_cgl, PF.q_cwf, PF.q_size, List.map_cons, List.map_nil, Nat.reduceSub, Nat.sub_self, List.replicate, List.append_nil, List.cons_append, List.nil_append, List.length_cons, List.length_nil, List.getElem?_cons_zero, List.getElem?_cons_succ, List.set_cons_zero, List.set_cons_succ, Nat.reduceAdd, Nat.reduceLT, Nat.reduceLeDiff, Int.cast_ofNat_Int, Int.reduceEq, Int.reduceLT, Int.reduceLE, decide_true, decide_false, if_true, Bool.false_eq_true, if_false, Bool.not_true, Bool.not_false, Bool.and_true, Bool.true_and, Bool.or_true, Bool.or_false, Bool.and_self, ite_true, ite_false, PF.g_nu, PF.g_pt, PF.g_n0, PF.g_n1, PF.g_p0, PF.g_p1, PF.g_pi, PF.g_pa, PF.g_pb, PF.g_fi, PF.g_ff, PF.g_ce, PF.g_cn, PF.g_pe, PF.g_pn, PF.s_lc, PF.s_lc1, PF.s_lc2, PF.s_lc3, PF.s_fI, PF.s_fI1, PF.s_fI2, PF.s_fI3, PF.s_fI4, PF.s_ec0, PF.s_ec1, PF.s_ec2, PF.s_ec3, PF.s_lg0, PF.s_lg1, PF.s_lg2, PF.s_lg3, PF.s_lg4, PF.s_w0, PF.s_w1, PF.s_fre, PF.s_fre1, PF.s_fre2, PF.s_fre3, PF.s_app, PF.s_app1, PF.s_app2, PF.s_app3, PF.s_pop, PF.s_pop1, PF.s_pop2, PF.s_whl, PF.s_wh1, PF.s_wh2, PF.s_wh3, PF.s_wh4, PF.s_nn, PF.s_nn1, PF.s_nnp, PF.s_nnn, PF.s_tol, PF.s_tol2, PF.s_tol3, PF.s_tup, PF.s_tup2, PF.s_len, PF.s_len2, PF.s_all, PF.at_pt, PF.at_pv, PF.g_s0, PF.g_s1, PF.g_sa, List.length_map, f18, b18, e0, e1, e2, e3, e4, e5, e6, e7, e8, q, lw, lw0, lless, lsum, PF.g_l0, PF.g_l1, PF.g_l2, PF.g_sm2, PF.g_sm3, PF.g_r2, PF.g_r3, PF.g_cat, PF.g_cat2, rimA]
theorem shp_loop {k : Nat} {ns : List Int} {m j c many : Int} (ec : ∀ k, callK Q (k + 1) 11 [.lst (ns.map Tr.int), .int (j + 10)] = .ok (.im (.int c))) : ∀ (d N : Nat) (R : List Pt), many + d = (R.length : Int) → 1 ≤ many → R.length ≤ 6 → d + 1 ≤ N →
    whlK (Q.ctx (k + 5)) (.cmp .gt (.blt .len [.lo 3]) (.lo 4)) [.pop 3 (.bin .mod (.bin .fdiv (.call 11 [.lo 0, .bin .add (.lo 1) (.int 10)]) (.blt .len [.lo 3])) (.blt .len [.lo 3]))] N [.im (.lst (ns.map Tr.int)), .im (.int j), .im (.int m), .ow (R.map pt), .im (.int many)] =
      .ok (.nx [.im (.lst (ns.map Tr.int)), .im (.int j), .im (.int m), .ow ((pops c d R).map pt), .im (.int many)])
  | 0, N + 1, R, h, hm, hl, hN => by
    have h2 : ¬ many < (R.length : Int) := by omega
    simp -implicitDefEqProofs (maxSteps := 400000) (disch := (first | with_reducible assumption | (with_reducible apply PF.mulOk_of <;> (repeat' (first | with_reducible assumption | with_reducible (apply PyProof.Rows.bits_add) | with_reducible (apply PyProof.Rows.bits_sub) | with_reducible (apply PyProof.Rows.bits_mul) | with_reducible (apply PyProof.Rows.bits_neg) | with_reducible (apply PF.bits_div (by first | omega | decide +kernel)) | with_reducible (apply PF.bits_mod (by first | omega | decide +kernel)) | (with_reducible show _ + _ ≤ 134217728; decide +kernel) | exact Nat.le_refl _))) | ((with_reducible apply PF.lt_len); with_unfolding_all rfl) | omega | decide +kernel)) only [PF.opI_mul, PF.opI_mod, PF.opI_fdiv, PF.ixT0, PF.ixT1, PF.cmp_eq, PF.cmp_ne, PF.cmp_lt, PF.cmp_le, PF.cmp_gt, PF.cmp_ge, PF.cmp_t2, PF.cmp_n2, PF.cmp_tt2, PF.cmp_nt2, PF.isInsT, PF.q_lo, PF.q_s1, PF.q_s2, PF.q_non, PF.q_bl, PF.q_int, PF.q_str, PF.q_gl, PF.q_bin, PF.q_bin1, PF.q_bin2, PF.q_kI, PF.q_kB, PF.q_kIm, PF.q_kFz, PF.q_neg, PF.q_neg1, PF.q_not, PF.q_not1, PF.q_cmp, PF.q_cmp1, PF.q_cmp2, PF.q_isN, PF.q_isN1, PF.q_and, PF.q_and1, PF.q_and2, PF.q_or, PF.q_or1, PF.q_or2, PF.q_ite, PF.q_ite1, PF.q_ite2, PF.q_tup, PF.q_tup1, PF.q_tup2, PF.q_lst, PF.q_lst1, PF.q_lst2, PF.q_ix, PF.q_ix1, PF.q_ix2, PF.q_call, PF.q_call1, PF.q_meth, PF.q_meth1, PF.q_meth2, PF.q_meth3, PF.q_fld, PF.q_fld1, PF.q_blt, PF.q_blt1, PF.q_isi, PF.q_isi0, PF.q_vs0, PF.q_vs1, PF.q_vs2, PF.q_vs3, PF.q_vb0, PF.q_vb1, PF.q_vb2, PF.q_vb3, PF.q_itE, PF.q_itE1, PF.q_it1, PF.q_it2, PF.q_it3, PF.q_asg, PF.q_asg0, PF.q_nx, PF.q_par, PF.q_par1, PF.q_ret, PF.q_ret1, PF.q_retN, PF.q_iff, PF.q_iff1, PF.q_iff2, PF.q_for, PF.q_for1, PF.q_fg0, PF.q_fg1, PF.q_fb, PF.q_f1, PF.q_f2, PF.q_rse, PF.q_es0, PF.q_es1, PF.q_cn, PF.q_cr, PF.q_rk1, PF.q_rk2, PF.q_see1, PF.q_see2, PF.q_see3, PF.q_fz1, PF.q_fz2, PF.q_out1, PF.q_out2, PF.q_out3, PF.q_op, PF.q_add, PF.q_sub, PF.q_isi1, PF.q_isi2, PF.q_isi3, PF.q_isi4, PF.q_isi5, PF.q_asg1, PF.q_asg2, PF.q_put1, PF.q_put2, PF.q_bnm, PF.q_bt0, PF.q_bt1, PF.q_bt2, PF.q_tg1, PF.q_tg2, PF.q_its1, PF.q_its2, PF.q_len1, PF.q_len2, PF.q_bint, PF.q_fld0, PF.q_ctx, PF.q_cgl, PF.q_cwf, PF.q_size, List.map_cons, List.map_nil, Nat.reduceSub, Nat.sub_self, List.replicate, List.append_nil, List.cons_append, List.nil_append, List.length_cons, List.length_nil, List.getElem?_cons_zero, List.getElem?_cons_succ, List.set_cons_zero, List.set_cons_succ, Nat.reduceAdd, Nat.reduceLT, Nat.reduceLeDiff, Int.cast_ofNat_Int, Int.reduceEq, Int.reduceLT, Int.reduceLE, decide_true, decide_false, if_true, Bool.false_eq_true, if_false, Bool.not_true, Bool.not_false, Bool.and_true, Bool.true_and, Bool.or_true, Bool.or_false, Bool.and_self, ite_true, ite_false, PF.g_nu, PF.g_pt, PF.g_n0, PF.g_n1, PF.g_p0, PF.g_p1, PF.g_pi, PF.g_pa, PF.g_pb, PF.g_fi, PF.g_ff, PF.g_ce, PF.g_cn, PF.g_pe, PF.g_pn, PF.s_lc, PF.s_lc1, PF.s_lc2, PF.s_lc3, PF.s_fI, PF.s_fI1, PF.s_fI2, PF.s_fI3, PF.s_fI4, PF.s_ec0, PF.s_ec1, PF.s_ec2, PF.s_ec3, PF.s_lg0, PF.s_lg1, PF.s_lg2, PF.s_lg3, PF.s_lg4, PF.s_w0, PF.s_w1, PF.s_fre, PF.s_fre1, PF.s_fre2, PF.s_fre3, PF.s_app, PF.s_app1, PF.s_app2, PF.s_app3, PF.s_pop, PF.s_pop1, PF.s_pop2, PF.s_whl, PF.s_wh1, PF.s_wh2, PF.s_wh3, PF.s_wh4, PF.s_nn, PF.s_nn1, PF.s_nnp, PF.s_nnn, PF.s_tol, PF.s_tol2, PF.s_tol3, PF.s_tup, PF.s_tup2, PF.s_len, PF.s_len2, PF.s_all, PF.at_pt, PF.at_pv, PF.g_s0, PF.g_s1, PF.g_sa, List.length_map, h2]
    rfl
  | d + 1, N + 1, R, h, hm, hl, hN => by
    have h2 : many < (R.length : Int) := by omega
    have hp : 0 < R.length := by omega
    have hp' : (0 : Int) < R.length := by omega
    have wl : intBits (R.length : Int) ≤ 8000 := bits_of_le (intBits_le_64 (by omega) (by omega)) (by decide)
    obtain ⟨i, hi, e⟩ := modN (c / (R.length : Int)) hp
    have hi2 : i < (R.map pt).length := by rw [List.length_map]; exact hi
    have hl2 : (R.map pt).length ≤ 10000000 := by rw [List.length_map]; omega
    have ih := shp_loop (k := k) (m := m) ec d N (R.eraseIdx i) (by rw [List.length_eraseIdx, if_pos hi]; omega) hm (by rw [List.length_eraseIdx, if_pos hi]; omega) (by omega)
    simp -implicitDefEqProofs (maxSteps := 400000) (disch := (first | with_reducible assumption | (with_reducible apply PF.mulOk_of <;> (repeat' (first | with_reducible assumption | with_reducible (apply PyProof.Rows.bits_add) | with_reducible (apply PyProof.Rows.bits_sub) | with_reducible (apply PyProof.Rows.bits_mul) | with_reducible (apply PyProof.Rows.bits_neg) | with_reducible (apply PF.bits_div (by first | omega | decide +kernel)) | with_reducible (apply PF.bits_mod (by first | omega | decide +kernel)) | (with_reducible show _ + _ ≤ 134217728; decide +kernel) | exact Nat.le_refl _))) | ((with_reducible apply PF.lt_len); with_unfolding_all rfl) | omega | decide +kernel)) only [PF.opI_mul, PF.opI_mod, PF.opI_fdiv, PF.ixT0, PF.ixT1, PF.cmp_eq, PF.cmp_ne, PF.cmp_lt, PF.cmp_le, PF.cmp_gt, PF.cmp_ge, PF.cmp_t2, PF.cmp_n2, PF.cmp_tt2, PF.cmp_nt2, PF.isInsT, PF.q_lo, PF.q_s1, PF.q_s2, PF.q_non, PF.q_bl, PF.q_int, PF.q_str, PF.q_gl, PF.q_bin, PF.q_bin1, PF.q_bin2, PF.q_kI, PF.q_kB, PF.q_kIm, PF.q_kFz, PF.q_neg, PF.q_neg1, PF.q_not, PF.q_not1, PF.q_cmp, PF.q_cmp1, PF.q_cmp2, PF.q_isN, PF.q_isN1, PF.q_and, PF.q_and1, PF.q_and2, PF.q_or, PF.q_or1, PF.q_or2, PF.q_ite, PF.q_ite1, PF.q_ite2, PF.q_tup, PF.q_tup1, PF.q_tup2, PF.q_lst, PF.q_lst1, PF.q_lst2, PF.q_ix, PF.q_ix1, PF.q_ix2, PF.q_call, PF.q_call1, PF.q_meth, PF.q_meth1, PF.q_meth2, PF.q_meth3, PF.q_fld, PF.q_fld1, PF.q_blt, PF.q_blt1, PF.q_isi, PF.q_isi0, PF.q_vs0, PF.q_vs1, PF.q_vs2, PF.q_vs3, PF.q_vb0, PF.q_vb1, PF.q_vb2, PF.q_vb3, PF.q_itE, PF.q_itE1, PF.q_it1, PF.q_it2, PF.q_it3, PF.q_asg, PF.q_asg0, PF.q_nx, PF.q_par, PF.q_par1, PF.q_ret, PF.q_ret1, PF.q_retN, PF.q_iff, PF.q_iff1, PF.q_iff2, PF.q_for, PF.q_for1, PF.q_fg0, PF.q_fg1, PF.q_fb, PF.q_f1, PF.q_f2, PF.q_rse, PF.q_es0, PF.q_es1, PF.q_cn, PF.q_cr, PF.q_rk1, PF.q_rk2, PF.q_see1, PF.q_see2, PF.q_see3, PF.q_fz1, PF.q_fz2, PF.q_out1, PF.q_out2, PF.q_out3, PF.q_op, PF.q_add, PF.q_sub, PF.q_isi1, PF.q_isi2, PF.q_isi3, PF.q_isi4, PF.q_isi5, PF.q_asg1, PF.q_asg2, PF.q_put1, PF.q_put2, PF.q_bnm, PF.q_bt0, PF.q_bt1, PF.q_bt2, PF.q_tg1, PF.q_tg2, PF.q_its1, PF.q_its2, PF.q_len1, PF.q_len2, PF.q_bint, PF.q_fld0, PF.q_ctx, PF.q_cgl, PF.q_cwf, PF.q_size, List.map_cons, List.map_nil, Nat.reduceSub, Nat.sub_self, List.replicate, List.append_nil, List.cons_append, List.nil_append, List.length_cons, List.length_nil, List.getElem?_cons_zero, List.getElem?_cons_succ, List.set_cons_zero, List.set_cons_succ, Nat.reduceAdd, Nat.reduceLT, Nat.reduceLeDiff, Int.cast_ofNat_Int, Int.reduceEq, Int.reduceLT, Int.reduceLE, decide_true, decide_false, if_true, Bool.false_eq_true, if_false, Bool.not_true, Bool.not_false, Bool.and_true, Bool.true_and, Bool.or_true, Bool.or_false, Bool.and_self, ite_true, ite_false, PF.g_nu, PF.g_pt, PF.g_n0, PF.g_n1, PF.g_p0, PF.g_p1, PF.g_pi, PF.g_pa, PF.g_pb, PF.g_fi, PF.g_ff, PF.g_ce, PF.g_cn, PF.g_pe, PF.g_pn, PF.s_lc, PF.s_lc1, PF.s_lc2, PF.s_lc3, PF.s_fI, PF.s_fI1, PF.s_fI2, PF.s_fI3, PF.s_fI4, PF.s_ec0, PF.s_ec1, PF.s_ec2, PF.s_ec3, PF.s_lg0, PF.s_lg1, PF.s_lg2, PF.s_lg3, PF.s_lg4, PF.s_w0, PF.s_w1, PF.s_fre, PF.s_fre1, PF.s_fre2, PF.s_fre3, PF.s_app, PF.s_app1, PF.s_app2, PF.s_app3, PF.s_pop, PF.s_pop1, PF.s_pop2, PF.s_whl, PF.s_wh1, PF.s_wh2, PF.s_wh3, PF.s_wh4, PF.s_nn, PF.s_nn1, PF.s_nnp, PF.s_nnn, PF.s_tol, PF.s_tol2, PF.s_tol3, PF.s_tup, PF.s_tup2, PF.s_len, PF.s_len2, PF.s_all, PF.at_pt, PF.at_pv, PF.g_s0, PF.g_s1, PF.g_sa, List.length_map, h2, ec, e, PF.er_map, ih]
    show _ = Oc.ok (Fl.nx [_, _, _, .ow ((pops c d (R.eraseIdx (c / (R.length : Int) % (R.length : Int)).toNat)).map pt), _])
    rw [e, Int.toNat_natCast]
theorem lshape {ns : List Int} (hb : ∀ z ∈ ns, intBits z ≤ 1048576) {m : Int} (hm : Sz m) (j : Int) (h0 : 0 ≤ j) (h1 : j ≤ 40) :
    ∃ S, (∀ k, callK Q (k + 6) 19 [.lst (ns.map Tr.int), .int j, .int m] = .ok (.ow (S.map pt))) ∧ ShN 168 m S ∧ 3 ≤ S.length := by
  have w : ∀ i : Int, 0 ≤ i → i ≤ 2000 → intBits i ≤ 64 := fun i h h' => intBits_le_64 (by omega) (by omega)
  obtain ⟨R, eR, hR, hl⟩ := lround hb hm j h0 h1
  obtain ⟨c9, e9, w9⟩ := cell hb (j + 9) (by omega) (w _ (by omega) (by omega))
  obtain ⟨c10, e10, w10⟩ := cell hb (j + 10) (by omega) (w _ (by omega) (by omega))
  have h6 := hR.2.2.2
  have hp : (0 : Int) < (R.length : Int) - 2 := by omega
  have r0 := Int.emod_nonneg c9 (show (R.length : Int) - 2 ≠ 0 by omega)
  have r1 := Int.emod_lt_of_pos c9 hp
  obtain ⟨d, hd⟩ : ∃ d : Nat, 3 + c9 % ((R.length : Int) - 2) + d = (R.length : Int) := ⟨(R.length - (3 + c9 % ((R.length : Int) - 2))).toNat, by omega⟩
  obtain ⟨p1, p2⟩ := popsN (c := c10) d hR (by omega)
  refine ⟨pops c10 d R, fun k => ?_, p1, by omega⟩
  have lp := shp_loop (k := k) (m := m) e10 d Q.wf R hd (by omega) (by omega) (show d + 1 ≤ 5000 by omega)
  rw [call_f (f := f19) rfl (k + 5) _ rfl]
  simp -implicitDefEqProofs (maxSteps := 400000) (disch := (first | with_reducible assumption | (with_reducible apply PF.mulOk_of <;> (repeat' (first | with_reducible assumption | with_reducible (apply PyProof.Rows.bits_add) | with_reducible (apply PyProof.Rows.bits_sub) | with_reducible (apply PyProof.Rows.bits_mul) | with_reducible (apply PyProof.Rows.bits_neg) | with_reducible (apply PF.bits_div (by first | omega | decide +kernel)) | with_reducible (apply PF.bits_mod (by first | omega | decide +kernel)) | (with_reducible show _ + _ ≤ 134217728; decide +kernel) | exact Nat.le_refl _))) | ((with_reducible apply PF.lt_len); with_unfolding_all rfl) | omega | decide +kernel)) only [PF.opI_mul, PF.opI_mod, PF.opI_fdiv, PF.ixT0, PF.ixT1, PF.cmp_eq, PF.cmp_ne, PF.cmp_lt, PF.cmp_le, PF.cmp_gt, PF.cmp_ge, PF.cmp_t2, PF.cmp_n2, PF.cmp_tt2, PF.cmp_nt2, PF.isInsT, PF.q_lo, PF.q_s1, PF.q_s2, PF.q_non, PF.q_bl, PF.q_int, PF.q_str, PF.q_gl, PF.q_bin, PF.q_bin1, PF.q_bin2, PF.q_kI, PF.q_kB, PF.q_kIm, PF.q_kFz, PF.q_neg, PF.q_neg1, PF.q_not, PF.q_not1, PF.q_cmp, PF.q_cmp1, PF.q_cmp2, PF.q_isN, PF.q_isN1, PF.q_and, PF.q_and1, PF.q_and2, PF.q_or, PF.q_or1, PF.q_or2, PF.q_ite, PF.q_ite1, PF.q_ite2, PF.q_tup, PF.q_tup1, PF.q_tup2, PF.q_lst, PF.q_lst1, PF.q_lst2, PF.q_ix, PF.q_ix1, PF.q_ix2, PF.q_call, PF.q_call1, PF.q_meth, PF.q_meth1, PF.q_meth2, PF.q_meth3, PF.q_fld, PF.q_fld1, PF.q_blt, PF.q_blt1, PF.q_isi, PF.q_isi0, PF.q_vs0, PF.q_vs1, PF.q_vs2, PF.q_vs3, PF.q_vb0, PF.q_vb1, PF.q_vb2, PF.q_vb3, PF.q_itE, PF.q_itE1, PF.q_it1, PF.q_it2, PF.q_it3, PF.q_asg, PF.q_asg0, PF.q_nx, PF.q_par, PF.q_par1, PF.q_ret, PF.q_ret1, PF.q_retN, PF.q_iff, PF.q_iff1, PF.q_iff2, PF.q_for, PF.q_for1, PF.q_fg0, PF.q_fg1, PF.q_fb, PF.q_f1, PF.q_f2, PF.q_rse, PF.q_es0, PF.q_es1, PF.q_cn, PF.q_cr, PF.q_rk1, PF.q_rk2, PF.q_see1, PF.q_see2, PF.q_see3, PF.q_fz1, PF.q_fz2, PF.q_out1, PF.q_out2, PF.q_out3, PF.q_op, PF.q_add, PF.q_sub, PF.q_isi1, PF.q_isi2, PF.q_isi3, PF.q_isi4, PF.q_isi5, PF.q_asg1, PF.q_asg2, PF.q_put1, PF.q_put2, PF.q_bnm, PF.q_bt0, PF.q_bt1, PF.q_bt2, PF.q_tg1, PF.q_tg2, PF.q_its1, PF.q_its2, PF.q_len1, PF.q_len2, PF.q_bint, PF.q_fld0, PF.q_ctx, PF.q_cgl, PF.q_cwf, PF.q_size, List.map_cons, List.map_nil, Nat.reduceSub, Nat.sub_self, List.replicate, List.append_nil, List.cons_append, List.nil_append, List.length_cons, List.length_nil, List.getElem?_cons_zero, List.getElem?_cons_succ, List.set_cons_zero, List.set_cons_succ, Nat.reduceAdd, Nat.reduceLT, Nat.reduceLeDiff, Int.cast_ofNat_Int, Int.reduceEq, Int.reduceLT, Int.reduceLE, decide_true, decide_false, if_true, Bool.false_eq_true, if_false, Bool.not_true, Bool.not_false, Bool.and_true, Bool.true_and, Bool.or_true, Bool.or_false, Bool.and_self, ite_true, ite_false, PF.g_nu, PF.g_pt, PF.g_n0, PF.g_n1, PF.g_p0, PF.g_p1, PF.g_pi, PF.g_pa, PF.g_pb, PF.g_fi, PF.g_ff, PF.g_ce, PF.g_cn, PF.g_pe, PF.g_pn, PF.s_lc, PF.s_lc1, PF.s_lc2, PF.s_lc3, PF.s_fI, PF.s_fI1, PF.s_fI2, PF.s_fI3, PF.s_fI4, PF.s_ec0, PF.s_ec1, PF.s_ec2, PF.s_ec3, PF.s_lg0, PF.s_lg1, PF.s_lg2, PF.s_lg3, PF.s_lg4, PF.s_w0, PF.s_w1, PF.s_fre, PF.s_fre1, PF.s_fre2, PF.s_fre3, PF.s_app, PF.s_app1, PF.s_app2, PF.s_app3, PF.s_pop, PF.s_pop1, PF.s_pop2, PF.s_whl, PF.s_wh1, PF.s_wh2, PF.s_wh3, PF.s_wh4, PF.s_nn, PF.s_nn1, PF.s_nnp, PF.s_nnn, PF.s_tol, PF.s_tol2, PF.s_tol3, PF.s_tup, PF.s_tup2, PF.s_len, PF.s_len2, PF.s_all, PF.at_pt, PF.at_pv, PF.g_s0, PF.g_s1, PF.g_sa, List.length_map, f19, b19, eR, e9, lp]
end Zk10

set_option maxHeartbeats 4000000
namespace Zk10
open PySem PySem.Spec PyProof.Rows L2 PySem.HandSPX PF
open Builtin.Int (intBits)
theorem cells {ns : List Int} (hb : ∀ z ∈ ns, intBits z ≤ 1048576) : ∃ Z : Nat → Int, ∀ j : Nat, j < 1000 → ∀ k, callK Q (k + 1) 11 [.lst (ns.map Tr.int), .int (j : Int)] = .ok (.im (.int (Z j))) := by
  refine ⟨fun j => if h : j < 1000 then Classical.choose (cell hb (j : Int) (by omega) (intBits_le_64 (by omega) (by omega))) else 0, fun j hj k => ?_⟩
  dsimp only
  rw [dif_pos hj]
  exact (Classical.choose_spec (cell hb (j : Int) (by omega) (intBits_le_64 (by omega) (by omega)))).1 k
theorem is_shape {k : Nat} {m : Int} (hm : Sz m) {S : List Pt} (h : OkS m S) : callK Q (k + 5) 10 [fr m, .lst (S.map pt)] = .ok (.im (.bl (isS m S))) := by
  rw [call_f (f := f10) rfl (k + 4) _ rfl]
  by_cases h3 : (S.length : Int) < 3
  · rw [isS_few (by omega)]
    simp -implicitDefEqProofs (maxSteps := 400000) (disch := (first | with_reducible assumption | (with_reducible apply PF.mulOk_of <;> (repeat' (first | with_reducible assumption | with_reducible (apply PyProof.Rows.bits_add) | with_reducible (apply PyProof.Rows.bits_sub) | with_reducible (apply PyProof.Rows.bits_mul) | with_reducible (apply PyProof.Rows.bits_neg) | with_reducible (apply PF.bits_div (by first | omega | decide +kernel)) | with_reducible (apply PF.bits_mod (by first | omega | decide +kernel)) | (with_reducible show _ + _ ≤ 134217728; decide +kernel) | exact Nat.le_refl _))) | ((with_reducible apply PF.lt_len); with_unfolding_all rfl) | omega | decide +kernel)) only [PF.opI_mul, PF.opI_mod, PF.opI_fdiv, PF.ixT0, PF.ixT1, PF.cmp_eq, PF.cmp_ne, PF.cmp_lt, PF.cmp_le, PF.cmp_gt, PF.cmp_ge, PF.cmp_t2, PF.cmp_n2, PF.cmp_tt2, PF.cmp_nt2, PF.isInsT, PF.q_lo, PF.q_s1, PF.q_s2, PF.q_non, PF.q_bl, PF.q_int, PF.q_str, PF.q_gl, PF.q_bin, PF.q_bin1, PF.q_bin2, PF.q_kI, PF.q_kB, PF.q_kIm, PF.q_kFz, PF.q_neg, PF.q_neg1, PF.q_not, PF.q_not1, PF.q_cmp, PF.q_cmp1, PF.q_cmp2, PF.q_isN, PF.q_isN1, PF.q_and, PF.q_and1, PF.q_and2, PF.q_or, PF.q_or1, PF.q_or2, PF.q_ite, PF.q_ite1, PF.q_ite2, PF.q_tup, PF.q_tup1, PF.q_tup2, PF.q_lst, PF.q_lst1, PF.q_lst2, PF.q_ix, PF.q_ix1, PF.q_ix2, PF.q_call, PF.q_call1, PF.q_meth, PF.q_meth1, PF.q_meth2, PF.q_meth3, PF.q_fld, PF.q_fld1, PF.q_blt, PF.q_blt1, PF.q_isi, PF.q_isi0, PF.q_vs0, PF.q_vs1, PF.q_vs2, PF.q_vs3, PF.q_vb0, PF.q_vb1, PF.q_vb2, PF.q_vb3, PF.q_itE, PF.q_itE1, PF.q_it1, PF.q_it2, PF.q_it3, PF.q_asg, PF.q_asg0, PF.q_nx, PF.q_par, PF.q_par1, PF.q_ret, PF.q_ret1, PF.q_retN, PF.q_iff, PF.q_iff1, PF.q_iff2, PF.q_for, PF.q_for1, PF.q_fg0, PF.q_fg1, PF.q_fb, PF.q_f1, PF.q_f2, PF.q_rse, PF.q_es0, PF.q_es1, PF.q_cn, PF.q_cr, PF.q_rk1, PF.q_rk2, PF.q_see1, PF.q_see2, PF.q_see3, PF.q_fz1, PF.q_fz2, PF.q_out1, PF.q_out2, PF.q_out3, PF.q_op, PF.q_add, PF.q_sub, PF.q_isi1, PF.q_isi2, PF.q_isi3, PF.q_isi4, PF.q_isi5, PF.q_asg1, PF.q_asg2, PF.q_put1, PF.q_put2, PF.q_bnm, PF.q_bt0, PF.q_bt1, PF.q_bt2, PF.q_tg1, PF.q_tg2, PF.q_its1, PF.q_its2, PF.q_len1, PF.q_len2, PF.q_bint, PF.q_fld0, PF.q_ctx, PF.q_cgl, PF.q_cwf, PF.q_size, List.map_cons, List.map_nil, Nat.reduceSub, Nat.sub_self, List.replicate, List.append_nil, List.cons_append, List.nil_append, List.length_cons, List.length_nil, List.getElem?_cons_zero, List.getElem?_cons_succ, List.set_cons_zero, List.set_cons_succ, Nat.reduceAdd, Nat.reduceLT, Nat.reduceLeDiff, Int.cast_ofNat_Int, Int.reduceEq, Int.reduceLT, Int.reduceLE, decide_true, decide_false, if_true, Bool.false_eq_true, if_false, Bool.not_true, Bool.not_false, Bool.and_true, Bool.true_and, Bool.or_true, Bool.or_false, Bool.and_self, ite_true, ite_false, PF.g_nu, PF.g_pt, PF.g_n0, PF.g_n1, PF.g_p0, PF.g_p1, PF.g_pi, PF.g_pa, PF.g_pb, PF.g_fi, PF.g_ff, PF.g_ce, PF.g_cn, PF.g_pe, PF.g_pn, PF.s_lc, PF.s_lc1, PF.s_lc2, PF.s_lc3, PF.s_fI, PF.s_fI1, PF.s_fI2, PF.s_fI3, PF.s_fI4, PF.s_ec0, PF.s_ec1, PF.s_ec2, PF.s_ec3, PF.s_lg0, PF.s_lg1, PF.s_lg2, PF.s_lg3, PF.s_lg4, PF.s_w0, PF.s_w1, PF.s_fre, PF.s_fre1, PF.s_fre2, PF.s_fre3, PF.s_app, PF.s_app1, PF.s_app2, PF.s_app3, PF.s_pop, PF.s_pop1, PF.s_pop2, PF.s_whl, PF.s_wh1, PF.s_wh2, PF.s_wh3, PF.s_wh4, PF.s_nn, PF.s_nn1, PF.s_nnp, PF.s_nnn, PF.s_tol, PF.s_tol2, PF.s_tol3, PF.s_tup, PF.s_tup2, PF.s_len, PF.s_len2, PF.s_all, PF.at_pt, PF.at_pv, PF.g_s0, PF.g_s1, PF.g_sa, PF.s_sl, PF.s_sl1, PF.s_sl2, PF.s_sl3, PF.s_sl4, PF.s_sl5, PF.s_bn0, PF.s_bn1, PF.s_bn2, PF.s_bn3, PF.g_itn, PF.g_itp, PF.s_seti, PF.s_seti1, PF.s_seti2, PF.s_seti3, PF.s_seti4, PF.s_swp, PF.s_swp1, PF.s_swp2, PF.s_swp3, PF.s_sub, PF.s_sub1, PF.s_sub2, PF.s_sub3, PF.s_rev, PF.s_rev1, PF.s_rev2, PF.s_rev3, PF.s_isb, PF.s_isb1, PF.s_isb2, PF.s_isb3, PF.s_isb4, PF.g_catm, PF.g_catb, PF.g_cati, PF.g_cat2, PF.g_mapp, PF.g_map1, PF.g_mrev, PF.g_isib, PF.g_l0, PF.g_l1, PF.g_l2, PF.g_l3, PF.g_sm2, PF.g_sm3, PF.g_sm4, PF.g_r2, PF.g_r3, PF.g_r4, List.length_map, f10, b10, h3]
  · by_cases h6 : (6 : Int) < (S.length : Int)
    · rw [isS_few (by omega)]
      simp -implicitDefEqProofs (maxSteps := 400000) (disch := (first | with_reducible assumption | (with_reducible apply PF.mulOk_of <;> (repeat' (first | with_reducible assumption | with_reducible (apply PyProof.Rows.bits_add) | with_reducible (apply PyProof.Rows.bits_sub) | with_reducible (apply PyProof.Rows.bits_mul) | with_reducible (apply PyProof.Rows.bits_neg) | with_reducible (apply PF.bits_div (by first | omega | decide +kernel)) | with_reducible (apply PF.bits_mod (by first | omega | decide +kernel)) | (with_reducible show _ + _ ≤ 134217728; decide +kernel) | exact Nat.le_refl _))) | ((with_reducible apply PF.lt_len); with_unfolding_all rfl) | omega | decide +kernel)) only [PF.opI_mul, PF.opI_mod, PF.opI_fdiv, PF.ixT0, PF.ixT1, PF.cmp_eq, PF.cmp_ne, PF.cmp_lt, PF.cmp_le, PF.cmp_gt, PF.cmp_ge, PF.cmp_t2, PF.cmp_n2, PF.cmp_tt2, PF.cmp_nt2, PF.isInsT, PF.q_lo, PF.q_s1, PF.q_s2, PF.q_non, PF.q_bl, PF.q_int, PF.q_str, PF.q_gl, PF.q_bin, PF.q_bin1, PF.q_bin2, PF.q_kI, PF.q_kB, PF.q_kIm, PF.q_kFz, PF.q_neg, PF.q_neg1, PF.q_not, PF.q_not1, PF.q_cmp, PF.q_cmp1, PF.q_cmp2, PF.q_isN, PF.q_isN1, PF.q_and, PF.q_and1, PF.q_and2, PF.q_or, PF.q_or1, PF.q_or2, PF.q_ite, PF.q_ite1, PF.q_ite2, PF.q_tup, PF.q_tup1, PF.q_tup2, PF.q_lst, PF.q_lst1, PF.q_lst2, PF.q_ix, PF.q_ix1, PF.q_ix2, PF.q_call, PF.q_call1, PF.q_meth, PF.q_meth1, PF.q_meth2, PF.q_meth3, PF.q_fld, PF.q_fld1, PF.q_blt, PF.q_blt1, PF.q_isi, PF.q_isi0, PF.q_vs0, PF.q_vs1, PF.q_vs2, PF.q_vs3, PF.q_vb0, PF.q_vb1, PF.q_vb2, PF.q_vb3, PF.q_itE, PF.q_itE1, PF.q_it1, PF.q_it2, PF.q_it3, PF.q_asg, PF.q_asg0, PF.q_nx, PF.q_par, PF.q_par1, PF.q_ret, PF.q_ret1, PF.q_retN, PF.q_iff, PF.q_iff1, PF.q_iff2, PF.q_for, PF.q_for1, PF.q_fg0, PF.q_fg1, PF.q_fb, PF.q_f1, PF.q_f2, PF.q_rse, PF.q_es0, PF.q_es1, PF.q_cn, PF.q_cr, PF.q_rk1, PF.q_rk2, PF.q_see1, PF.q_see2, PF.q_see3, PF.q_fz1, PF.q_fz2, PF.q_out1, PF.q_out2, PF.q_out3, PF.q_op, PF.q_add, PF.q_sub, PF.q_isi1, PF.q_isi2, PF.q_isi3, PF.q_isi4, PF.q_isi5, PF.q_asg1, PF.q_asg2, PF.q_put1, PF.q_put2, PF.q_bnm, PF.q_bt0, PF.q_bt1, PF.q_bt2, PF.q_tg1, PF.q_tg2, PF.q_its1, PF.q_its2, PF.q_len1, PF.q_len2, PF.q_bint, PF.q_fld0, PF.q_ctx, PF.q_cgl, PF.q_cwf, PF.q_size, List.map_cons, List.map_nil, Nat.reduceSub, Nat.sub_self, List.replicate, List.append_nil, List.cons_append, List.nil_append, List.length_cons, List.length_nil, List.getElem?_cons_zero, List.getElem?_cons_succ, List.set_cons_zero, List.set_cons_succ, Nat.reduceAdd, Nat.reduceLT, Nat.reduceLeDiff, Int.cast_ofNat_Int, Int.reduceEq, Int.reduceLT, Int.reduceLE, decide_true, decide_false, if_true, Bool.false_eq_true, if_false, Bool.not_true, Bool.not_false, Bool.and_true, Bool.true_and, Bool.or_true, Bool.or_false, Bool.and_self, ite_true, ite_false, PF.g_nu, PF.g_pt, PF.g_n0, PF.g_n1, PF.g_p0, PF.g_p1, PF.g_pi, PF.g_pa, PF.g_pb, PF.g_fi, PF.g_ff, PF.g_ce, PF.g_cn, PF.g_pe, PF.g_pn, PF.s_lc, PF.s_lc1, PF.s_lc2, PF.s_lc3, PF.s_fI, PF.s_fI1, PF.s_fI2, PF.s_fI3, PF.s_fI4, PF.s_ec0, PF.s_ec1, PF.s_ec2, PF.s_ec3, PF.s_lg0, PF.s_lg1, PF.s_lg2, PF.s_lg3, PF.s_lg4, PF.s_w0, PF.s_w1, PF.s_fre, PF.s_fre1, PF.s_fre2, PF.s_fre3, PF.s_app, PF.s_app1, PF.s_app2, PF.s_app3, PF.s_pop, PF.s_pop1, PF.s_pop2, PF.s_whl, PF.s_wh1, PF.s_wh2, PF.s_wh3, PF.s_wh4, PF.s_nn, PF.s_nn1, PF.s_nnp, PF.s_nnn, PF.s_tol, PF.s_tol2, PF.s_tol3, PF.s_tup, PF.s_tup2, PF.s_len, PF.s_len2, PF.s_all, PF.at_pt, PF.at_pv, PF.g_s0, PF.g_s1, PF.g_sa, PF.s_sl, PF.s_sl1, PF.s_sl2, PF.s_sl3, PF.s_sl4, PF.s_sl5, PF.s_bn0, PF.s_bn1, PF.s_bn2, PF.s_bn3, PF.g_itn, PF.g_itp, PF.s_seti, PF.s_seti1, PF.s_seti2, PF.s_seti3, PF.s_seti4, PF.s_swp, PF.s_swp1, PF.s_swp2, PF.s_swp3, PF.s_sub, PF.s_sub1, PF.s_sub2, PF.s_sub3, PF.s_rev, PF.s_rev1, PF.s_rev2, PF.s_rev3, PF.s_isb, PF.s_isb1, PF.s_isb2, PF.s_isb3, PF.s_isb4, PF.g_catm, PF.g_catb, PF.g_cati, PF.g_cat2, PF.g_mapp, PF.g_map1, PF.g_mrev, PF.g_isib, PF.g_l0, PF.g_l1, PF.g_l2, PF.g_l3, PF.g_sm2, PF.g_sm3, PF.g_sm4, PF.g_r2, PF.g_r3, PF.g_r4, List.length_map, f10, b10, h3, h6]
    · have hs : smallI (S.length : Int) = true := g_sm _ (by omega)
      have hs2 : smallI ((S.length : Int) - 2) = true := by rw [show (S.length : Int) - 2 = ((S.length - 2 : Nat) : Int) by omega]; exact g_sm _ (by omega)
      have hl0 : (0 : Int) < S.length := by omega
      simp -implicitDefEqProofs (maxSteps := 400000) (disch := (first | with_reducible assumption | (with_reducible apply PF.mulOk_of <;> (repeat' (first | with_reducible assumption | with_reducible (apply PyProof.Rows.bits_add) | with_reducible (apply PyProof.Rows.bits_sub) | with_reducible (apply PyProof.Rows.bits_mul) | with_reducible (apply PyProof.Rows.bits_neg) | with_reducible (apply PF.bits_div (by first | omega | decide +kernel)) | with_reducible (apply PF.bits_mod (by first | omega | decide +kernel)) | (with_reducible show _ + _ ≤ 134217728; decide +kernel) | exact Nat.le_refl _))) | ((with_reducible apply PF.lt_len); with_unfolding_all rfl) | omega | decide +kernel)) only [PF.opI_mul, PF.opI_mod, PF.opI_fdiv, PF.ixT0, PF.ixT1, PF.cmp_eq, PF.cmp_ne, PF.cmp_lt, PF.cmp_le, PF.cmp_gt, PF.cmp_ge, PF.cmp_t2, PF.cmp_n2, PF.cmp_tt2, PF.cmp_nt2, PF.isInsT, PF.q_lo, PF.q_s1, PF.q_s2, PF.q_non, PF.q_bl, PF.q_int, PF.q_str, PF.q_gl, PF.q_bin, PF.q_bin1, PF.q_bin2, PF.q_kI, PF.q_kB, PF.q_kIm, PF.q_kFz, PF.q_neg, PF.q_neg1, PF.q_not, PF.q_not1, PF.q_cmp, PF.q_cmp1, PF.q_cmp2, PF.q_isN, PF.q_isN1, PF.q_and, PF.q_and1, PF.q_and2, PF.q_or, PF.q_or1, PF.q_or2, PF.q_ite, PF.q_ite1, PF.q_ite2, PF.q_tup, PF.q_tup1, PF.q_tup2, PF.q_lst, PF.q_lst1, PF.q_lst2, PF.q_ix, PF.q_ix1, PF.q_ix2, PF.q_call, PF.q_call1, PF.q_meth, PF.q_meth1, PF.q_meth2, PF.q_meth3, PF.q_fld, PF.q_fld1, PF.q_blt, PF.q_blt1, PF.q_isi, PF.q_isi0, PF.q_vs0, PF.q_vs1, PF.q_vs2, PF.q_vs3, PF.q_vb0, PF.q_vb1, PF.q_vb2, PF.q_vb3, PF.q_itE, PF.q_itE1, PF.q_it1, PF.q_it2, PF.q_it3, PF.q_asg, PF.q_asg0, PF.q_nx, PF.q_par, PF.q_par1, PF.q_ret, PF.q_ret1, PF.q_retN, PF.q_iff, PF.q_iff1, PF.q_iff2, PF.q_for, PF.q_for1, PF.q_fg0, PF.q_fg1, PF.q_fb, PF.q_f1, PF.q_f2, PF.q_rse, PF.q_es0, PF.q_es1, PF.q_cn, PF.q_cr, PF.q_rk1, PF.q_rk2, PF.q_see1, PF.q_see2, PF.q_see3, PF.q_fz1, PF.q_fz2, PF.q_out1, PF.q_out2, PF.q_out3, PF.q_op, PF.q_add, PF.q_sub, PF.q_isi1, PF.q_isi2, PF.q_isi3, PF.q_isi4, PF.q_isi5, PF.q_asg1, PF.q_asg2, PF.q_put1, PF.q_put2, PF.q_bnm, PF.q_bt0, PF.q_bt1, PF.q_bt2, PF.q_tg1, PF.q_tg2, PF.q_its1, PF.q_its2, PF.q_len1, PF.q_len2, PF.q_bint, PF.q_fld0, PF.q_ctx, PF.q_cgl, PF.q_cwf, PF.q_size, List.map_cons, List.map_nil, Nat.reduceSub, Nat.sub_self, List.replicate, List.append_nil, List.cons_append, List.nil_append, List.length_cons, List.length_nil, List.getElem?_cons_zero, List.getElem?_cons_succ, List.set_cons_zero, List.set_cons_succ, Nat.reduceAdd, Nat.reduceLT, Nat.reduceLeDiff, Int.cast_ofNat_Int, Int.reduceEq, Int.reduceLT, Int.reduceLE, decide_true, decide_false, if_true, Bool.false_eq_true, if_false, Bool.not_true, Bool.not_false, Bool.and_true, Bool.true_and, Bool.or_true, Bool.or_false, Bool.and_self, ite_true, ite_false, PF.g_nu, PF.g_pt, PF.g_n0, PF.g_n1, PF.g_p0, PF.g_p1, PF.g_pi, PF.g_pa, PF.g_pb, PF.g_fi, PF.g_ff, PF.g_ce, PF.g_cn, PF.g_pe, PF.g_pn, PF.s_lc, PF.s_lc1, PF.s_lc2, PF.s_lc3, PF.s_fI, PF.s_fI1, PF.s_fI2, PF.s_fI3, PF.s_fI4, PF.s_ec0, PF.s_ec1, PF.s_ec2, PF.s_ec3, PF.s_lg0, PF.s_lg1, PF.s_lg2, PF.s_lg3, PF.s_lg4, PF.s_w0, PF.s_w1, PF.s_fre, PF.s_fre1, PF.s_fre2, PF.s_fre3, PF.s_app, PF.s_app1, PF.s_app2, PF.s_app3, PF.s_pop, PF.s_pop1, PF.s_pop2, PF.s_whl, PF.s_wh1, PF.s_wh2, PF.s_wh3, PF.s_wh4, PF.s_nn, PF.s_nn1, PF.s_nnp, PF.s_nnn, PF.s_tol, PF.s_tol2, PF.s_tol3, PF.s_tup, PF.s_tup2, PF.s_len, PF.s_len2, PF.s_all, PF.at_pt, PF.at_pv, PF.g_s0, PF.g_s1, PF.g_sa, PF.s_sl, PF.s_sl1, PF.s_sl2, PF.s_sl3, PF.s_sl4, PF.s_sl5, PF.s_bn0, PF.s_bn1, PF.s_bn2, PF.s_bn3, PF.g_itn, PF.g_itp, PF.s_seti, PF.s_seti1, PF.s_seti2, PF.s_seti3, PF.s_seti4, PF.s_swp, PF.s_swp1, PF.s_swp2, PF.s_swp3, PF.s_sub, PF.s_sub1, PF.s_sub2, PF.s_sub3, PF.s_rev, PF.s_rev1, PF.s_rev2, PF.s_rev3, PF.s_isb, PF.s_isb1, PF.s_isb2, PF.s_isb3, PF.s_isb4, PF.g_catm, PF.g_catb, PF.g_cati, PF.g_cat2, PF.g_mapp, PF.g_map1, PF.g_mrev, PF.g_isib, PF.g_l0, PF.g_l1, PF.g_l2, PF.g_l3, PF.g_sm2, PF.g_sm3, PF.g_sm4, PF.g_r2, PF.g_r3, PF.g_r4, List.length_map, f10, b10, h3, h6, hs]
      rw [rng_map]
      refine at_any (F := fun k : Nat => Tr.int (k : Int)) (fun k => (List.range (S.length - 2)).any fun i => !decide (hd m (gt S (pv S.length k)) (gt S k) (gt S ((k + 1 + i) % S.length)) = 1)) (fun e => ∃ x y z, e = [.im (fr m), .im (.lst (S.map pt)), x, y, z]) (.im (.bl false)) (fun r => kEnd (kCont (Q.ctx (k + 4)) _ r)) ?_ ⟨_, _, _, rfl⟩ ?_ ?_
      · rintro j hj e ⟨x, y, z, rfl⟩
        have hj := List.mem_range.mp hj
        have a1 := at_pt hj
        have a2 := at_pv hj
        have inner : (((List.range (S.length - 2)).any fun i => !decide (hd m (gt S (pv S.length j)) (gt S j) (gt S ((j + 1 + i) % S.length)) = 1)) = true → forK (Q.ctx (k + 4)) (.nm 3) [.asg (.nm 4) (.ix (.lo 1) (.bin .mod (.bin .add (.bin .add (.lo 2) (.int 1)) (.lo 3)) (.blt .len [.lo 1]))), .iff (.cmp .ne (.call 9 [.lo 0, .ix (.lo 1) (.bin .sub (.lo 2) (.int 1)), .ix (.lo 1) (.lo 2), .lo 4]) (.int 1)) [.ret (.bl false)] []] ((List.range (S.length - 2)).map fun k : Nat => Tr.int (k : Int)) [.im (fr m), .im (.lst (S.map pt)), .im (.int (j : Int)), y, z] = .ok (.rt (.im (.bl false)))) ∧ (((List.range (S.length - 2)).any fun i => !decide (hd m (gt S (pv S.length j)) (gt S j) (gt S ((j + 1 + i) % S.length)) = 1)) = false → ∃ e', forK (Q.ctx (k + 4)) (.nm 3) [.asg (.nm 4) (.ix (.lo 1) (.bin .mod (.bin .add (.bin .add (.lo 2) (.int 1)) (.lo 3)) (.blt .len [.lo 1]))), .iff (.cmp .ne (.call 9 [.lo 0, .ix (.lo 1) (.bin .sub (.lo 2) (.int 1)), .ix (.lo 1) (.lo 2), .lo 4]) (.int 1)) [.ret (.bl false)] []] ((List.range (S.length - 2)).map fun k : Nat => Tr.int (k : Int)) [.im (fr m), .im (.lst (S.map pt)), .im (.int (j : Int)), y, z] = .ok (.nx e') ∧ ∃ y z, e' = [.im (fr m), .im (.lst (S.map pt)), .im (.int (j : Int)), y, z]) := by
          refine for_any (P := fun i => !decide (hd m (gt S (pv S.length j)) (gt S j) (gt S ((j + 1 + i) % S.length)) = 1)) (I := fun e => ∃ y z, e = [.im (fr m), .im (.lst (S.map pt)), .im (.int (j : Int)), y, z]) ?_ _ ⟨_, _, rfl⟩
          rintro i hi e ⟨y, z, rfl⟩
          have hi := List.mem_range.mp hi
          have a3 : ixE (.lst (S.map pt)) (.int (((j : Int) + 1 + (i : Int)) % (S.length : Int))) = .ok (pt (gt S ((j + 1 + i) % S.length))) := at_pt (Nat.mod_lt _ (by omega))
          have x := hand (k := k) hm (h.1 _ (gt_mem (pv_lt hj))) (h.1 _ (gt_mem hj)) (h.1 _ (gt_mem (Nat.mod_lt (j + 1 + i) (show 0 < S.length by omega))))
          constructor
          · intro hp
            have hp : ¬ (hd m (gt S (pv S.length j)) (gt S j) (gt S ((j + 1 + i) % S.length)) = 1) := by simpa using hp
            simp -implicitDefEqProofs (maxSteps := 400000) (disch := (first | with_reducible assumption | (with_reducible apply PF.mulOk_of <;> (repeat' (first | with_reducible assumption | with_reducible (apply PyProof.Rows.bits_add) | with_reducible (apply PyProof.Rows.bits_sub) | with_reducible (apply PyProof.Rows.bits_mul) | with_reducible (apply PyProof.Rows.bits_neg) | with_reducible (apply PF.bits_div (by first | omega | decide +kernel)) | with_reducible (apply PF.bits_mod (by first | omega | decide +kernel)) | (with_reducible show _ + _ ≤ 134217728; decide +kernel) | exact Nat.le_refl _))) | ((with_reducible apply PF.lt_len); with_unfolding_all rfl) | omega | decide +kernel)) only [PF.opI_mul, PF.opI_mod, PF.opI_fdiv, PF.ixT0, PF.ixT1, PF.cmp_eq, PF.cmp_ne, PF.cmp_lt, PF.cmp_le, PF.cmp_gt, PF.cmp_ge, PF.cmp_t2, PF.cmp_n2, PF.cmp_tt2, PF.cmp_nt2, PF.isInsT, PF.q_lo, PF.q_s1, PF.q_s2, PF.q_non, PF.q_bl, PF.q_int, PF.q_str, PF.q_gl, PF.q_bin, PF.q_bin1, PF.q_bin2, PF.q_kI, PF.q_kB, PF.q_kIm, PF.q_kFz, PF.q_neg, PF.q_neg1, PF.q_not, PF.q_not1, PF.q_cmp, PF.q_cmp1, PF.q_cmp2, PF.q_isN, PF.q_isN1, PF.q_and, PF.q_and1, PF.q_and2, PF.q_or, PF.q_or1, PF.q_or2, PF.q_ite, PF.q_ite1, PF.q_ite2, PF.q_tup, PF.q_tup1, PF.q_tup2, PF.q_lst, PF.q_lst1, PF.q_lst2, PF.q_ix, PF.q_ix1, PF.q_ix2, PF.q_call, PF.q_call1, PF.q_meth, PF.q_meth1, PF.q_meth2, PF.q_meth3, PF.q_fld, PF.q_fld1, PF.q_blt, PF.q_blt1, PF.q_isi, PF.q_isi0, PF.q_vs0, PF.q_vs1, PF.q_vs2, PF.q_vs3, PF.q_vb0, PF.q_vb1, PF.q_vb2, PF.q_vb3, PF.q_itE, PF.q_itE1, PF.q_it1, PF.q_it2, PF.q_it3, PF.q_asg, PF.q_asg0, PF.q_nx, PF.q_par, PF.q_par1, PF.q_ret, PF.q_ret1, PF.q_retN, PF.q_iff, PF.q_iff1, PF.q_iff2, PF.q_for, PF.q_for1, PF.q_fg0, PF.q_fg1, PF.q_fb, PF.q_f1, PF.q_f2, PF.q_rse, PF.q_es0, PF.q_es1, PF.q_cn, PF.q_cr, PF.q_rk1, PF.q_rk2, PF.q_see1, PF.q_see2, PF.q_see3, PF.q_fz1, PF.q_fz2, PF.q_out1, PF.q_out2, PF.q_out3, PF.q_op, PF.q_add, PF.q_sub, PF.q_isi1, PF.q_isi2, PF.q_isi3, PF.q_isi4, PF.q_isi5, PF.q_asg1, PF.q_asg2, PF.q_put1, PF.q_put2, PF.q_bnm, PF.q_bt0, PF.q_bt1, PF.q_bt2, PF.q_tg1, PF.q_tg2, PF.q_its1, PF.q_its2, PF.q_len1, PF.q_len2, PF.q_bint, PF.q_fld0, PF.q_ctx, PF.q_cgl, PF.q_cwf, PF.q_size, List.map_cons, List.map_nil, Nat.reduceSub, Nat.sub_self, List.replicate, List.append_nil, List.cons_append, List.nil_append, List.length_cons, List.length_nil, List.getElem?_cons_zero, List.getElem?_cons_succ, List.set_cons_zero, List.set_cons_succ, Nat.reduceAdd, Nat.reduceLT, Nat.reduceLeDiff, Int.cast_ofNat_Int, Int.reduceEq, Int.reduceLT, Int.reduceLE, decide_true, decide_false, if_true, Bool.false_eq_true, if_false, Bool.not_true, Bool.not_false, Bool.and_true, Bool.true_and, Bool.or_true, Bool.or_false, Bool.and_self, ite_true, ite_false, PF.g_nu, PF.g_pt, PF.g_n0, PF.g_n1, PF.g_p0, PF.g_p1, PF.g_pi, PF.g_pa, PF.g_pb, PF.g_fi, PF.g_ff, PF.g_ce, PF.g_cn, PF.g_pe, PF.g_pn, PF.s_lc, PF.s_lc1, PF.s_lc2, PF.s_lc3, PF.s_fI, PF.s_fI1, PF.s_fI2, PF.s_fI3, PF.s_fI4, PF.s_ec0, PF.s_ec1, PF.s_ec2, PF.s_ec3, PF.s_lg0, PF.s_lg1, PF.s_lg2, PF.s_lg3, PF.s_lg4, PF.s_w0, PF.s_w1, PF.s_fre, PF.s_fre1, PF.s_fre2, PF.s_fre3, PF.s_app, PF.s_app1, PF.s_app2, PF.s_app3, PF.s_pop, PF.s_pop1, PF.s_pop2, PF.s_whl, PF.s_wh1, PF.s_wh2, PF.s_wh3, PF.s_wh4, PF.s_nn, PF.s_nn1, PF.s_nnp, PF.s_nnn, PF.s_tol, PF.s_tol2, PF.s_tol3, PF.s_tup, PF.s_tup2, PF.s_len, PF.s_len2, PF.s_all, PF.at_pt, PF.at_pv, PF.g_s0, PF.g_s1, PF.g_sa, PF.s_sl, PF.s_sl1, PF.s_sl2, PF.s_sl3, PF.s_sl4, PF.s_sl5, PF.s_bn0, PF.s_bn1, PF.s_bn2, PF.s_bn3, PF.g_itn, PF.g_itp, PF.s_seti, PF.s_seti1, PF.s_seti2, PF.s_seti3, PF.s_seti4, PF.s_swp, PF.s_swp1, PF.s_swp2, PF.s_swp3, PF.s_sub, PF.s_sub1, PF.s_sub2, PF.s_sub3, PF.s_rev, PF.s_rev1, PF.s_rev2, PF.s_rev3, PF.s_isb, PF.s_isb1, PF.s_isb2, PF.s_isb3, PF.s_isb4, PF.g_catm, PF.g_catb, PF.g_cati, PF.g_cat2, PF.g_mapp, PF.g_map1, PF.g_mrev, PF.g_isib, PF.g_l0, PF.g_l1, PF.g_l2, PF.g_l3, PF.g_sm2, PF.g_sm3, PF.g_sm4, PF.g_r2, PF.g_r3, PF.g_r4, List.length_map, a1, a2, a3, x, hp]
          · intro hp
            have hp : hd m (gt S (pv S.length j)) (gt S j) (gt S ((j + 1 + i) % S.length)) = 1 := by simpa using hp
            rw [hp] at x
            refine ⟨_, ?_, ⟨.im (.int (i : Int)), .im (pt (gt S ((j + 1 + i) % S.length))), rfl⟩⟩
            simp -implicitDefEqProofs (maxSteps := 400000) (disch := (first | with_reducible assumption | (with_reducible apply PF.mulOk_of <;> (repeat' (first | with_reducible assumption | with_reducible (apply PyProof.Rows.bits_add) | with_reducible (apply PyProof.Rows.bits_sub) | with_reducible (apply PyProof.Rows.bits_mul) | with_reducible (apply PyProof.Rows.bits_neg) | with_reducible (apply PF.bits_div (by first | omega | decide +kernel)) | with_reducible (apply PF.bits_mod (by first | omega | decide +kernel)) | (with_reducible show _ + _ ≤ 134217728; decide +kernel) | exact Nat.le_refl _))) | ((with_reducible apply PF.lt_len); with_unfolding_all rfl) | omega | decide +kernel)) only [PF.opI_mul, PF.opI_mod, PF.opI_fdiv, PF.ixT0, PF.ixT1, PF.cmp_eq, PF.cmp_ne, PF.cmp_lt, PF.cmp_le, PF.cmp_gt, PF.cmp_ge, PF.cmp_t2, PF.cmp_n2, PF.cmp_tt2, PF.cmp_nt2, PF.isInsT, PF.q_lo, PF.q_s1, PF.q_s2, PF.q_non, PF.q_bl, PF.q_int, PF.q_str, PF.q_gl, PF.q_bin, PF.q_bin1, PF.q_bin2, PF.q_kI, PF.q_kB, PF.q_kIm, PF.q_kFz, PF.q_neg, PF.q_neg1, PF.q_not, PF.q_not1, PF.q_cmp, PF.q_cmp1, PF.q_cmp2, PF.q_isN, PF.q_isN1, PF.q_and, PF.q_and1, PF.q_and2, PF.q_or, PF.q_or1, PF.q_or2, PF.q_ite, PF.q_ite1, PF.q_ite2, PF.q_tup, PF.q_tup1, PF.q_tup2, PF.q_lst, PF.q_lst1, PF.q_lst2, PF.q_ix, PF.q_ix1, PF.q_ix2, PF.q_call, PF.q_call1, PF.q_meth, PF.q_meth1, PF.q_meth2, PF.q_meth3, PF.q_fld, PF.q_fld1, PF.q_blt, PF.q_blt1, PF.q_isi, PF.q_isi0, PF.q_vs0, PF.q_vs1, PF.q_vs2, PF.q_vs3, PF.q_vb0, PF.q_vb1, PF.q_vb2, PF.q_vb3, PF.q_itE, PF.q_itE1, PF.q_it1, PF.q_it2, PF.q_it3, PF.q_asg, PF.q_asg0, PF.q_nx, PF.q_par, PF.q_par1, PF.q_ret, PF.q_ret1, PF.q_retN, PF.q_iff, PF.q_iff1, PF.q_iff2, PF.q_for, PF.q_for1, PF.q_fg0, PF.q_fg1, PF.q_fb, PF.q_f1, PF.q_f2, PF.q_rse, PF.q_es0, PF.q_es1, PF.q_cn, PF.q_cr, PF.q_rk1, PF.q_rk2, PF.q_see1, PF.q_see2, PF.q_see3, PF.q_fz1, PF.q_fz2, PF.q_out1, PF.q_out2, PF.q_out3, PF.q_op, PF.q_add, PF.q_sub, PF.q_isi1, PF.q_isi2, PF.q_isi3, PF.q_isi4, PF.q_isi5, PF.q_asg1, PF.q_asg2, PF.q_put1, PF.q_put2, PF.q_bnm, PF.q_bt0, PF.q_bt1, PF.q_bt2, PF.q_tg1, PF.q_tg2, PF.q_its1, PF.q_its2, PF.q_len1, PF.q_len2, PF.q_bint, PF.q_fld0, PF.q_ctx, PF.q_cgl, PF.q_cwf, PF.q_size, List.map_cons, List.map_nil, Nat.reduceSub, Nat.sub_self, List.replicate, List.append_nil, List.cons_append, List.nil_append, List.length_cons, List.length_nil, List.getElem?_cons_zero, List.getElem?_cons_succ, List.set_cons_zero, List.set_cons_succ, Nat.reduceAdd, Nat.reduceLT, Nat.reduceLeDiff, Int.cast_ofNat_Int, Int.reduceEq, Int.reduceLT, Int.reduceLE, decide_true, decide_false, if_true, Bool.false_eq_true, if_false, Bool.not_true, Bool.not_false, Bool.and_true, Bool.true_and, Bool.or_true, Bool.or_false, Bool.and_self, ite_true, ite_false, PF.g_nu, PF.g_pt, PF.g_n0, PF.g_n1, PF.g_p0, PF.g_p1, PF.g_pi, PF.g_pa, PF.g_pb, PF.g_fi, PF.g_ff, PF.g_ce, PF.g_cn, PF.g_pe, PF.g_pn, PF.s_lc, PF.s_lc1, PF.s_lc2, PF.s_lc3, PF.s_fI, PF.s_fI1, PF.s_fI2, PF.s_fI3, PF.s_fI4, PF.s_ec0, PF.s_ec1, PF.s_ec2, PF.s_ec3, PF.s_lg0, PF.s_lg1, PF.s_lg2, PF.s_lg3, PF.s_lg4, PF.s_w0, PF.s_w1, PF.s_fre, PF.s_fre1, PF.s_fre2, PF.s_fre3, PF.s_app, PF.s_app1, PF.s_app2, PF.s_app3, PF.s_pop, PF.s_pop1, PF.s_pop2, PF.s_whl, PF.s_wh1, PF.s_wh2, PF.s_wh3, PF.s_wh4, PF.s_nn, PF.s_nn1, PF.s_nnp, PF.s_nnn, PF.s_tol, PF.s_tol2, PF.s_tol3, PF.s_tup, PF.s_tup2, PF.s_len, PF.s_len2, PF.s_all, PF.at_pt, PF.at_pv, PF.g_s0, PF.g_s1, PF.g_sa, PF.s_sl, PF.s_sl1, PF.s_sl2, PF.s_sl3, PF.s_sl4, PF.s_sl5, PF.s_bn0, PF.s_bn1, PF.s_bn2, PF.s_bn3, PF.g_itn, PF.g_itp, PF.s_seti, PF.s_seti1, PF.s_seti2, PF.s_seti3, PF.s_seti4, PF.s_swp, PF.s_swp1, PF.s_swp2, PF.s_swp3, PF.s_sub, PF.s_sub1, PF.s_sub2, PF.s_sub3, PF.s_rev, PF.s_rev1, PF.s_rev2, PF.s_rev3, PF.s_isb, PF.s_isb1, PF.s_isb2, PF.s_isb3, PF.s_isb4, PF.g_catm, PF.g_catb, PF.g_cati, PF.g_cat2, PF.g_mapp, PF.g_map1, PF.g_mrev, PF.g_isib, PF.g_l0, PF.g_l1, PF.g_l2, PF.g_l3, PF.g_sm2, PF.g_sm3, PF.g_sm4, PF.g_r2, PF.g_r3, PF.g_r4, List.length_map, a1, a2, a3, x]
        constructor
        · intro hp
          have q := inner.1 hp
          rw [← rng_map] at q
          rw [show ((S.length - 2 : Nat) : Int) = (S.length : Int) - 2 by omega] at q
          simp -implicitDefEqProofs (maxSteps := 400000) (disch := (first | with_reducible assumption | (with_reducible apply PF.mulOk_of <;> (repeat' (first | with_reducible assumption | with_reducible (apply PyProof.Rows.bits_add) | with_reducible (apply PyProof.Rows.bits_sub) | with_reducible (apply PyProof.Rows.bits_mul) | with_reducible (apply PyProof.Rows.bits_neg) | with_reducible (apply PF.bits_div (by first | omega | decide +kernel)) | with_reducible (apply PF.bits_mod (by first | omega | decide +kernel)) | (with_reducible show _ + _ ≤ 134217728; decide +kernel) | exact Nat.le_refl _))) | ((with_reducible apply PF.lt_len); with_unfolding_all rfl) | omega | decide +kernel)) only [PF.opI_mul, PF.opI_mod, PF.opI_fdiv, PF.ixT0, PF.ixT1, PF.cmp_eq, PF.cmp_ne, PF.cmp_lt, PF.cmp_le, PF.cmp_gt, PF.cmp_ge, PF.cmp_t2, PF.cmp_n2, PF.cmp_tt2, PF.cmp_nt2, PF.isInsT, PF.q_lo, PF.q_s1, PF.q_s2, PF.q_non, PF.q_bl, PF.q_int, PF.q_str, PF.q_gl, PF.q_bin, PF.q_bin1, PF.q_bin2, PF.q_kI, PF.q_kB, PF.q_kIm, PF.q_kFz, PF.q_neg, PF.q_neg1, PF.q_not, PF.q_not1, PF.q_cmp, PF.q_cmp1, PF.q_cmp2, PF.q_isN, PF.q_isN1, PF.q_and, PF.q_and1, PF.q_and2, PF.q_or, PF.q_or1, PF.q_or2, PF.q_ite, PF.q_ite1, PF.q_ite2, PF.q_tup, PF.q_tup1, PF.q_tup2, PF.q_lst, PF.q_lst1, PF.q_lst2, PF.q_ix, PF.q_ix1, PF.q_ix2, PF.q_call, PF.q_call1, PF.q_meth, PF.q_meth1, PF.q_meth2, PF.q_meth3, PF.q_fld, PF.q_fld1, PF.q_blt, PF.q_blt1, PF.q_isi, PF.q_isi0, PF.q_vs0, PF.q_vs1, PF.q_vs2, PF.q_vs3, PF.q_vb0, PF.q_vb1, PF.q_vb2, PF.q_vb3, PF.q_itE, PF.q_itE1, PF.q_it1, PF.q_it2, PF.q_it3, PF.q_asg, PF.q_asg0, PF.q_nx, PF.q_par, PF.q_par1, PF.q_ret, PF.q_ret1, PF.q_retN, PF.q_iff, PF.q_iff1, PF.q_iff2, PF.q_for, PF.q_for1, PF.q_fg0, PF.q_fg1, PF.q_fb, PF.q_f1, PF.q_f2, PF.q_rse, PF.q_es0, PF.q_es1, PF.q_cn, PF.q_cr, PF.q_rk1, PF.q_rk2, PF.q_see1, PF.q_see2, PF.q_see3, PF.q_fz1, PF.q_fz2, PF.q_out1, PF.q_out2, PF.q_out3, PF.q_op, PF.q_add, PF.q_sub, PF.q_isi1, PF.q_isi2, PF.q_isi3, PF.q_isi4, PF.q_isi5, PF.q_asg1, PF.q_asg2, PF.q_put1, PF.q_put2, PF.q_bnm, PF.q_bt0, PF.q_bt1, PF.q_bt2, PF.q_tg1, PF.q_tg2, PF.q_its1, PF.q_its2, PF.q_len1, PF.q_len2, PF.q_bint, PF.q_fld0, PF.q_ctx, PF.q_cgl, PF.q_cwf, PF.q_size, List.map_cons, List.map_nil, Nat.reduceSub, Nat.sub_self, List.replicate, List.append_nil, List.cons_append, List.nil_append, List.length_cons, List.length_nil, List.getElem?_cons_zero, List.getElem?_cons_succ, List.set_cons_zero, List.set_cons_succ, Nat.reduceAdd, Nat.reduceLT, Nat.reduceLeDiff, Int.cast_ofNat_Int, Int.reduceEq, Int.reduceLT, Int.reduceLE, decide_true, decide_false, if_true, Bool.false_eq_true, if_false, Bool.not_true, Bool.not_false, Bool.and_true, Bool.true_and, Bool.or_true, Bool.or_false, Bool.and_self, ite_true, ite_false, PF.g_nu, PF.g_pt, PF.g_n0, PF.g_n1, PF.g_p0, PF.g_p1, PF.g_pi, PF.g_pa, PF.g_pb, PF.g_fi, PF.g_ff, PF.g_ce, PF.g_cn, PF.g_pe, PF.g_pn, PF.s_lc, PF.s_lc1, PF.s_lc2, PF.s_lc3, PF.s_fI, PF.s_fI1, PF.s_fI2, PF.s_fI3, PF.s_fI4, PF.s_ec0, PF.s_ec1, PF.s_ec2, PF.s_ec3, PF.s_lg0, PF.s_lg1, PF.s_lg2, PF.s_lg3, PF.s_lg4, PF.s_w0, PF.s_w1, PF.s_fre, PF.s_fre1, PF.s_fre2, PF.s_fre3, PF.s_app, PF.s_app1, PF.s_app2, PF.s_app3, PF.s_pop, PF.s_pop1, PF.s_pop2, PF.s_whl, PF.s_wh1, PF.s_wh2, PF.s_wh3, PF.s_wh4, PF.s_nn, PF.s_nn1, PF.s_nnp, PF.s_nnn, PF.s_tol, PF.s_tol2, PF.s_tol3, PF.s_tup, PF.s_tup2, PF.s_len, PF.s_len2, PF.s_all, PF.at_pt, PF.at_pv, PF.g_s0, PF.g_s1, PF.g_sa, PF.s_sl, PF.s_sl1, PF.s_sl2, PF.s_sl3, PF.s_sl4, PF.s_sl5, PF.s_bn0, PF.s_bn1, PF.s_bn2, PF.s_bn3, PF.g_itn, PF.g_itp, PF.s_seti, PF.s_seti1, PF.s_seti2, PF.s_seti3, PF.s_seti4, PF.s_swp, PF.s_swp1, PF.s_swp2, PF.s_swp3, PF.s_sub, PF.s_sub1, PF.s_sub2, PF.s_sub3, PF.s_rev, PF.s_rev1, PF.s_rev2, PF.s_rev3, PF.s_isb, PF.s_isb1, PF.s_isb2, PF.s_isb3, PF.s_isb4, PF.g_catm, PF.g_catb, PF.g_cati, PF.g_cat2, PF.g_mapp, PF.g_map1, PF.g_mrev, PF.g_isib, PF.g_l0, PF.g_l1, PF.g_l2, PF.g_l3, PF.g_sm2, PF.g_sm3, PF.g_sm4, PF.g_r2, PF.g_r3, PF.g_r4, List.length_map, hs2, q]
        · intro hp
          obtain ⟨e', q, y', z', rfl⟩ := inner.2 hp
          rw [← rng_map] at q
          rw [show ((S.length - 2 : Nat) : Int) = (S.length : Int) - 2 by omega] at q
          refine ⟨_, ?_, ⟨.im (.int (j : Int)), y', z', rfl⟩⟩
          simp -implicitDefEqProofs (maxSteps := 400000) (disch := (first | with_reducible assumption | (with_reducible apply PF.mulOk_of <;> (repeat' (first | with_reducible assumption | with_reducible (apply PyProof.Rows.bits_add) | with_reducible (apply PyProof.Rows.bits_sub) | with_reducible (apply PyProof.Rows.bits_mul) | with_reducible (apply PyProof.Rows.bits_neg) | with_reducible (apply PF.bits_div (by first | omega | decide +kernel)) | with_reducible (apply PF.bits_mod (by first | omega | decide +kernel)) | (with_reducible show _ + _ ≤ 134217728; decide +kernel) | exact Nat.le_refl _))) | ((with_reducible apply PF.lt_len); with_unfolding_all rfl) | omega | decide +kernel)) only [PF.opI_mul, PF.opI_mod, PF.opI_fdiv, PF.ixT0, PF.ixT1, PF.cmp_eq, PF.cmp_ne, PF.cmp_lt, PF.cmp_le, PF.cmp_gt, PF.cmp_ge, PF.cmp_t2, PF.cmp_n2, PF.cmp_tt2, PF.cmp_nt2, PF.isInsT, PF.q_lo, PF.q_s1, PF.q_s2, PF.q_non, PF.q_bl, PF.q_int, PF.q_str, PF.q_gl, PF.q_bin, PF.q_bin1, PF.q_bin2, PF.q_kI, PF.q_kB, PF.q_kIm, PF.q_kFz, PF.q_neg, PF.q_neg1, PF.q_not, PF.q_not1, PF.q_cmp, PF.q_cmp1, PF.q_cmp2, PF.q_isN, PF.q_isN1, PF.q_and, PF.q_and1, PF.q_and2, PF.q_or, PF.q_or1, PF.q_or2, PF.q_ite, PF.q_ite1, PF.q_ite2, PF.q_tup, PF.q_tup1, PF.q_tup2, PF.q_lst, PF.q_lst1, PF.q_lst2, PF.q_ix, PF.q_ix1, PF.q_ix2, PF.q_call, PF.q_call1, PF.q_meth, PF.q_meth1, PF.q_meth2, PF.q_meth3, PF.q_fld, PF.q_fld1, PF.q_blt, PF.q_blt1, PF.q_isi, PF.q_isi0, PF.q_vs0, PF.q_vs1, PF.q_vs2, PF.q_vs3, PF.q_vb0, PF.q_vb1, PF.q_vb2, PF.q_vb3, PF.q_itE, PF.q_itE1, PF.q_it1, PF.q_it2, PF.q_it3, PF.q_asg, PF.q_asg0, PF.q_nx, PF.q_par, PF.q_par1, PF.q_ret, PF.q_ret1, PF.q_retN, PF.q_iff, PF.q_iff1, PF.q_iff2, PF.q_for, PF.q_for1, PF.q_fg0, PF.q_fg1, PF.q_fb, PF.q_f1, PF.q_f2, PF.q_rse, PF.q_es0, PF.q_es1, PF.q_cn, PF.q_cr, PF.q_rk1, PF.q_rk2, PF.q_see1, PF.q_see2, PF.q_see3, PF.q_fz1, PF.q_fz2, PF.q_out1, PF.q_out2, PF.q_out3, PF.q_op, PF.q_add, PF.q_sub, PF.q_isi1, PF.q_isi2, PF.q_isi3, PF.q_isi4, PF.q_isi5, PF.q_asg1, PF.q_asg2, PF.q_put1, PF.q_put2, PF.q_bnm, PF.q_bt0, PF.q_bt1, PF.q_bt2, PF.q_tg1, PF.q_tg2, PF.q_its1, PF.q_its2, PF.q_len1, PF.q_len2, PF.q_bint, PF.q_fld0, PF.q_ctx, PF.q_cgl, PF.q_cwf, PF.q_size, List.map_cons, List.map_nil, Nat.reduceSub, Nat.sub_self, List.replicate, List.append_nil, List.cons_append, List.nil_append, List.length_cons, List.length_nil, List.getElem?_cons_zero, List.getElem?_cons_succ, List.set_cons_zero, List.set_cons_succ, Nat.reduceAdd, Nat.reduceLT, Nat.reduceLeDiff, Int.cast_ofNat_Int, Int.reduceEq, Int.reduceLT, Int.reduceLE, decide_true, decide_false, if_true, Bool.false_eq_true, if_false, Bool.not_true, Bool.not_false, Bool.and_true, Bool.true_and, Bool.or_true, Bool.or_false, Bool.and_self, ite_true, ite_false, PF.g_nu, PF.g_pt, PF.g_n0, PF.g_n1, PF.g_p0, PF.g_p1, PF.g_pi, PF.g_pa, PF.g_pb, PF.g_fi, PF.g_ff, PF.g_ce, PF.g_cn, PF.g_pe, PF.g_pn, PF.s_lc, PF.s_lc1, PF.s_lc2, PF.s_lc3, PF.s_fI, PF.s_fI1, PF.s_fI2, PF.s_fI3, PF.s_fI4, PF.s_ec0, PF.s_ec1, PF.s_ec2, PF.s_ec3, PF.s_lg0, PF.s_lg1, PF.s_lg2, PF.s_lg3, PF.s_lg4, PF.s_w0, PF.s_w1, PF.s_fre, PF.s_fre1, PF.s_fre2, PF.s_fre3, PF.s_app, PF.s_app1, PF.s_app2, PF.s_app3, PF.s_pop, PF.s_pop1, PF.s_pop2, PF.s_whl, PF.s_wh1, PF.s_wh2, PF.s_wh3, PF.s_wh4, PF.s_nn, PF.s_nn1, PF.s_nnp, PF.s_nnn, PF.s_tol, PF.s_tol2, PF.s_tol3, PF.s_tup, PF.s_tup2, PF.s_len, PF.s_len2, PF.s_all, PF.at_pt, PF.at_pv, PF.g_s0, PF.g_s1, PF.g_sa, PF.s_sl, PF.s_sl1, PF.s_sl2, PF.s_sl3, PF.s_sl4, PF.s_sl5, PF.s_bn0, PF.s_bn1, PF.s_bn2, PF.s_bn3, PF.g_itn, PF.g_itp, PF.s_seti, PF.s_seti1, PF.s_seti2, PF.s_seti3, PF.s_seti4, PF.s_swp, PF.s_swp1, PF.s_swp2, PF.s_swp3, PF.s_sub, PF.s_sub1, PF.s_sub2, PF.s_sub3, PF.s_rev, PF.s_rev1, PF.s_rev2, PF.s_rev3, PF.s_isb, PF.s_isb1, PF.s_isb2, PF.s_isb3, PF.s_isb4, PF.g_catm, PF.g_catb, PF.g_cati, PF.g_cat2, PF.g_mapp, PF.g_map1, PF.g_mrev, PF.g_isib, PF.g_l0, PF.g_l1, PF.g_l2, PF.g_l3, PF.g_sm2, PF.g_sm3, PF.g_sm4, PF.g_r2, PF.g_r3, PF.g_r4, List.length_map, hs2, q]
      · intro hp
        rw [isS_prog (by omega) (by omega), hp]
        simp -implicitDefEqProofs (maxSteps := 400000) (disch := (first | with_reducible assumption | (with_reducible apply PF.mulOk_of <;> (repeat' (first | with_reducible assumption | with_reducible (apply PyProof.Rows.bits_add) | with_reducible (apply PyProof.Rows.bits_sub) | with_reducible (apply PyProof.Rows.bits_mul) | with_reducible (apply PyProof.Rows.bits_neg) | with_reducible (apply PF.bits_div (by first | omega | decide +kernel)) | with_reducible (apply PF.bits_mod (by first | omega | decide +kernel)) | (with_reducible show _ + _ ≤ 134217728; decide +kernel) | exact Nat.le_refl _))) | ((with_reducible apply PF.lt_len); with_unfolding_all rfl) | omega | decide +kernel)) only [PF.opI_mul, PF.opI_mod, PF.opI_fdiv, PF.ixT0, PF.ixT1, PF.cmp_eq, PF.cmp_ne, PF.cmp_lt, PF.cmp_le, PF.cmp_gt, PF.cmp_ge, PF.cmp_t2, PF.cmp_n2, PF.cmp_tt2, PF.cmp_nt2, PF.isInsT, PF.q_lo, PF.q_s1, PF.q_s2, PF.q_non, PF.q_bl, PF.q_int, PF.q_str, PF.q_gl, PF.q_bin, PF.q_bin1, PF.q_bin2, PF.q_kI, PF.q_kB, PF.q_kIm, PF.q_kFz, PF.q_neg, PF.q_neg1, PF.q_not, PF.q_not1, PF.q_cmp, PF.q_cmp1, PF.q_cmp2, PF.q_isN, PF.q_isN1, PF.q_and, PF.q_and1, PF.q_and2, PF.q_or, PF.q_or1, PF.q_or2, PF.q_ite, PF.q_ite1, PF.q_ite2, PF.q_tup, PF.q_tup1, PF.q_tup2, PF.q_lst, PF.q_lst1, PF.q_lst2, PF.q_ix, PF.q_ix1, PF.q_ix2, PF.q_call, PF.q_call1, PF.q_meth, PF.q_meth1, PF.q_meth2, PF.q_meth3, PF.q_fld, PF.q_fld1, PF.q_blt, PF.q_blt1, PF.q_isi, PF.q_isi0, PF.q_vs0, PF.q_vs1, PF.q_vs2, PF.q_vs3, PF.q_vb0, PF.q_vb1, PF.q_vb2, PF.q_vb3, PF.q_itE, PF.q_itE1, PF.q_it1, PF.q_it2, PF.q_it3, PF.q_asg, PF.q_asg0, PF.q_nx, PF.q_par, PF.q_par1, PF.q_ret, PF.q_ret1, PF.q_retN, PF.q_iff, PF.q_iff1, PF.q_iff2, PF.q_for, PF.q_for1, PF.q_fg0, PF.q_fg1, PF.q_fb, PF.q_f1, PF.q_f2, PF.q_rse, PF.q_es0, PF.q_es1, PF.q_cn, PF.q_cr, PF.q_rk1, PF.q_rk2, PF.q_see1, PF.q_see2, PF.q_see3, PF.q_fz1, PF.q_fz2, PF.q_out1, PF.q_out2, PF.q_out3, PF.q_op, PF.q_add, PF.q_sub, PF.q_isi1, PF.q_isi2, PF.q_isi3, PF.q_isi4, PF.q_isi5, PF.q_asg1, PF.q_asg2, PF.q_put1, PF.q_put2, PF.q_bnm, PF.q_bt0, PF.q_bt1, PF.q_bt2, PF.q_tg1, PF.q_tg2, PF.q_its1, PF.q_its2, PF.q_len1, PF.q_len2, PF.q_bint, PF.q_fld0, PF.q_ctx, PF.q_cgl, PF.q_cwf, PF.q_size, List.map_cons, List.map_nil, Nat.reduceSub, Nat.sub_self, List.replicate, List.append_nil, List.cons_append, List.nil_append, List.length_cons, List.length_nil, List.getElem?_cons_zero, List.getElem?_cons_succ, List.set_cons_zero, List.set_cons_succ, Nat.reduceAdd, Nat.reduceLT, Nat.reduceLeDiff, Int.cast_ofNat_Int, Int.reduceEq, Int.reduceLT, Int.reduceLE, decide_true, decide_false, if_true, Bool.false_eq_true, if_false, Bool.not_true, Bool.not_false, Bool.and_true, Bool.true_and, Bool.or_true, Bool.or_false, Bool.and_self, ite_true, ite_false, PF.g_nu, PF.g_pt, PF.g_n0, PF.g_n1, PF.g_p0, PF.g_p1, PF.g_pi, PF.g_pa, PF.g_pb, PF.g_fi, PF.g_ff, PF.g_ce, PF.g_cn, PF.g_pe, PF.g_pn, PF.s_lc, PF.s_lc1, PF.s_lc2, PF.s_lc3, PF.s_fI, PF.s_fI1, PF.s_fI2, PF.s_fI3, PF.s_fI4, PF.s_ec0, PF.s_ec1, PF.s_ec2, PF.s_ec3, PF.s_lg0, PF.s_lg1, PF.s_lg2, PF.s_lg3, PF.s_lg4, PF.s_w0, PF.s_w1, PF.s_fre, PF.s_fre1, PF.s_fre2, PF.s_fre3, PF.s_app, PF.s_app1, PF.s_app2, PF.s_app3, PF.s_pop, PF.s_pop1, PF.s_pop2, PF.s_whl, PF.s_wh1, PF.s_wh2, PF.s_wh3, PF.s_wh4, PF.s_nn, PF.s_nn1, PF.s_nnp, PF.s_nnn, PF.s_tol, PF.s_tol2, PF.s_tol3, PF.s_tup, PF.s_tup2, PF.s_len, PF.s_len2, PF.s_all, PF.at_pt, PF.at_pv, PF.g_s0, PF.g_s1, PF.g_sa, PF.s_sl, PF.s_sl1, PF.s_sl2, PF.s_sl3, PF.s_sl4, PF.s_sl5, PF.s_bn0, PF.s_bn1, PF.s_bn2, PF.s_bn3, PF.g_itn, PF.g_itp, PF.s_seti, PF.s_seti1, PF.s_seti2, PF.s_seti3, PF.s_seti4, PF.s_swp, PF.s_swp1, PF.s_swp2, PF.s_swp3, PF.s_sub, PF.s_sub1, PF.s_sub2, PF.s_sub3, PF.s_rev, PF.s_rev1, PF.s_rev2, PF.s_rev3, PF.s_isb, PF.s_isb1, PF.s_isb2, PF.s_isb3, PF.s_isb4, PF.g_catm, PF.g_catb, PF.g_cati, PF.g_cat2, PF.g_mapp, PF.g_map1, PF.g_mrev, PF.g_isib, PF.g_l0, PF.g_l1, PF.g_l2, PF.g_l3, PF.g_sm2, PF.g_sm3, PF.g_sm4, PF.g_r2, PF.g_r3, PF.g_r4, List.length_map]
      · rintro hp e ⟨x, y, z, rfl⟩
        rw [isS_prog (by omega) (by omega), hp]
        simp -implicitDefEqProofs (maxSteps := 400000) (disch := (first | with_reducible assumption | (with_reducible apply PF.mulOk_of <;> (repeat' (first | with_reducible assumption | with_reducible (apply PyProof.Rows.bits_add) | with_reducible (apply PyProof.Rows.bits_sub) | with_reducible (apply PyProof.Rows.bits_mul) | with_reducible (apply PyProof.Rows.bits_neg) | with_reducible (apply PF.bits_div (by first | omega | decide +kernel)) | with_reducible (apply PF.bits_mod (by first | omega | decide +kernel)) | (with_reducible show _ + _ ≤ 134217728; decide +kernel) | exact Nat.le_refl _))) | ((with_reducible apply PF.lt_len); with_unfolding_all rfl) | omega | decide +kernel)) only [PF.opI_mul, PF.opI_mod, PF.opI_fdiv, PF.ixT0, PF.ixT1, PF.cmp_eq, PF.cmp_ne, PF.cmp_lt, PF.cmp_le, PF.cmp_gt, PF.cmp_ge, PF.cmp_t2, PF.cmp_n2, PF.cmp_tt2, PF.cmp_nt2, PF.isInsT, PF.q_lo, PF.q_s1, PF.q_s2, PF.q_non, PF.q_bl, PF.q_int, PF.q_str, PF.q_gl, PF.q_bin, PF.q_bin1, PF.q_bin2, PF.q_kI, PF.q_kB, PF.q_kIm, PF.q_kFz, PF.q_neg, PF.q_neg1, PF.q_not, PF.q_not1, PF.q_cmp, PF.q_cmp1, PF.q_cmp2, PF.q_isN, PF.q_isN1, PF.q_and, PF.q_and1, PF.q_and2, PF.q_or, PF.q_or1, PF.q_or2, PF.q_ite, PF.q_ite1, PF.q_ite2, PF.q_tup, PF.q_tup1, PF.q_tup2, PF.q_lst, PF.q_lst1, PF.q_lst2, PF.q_ix, PF.q_ix1, PF.q_ix2, PF.q_call, PF.q_call1, PF.q_meth, PF.q_meth1, PF.q_meth2, PF.q_meth3, PF.q_fld, PF.q_fld1, PF.q_blt, PF.q_blt1, PF.q_isi, PF.q_isi0, PF.q_vs0, PF.q_vs1, PF.q_vs2, PF.q_vs3, PF.q_vb0, PF.q_vb1, PF.q_vb2, PF.q_vb3, PF.q_itE, PF.q_itE1, PF.q_it1, PF.q_it2, PF.q_it3, PF.q_asg, PF.q_asg0, PF.q_nx, PF.q_par, PF.q_par1, PF.q_ret, PF.q_ret1, PF.q_retN, PF.q_iff, PF.q_iff1, PF.q_iff2, PF.q_for, PF.q_for1, PF.q_fg0, PF.q_fg1, PF.q_fb, PF.q_f1, PF.q_f2, PF.q_rse, PF.q_es0, PF.q_es1, PF.q_cn, PF.q_cr, PF.q_rk1, PF.q_rk2, PF.q_see1, PF.q_see2, PF.q_see3, PF.q_fz1, PF.q_fz2, PF.q_out1, PF.q_out2, PF.q_out3, PF.q_op, PF.q_add, PF.q_sub, PF.q_isi1, PF.q_isi2, PF.q_isi3, PF.q_isi4, PF.q_isi5, PF.q_asg1, PF.q_asg2, PF.q_put1, PF.q_put2, PF.q_bnm, PF.q_bt0, PF.q_bt1, PF.q_bt2, PF.q_tg1, PF.q_tg2, PF.q_its1, PF.q_its2, PF.q_len1, PF.q_len2, PF.q_bint, PF.q_fld0, PF.q_ctx, PF.q_cgl, PF.q_cwf, PF.q_size, List.map_cons, List.map_nil, Nat.reduceSub, Nat.sub_self, List.replicate, List.append_nil, List.cons_append, List.nil_append, List.length_cons, List.length_nil, List.getElem?_cons_zero, List.getElem?_cons_succ, List.set_cons_zero, List.set_cons_succ, Nat.reduceAdd, Nat.reduceLT, Nat.reduceLeDiff, Int.cast_ofNat_Int, Int.reduceEq, Int.reduceLT, Int.reduceLE, decide_true, decide_false, if_true, Bool.false_eq_true, if_false, Bool.not_true, Bool.not_false, Bool.and_true, Bool.true_and, Bool.or_true, Bool.or_false, Bool.and_self, ite_true, ite_false, PF.g_nu, PF.g_pt, PF.g_n0, PF.g_n1, PF.g_p0, PF.g_p1, PF.g_pi, PF.g_pa, PF.g_pb, PF.g_fi, PF.g_ff, PF.g_ce, PF.g_cn, PF.g_pe, PF.g_pn, PF.s_lc, PF.s_lc1, PF.s_lc2, PF.s_lc3, PF.s_fI, PF.s_fI1, PF.s_fI2, PF.s_fI3, PF.s_fI4, PF.s_ec0, PF.s_ec1, PF.s_ec2, PF.s_ec3, PF.s_lg0, PF.s_lg1, PF.s_lg2, PF.s_lg3, PF.s_lg4, PF.s_w0, PF.s_w1, PF.s_fre, PF.s_fre1, PF.s_fre2, PF.s_fre3, PF.s_app, PF.s_app1, PF.s_app2, PF.s_app3, PF.s_pop, PF.s_pop1, PF.s_pop2, PF.s_whl, PF.s_wh1, PF.s_wh2, PF.s_wh3, PF.s_wh4, PF.s_nn, PF.s_nn1, PF.s_nnp, PF.s_nnn, PF.s_tol, PF.s_tol2, PF.s_tol3, PF.s_tup, PF.s_tup2, PF.s_len, PF.s_len2, PF.s_all, PF.at_pt, PF.at_pv, PF.g_s0, PF.g_s1, PF.g_sa, PF.s_sl, PF.s_sl1, PF.s_sl2, PF.s_sl3, PF.s_sl4, PF.s_sl5, PF.s_bn0, PF.s_bn1, PF.s_bn2, PF.s_bn3, PF.g_itn, PF.g_itp, PF.s_seti, PF.s_seti1, PF.s_seti2, PF.s_seti3, PF.s_seti4, PF.s_swp, PF.s_swp1, PF.s_swp2, PF.s_swp3, PF.s_sub, PF.s_sub1, PF.s_sub2, PF.s_sub3, PF.s_rev, PF.s_rev1, PF.s_rev2, PF.s_rev3, PF.s_isb, PF.s_isb1, PF.s_isb2, PF.s_isb3, PF.s_isb4, PF.g_catm, PF.g_catb, PF.g_cati, PF.g_cat2, PF.g_mapp, PF.g_map1, PF.g_mrev, PF.g_isib, PF.g_l0, PF.g_l1, PF.g_l2, PF.g_l3, PF.g_sm2, PF.g_sm3, PF.g_sm4, PF.g_r2, PF.g_r3, PF.g_r4, List.length_map]
theorem ldoubled {k : Nat} {S : List Pt} (h : S.length ≤ 12) : callK Q (k + 2) 20 [.lst (S.map pt)] = .ok (.ow ((S.map fun p => adP p p).map pt)) := by
  have z : PF.sizeOk (S.length + 1) = true := decide_eq_true (by omega)
  have e : lcGo (fI (Q.ctx (k + 1)) (.nm 1) [] (.call 14 [.lo 1, .lo 1]) [1] [.im (.lst (S.map pt)), .un]) (S.map pt) = .ok ((S.map fun p => adP p p).map pt) := by
    rw [List.map_map]
    refine lc_of fun r hr => ?_
    simp -implicitDefEqProofs (maxSteps := 400000) (disch := (first | with_reducible assumption | (with_reducible apply PF.mulOk_of <;> (repeat' (first | with_reducible assumption | with_reducible (apply PyProof.Rows.bits_add) | with_reducible (apply PyProof.Rows.bits_sub) | with_reducible (apply PyProof.Rows.bits_mul) | with_reducible (apply PyProof.Rows.bits_neg) | with_reducible (apply PF.bits_div (by first | omega | decide +kernel)) | with_reducible (apply PF.bits_mod (by first | omega | decide +kernel)) | (with_reducible show _ + _ ≤ 134217728; decide +kernel) | exact Nat.le_refl _))) | ((with_reducible apply PF.lt_len); with_unfolding_all rfl) | omega | decide +kernel)) only [PF.opI_mul, PF.opI_mod, PF.opI_fdiv, PF.ixT0, PF.ixT1, PF.cmp_eq, PF.cmp_ne, PF.cmp_lt, PF.cmp_le, PF.cmp_gt, PF.cmp_ge, PF.cmp_t2, PF.cmp_n2, PF.cmp_tt2, PF.cmp_nt2, PF.isInsT, PF.q_lo, PF.q_s1, PF.q_s2, PF.q_non, PF.q_bl, PF.q_int, PF.q_str, PF.q_gl, PF.q_bin, PF.q_bin1, PF.q_bin2, PF.q_kI, PF.q_kB, PF.q_kIm, PF.q_kFz, PF.q_neg, PF.q_neg1, PF.q_not, PF.q_not1, PF.q_cmp, PF.q_cmp1, PF.q_cmp2, PF.q_isN, PF.q_isN1, PF.q_and, PF.q_and1, PF.q_and2, PF.q_or, PF.q_or1, PF.q_or2, PF.q_ite, PF.q_ite1, PF.q_ite2, PF.q_tup, PF.q_tup1, PF.q_tup2, PF.q_lst, PF.q_lst1, PF.q_lst2, PF.q_ix, PF.q_ix1, PF.q_ix2, PF.q_call, PF.q_call1, PF.q_meth, PF.q_meth1, PF.q_meth2, PF.q_meth3, PF.q_fld, PF.q_fld1, PF.q_blt, PF.q_blt1, PF.q_isi, PF.q_isi0, PF.q_vs0, PF.q_vs1, PF.q_vs2, PF.q_vs3, PF.q_vb0, PF.q_vb1, PF.q_vb2, PF.q_vb3, PF.q_itE, PF.q_itE1, PF.q_it1, PF.q_it2, PF.q_it3, PF.q_asg, PF.q_asg0, PF.q_nx, PF.q_par, PF.q_par1, PF.q_ret, PF.q_ret1, PF.q_retN, PF.q_iff, PF.q_iff1, PF.q_iff2, PF.q_for, PF.q_for1, PF.q_fg0, PF.q_fg1, PF.q_fb, PF.q_f1, PF.q_f2, PF.q_rse, PF.q_es0, PF.q_es1, PF.q_cn, PF.q_cr, PF.q_rk1, PF.q_rk2, PF.q_see1, PF.q_see2, PF.q_see3, PF.q_fz1, PF.q_fz2, PF.q_out1, PF.q_out2, PF.q_out3, PF.q_op, PF.q_add, PF.q_sub, PF.q_isi1, PF.q_isi2, PF.q_isi3, PF.q_isi4, PF.q_isi5, PF.q_asg1, PF.q_asg2, PF.q_put1, PF.q_put2, PF.q_bnm, PF.q_bt0, PF.q_bt1, PF.q_bt2, PF.q_tg1, PF.q_tg2, PF.q_its1, PF.q_its2, PF.q_len1, PF.q_len2, PF.q_bint, PF.q_fld0, PF.q_ctx, PF.q_cgl, PF.q_cwf, PF.q_size, List.map_cons, List.map_nil, Nat.reduceSub, Nat.sub_self, List.replicate, List.append_nil, List.cons_append, List.nil_append, List.length_cons, List.length_nil, List.getElem?_cons_zero, List.getElem?_cons_succ, List.set_cons_zero, List.set_cons_succ, Nat.reduceAdd, Nat.reduceLT, Nat.reduceLeDiff, Int.cast_ofNat_Int, Int.reduceEq, Int.reduceLT, Int.reduceLE, decide_true, decide_false, if_true, Bool.false_eq_true, if_false, Bool.not_true, Bool.not_false, Bool.and_true, Bool.true_and, Bool.or_true, Bool.or_false, Bool.and_self, ite_true, ite_false, PF.g_nu, PF.g_pt, PF.g_n0, PF.g_n1, PF.g_p0, PF.g_p1, PF.g_pi, PF.g_pa, PF.g_pb, PF.g_fi, PF.g_ff, PF.g_ce, PF.g_cn, PF.g_pe, PF.g_pn, PF.s_lc, PF.s_lc1, PF.s_lc2, PF.s_lc3, PF.s_fI, PF.s_fI1, PF.s_fI2, PF.s_fI3, PF.s_fI4, PF.s_ec0, PF.s_ec1, PF.s_ec2, PF.s_ec3, PF.s_lg0, PF.s_lg1, PF.s_lg2, PF.s_lg3, PF.s_lg4, PF.s_w0, PF.s_w1, PF.s_fre, PF.s_fre1, PF.s_fre2, PF.s_fre3, PF.s_app, PF.s_app1, PF.s_app2, PF.s_app3, PF.s_pop, PF.s_pop1, PF.s_pop2, PF.s_whl, PF.s_wh1, PF.s_wh2, PF.s_wh3, PF.s_wh4, PF.s_nn, PF.s_nn1, PF.s_nnp, PF.s_nnn, PF.s_tol, PF.s_tol2, PF.s_tol3, PF.s_tup, PF.s_tup2, PF.s_len, PF.s_len2, PF.s_all, PF.at_pt, PF.at_pv, PF.g_s0, PF.g_s1, PF.g_sa, PF.s_sl, PF.s_sl1, PF.s_sl2, PF.s_sl3, PF.s_sl4, PF.s_sl5, PF.s_bn0, PF.s_bn1, PF.s_bn2, PF.s_bn3, PF.g_itn, PF.g_itp, PF.s_seti, PF.s_seti1, PF.s_seti2, PF.s_seti3, PF.s_seti4, PF.s_swp, PF.s_swp1, PF.s_swp2, PF.s_swp3, PF.s_sub, PF.s_sub1, PF.s_sub2, PF.s_sub3, PF.s_rev, PF.s_rev1, PF.s_rev2, PF.s_rev3, PF.s_isb, PF.s_isb1, PF.s_isb2, PF.s_isb3, PF.s_isb4, PF.g_catm, PF.g_catb, PF.g_cati, PF.g_cat2, PF.g_mapp, PF.g_map1, PF.g_mrev, PF.g_isib, PF.g_l0, PF.g_l1, PF.g_l2, PF.g_l3, PF.g_sm2, PF.g_sm3, PF.g_sm4, PF.g_r2, PF.g_r3, PF.g_r4, List.length_map, lsum]
    rfl
  rw [call_f (f := f20) rfl (k + 1) _ rfl]
  simp -implicitDefEqProofs (maxSteps := 400000) (disch := (first | with_reducible assumption | (with_reducible apply PF.mulOk_of <;> (repeat' (first | with_reducible assumption | with_reducible (apply PyProof.Rows.bits_add) | with_reducible (apply PyProof.Rows.bits_sub) | with_reducible (apply PyProof.Rows.bits_mul) | with_reducible (apply PyProof.Rows.bits_neg) | with_reducible (apply PF.bits_div (by first | omega | decide +kernel)) | with_reducible (apply PF.bits_mod (by first | omega | decide +kernel)) | (with_reducible show _ + _ ≤ 134217728; decide +kernel) | exact Nat.le_refl _))) | ((with_reducible apply PF.lt_len); with_unfolding_all rfl) | omega | decide +kernel)) only [PF.opI_mul, PF.opI_mod, PF.opI_fdiv, PF.ixT0, PF.ixT1, PF.cmp_eq, PF.cmp_ne, PF.cmp_lt, PF.cmp_le, PF.cmp_gt, PF.cmp_ge, PF.cmp_t2, PF.cmp_n2, PF.cmp_tt2, PF.cmp_nt2, PF.isInsT, PF.q_lo, PF.q_s1, PF.q_s2, PF.q_non, PF.q_bl, PF.q_int, PF.q_str, PF.q_gl, PF.q_bin, PF.q_bin1, PF.q_bin2, PF.q_kI, PF.q_kB, PF.q_kIm, PF.q_kFz, PF.q_neg, PF.q_neg1, PF.q_not, PF.q_not1, PF.q_cmp, PF.q_cmp1, PF.q_cmp2, PF.q_isN, PF.q_isN1, PF.q_and, PF.q_and1, PF.q_and2, PF.q_or, PF.q_or1, PF.q_or2, PF.q_ite, PF.q_ite1, PF.q_ite2, PF.q_tup, PF.q_tup1, PF.q_tup2, PF.q_lst, PF.q_lst1, PF.q_lst2, PF.q_ix, PF.q_ix1, PF.q_ix2, PF.q_call, PF.q_call1, PF.q_meth, PF.q_meth1, PF.q_meth2, PF.q_meth3, PF.q_fld, PF.q_fld1, PF.q_blt, PF.q_blt1, PF.q_isi, PF.q_isi0, PF.q_vs0, PF.q_vs1, PF.q_vs2, PF.q_vs3, PF.q_vb0, PF.q_vb1, PF.q_vb2, PF.q_vb3, PF.q_itE, PF.q_itE1, PF.q_it1, PF.q_it2, PF.q_it3, PF.q_asg, PF.q_asg0, PF.q_nx, PF.q_par, PF.q_par1, PF.q_ret, PF.q_ret1, PF.q_retN, PF.q_iff, PF.q_iff1, PF.q_iff2, PF.q_for, PF.q_for1, PF.q_fg0, PF.q_fg1, PF.q_fb, PF.q_f1, PF.q_f2, PF.q_rse, PF.q_es0, PF.q_es1, PF.q_cn, PF.q_cr, PF.q_rk1, PF.q_rk2, PF.q_see1, PF.q_see2, PF.q_see3, PF.q_fz1, PF.q_fz2, PF.q_out1, PF.q_out2, PF.q_out3, PF.q_op, PF.q_add, PF.q_sub, PF.q_isi1, PF.q_isi2, PF.q_isi3, PF.q_isi4, PF.q_isi5, PF.q_asg1, PF.q_asg2, PF.q_put1, PF.q_put2, PF.q_bnm, PF.q_bt0, PF.q_bt1, PF.q_bt2, PF.q_tg1, PF.q_tg2, PF.q_its1, PF.q_its2, PF.q_len1, PF.q_len2, PF.q_bint, PF.q_fld0, PF.q_ctx, PF.q_cgl, PF.q_cwf, PF.q_size, List.map_cons, List.map_nil, Nat.reduceSub, Nat.sub_self, List.replicate, List.append_nil, List.cons_append, List.nil_append, List.length_cons, List.length_nil, List.getElem?_cons_zero, List.getElem?_cons_succ, List.set_cons_zero, List.set_cons_succ, Nat.reduceAdd, Nat.reduceLT, Nat.reduceLeDiff, Int.cast_ofNat_Int, Int.reduceEq, Int.reduceLT, Int.reduceLE, decide_true, decide_false, if_true, Bool.false_eq_true, if_false, Bool.not_true, Bool.not_false, Bool.and_true, Bool.true_and, Bool.or_true, Bool.or_false, Bool.and_self, ite_true, ite_false, PF.g_nu, PF.g_pt, PF.g_n0, PF.g_n1, PF.g_p0, PF.g_p1, PF.g_pi, PF.g_pa, PF.g_pb, PF.g_fi, PF.g_ff, PF.g_ce, PF.g_cn, PF.g_pe, PF.g_pn, PF.s_lc, PF.s_lc1, PF.s_lc2, PF.s_lc3, PF.s_fI, PF.s_fI1, PF.s_fI2, PF.s_fI3, PF.s_fI4, PF.s_ec0, PF.s_ec1, PF.s_ec2, PF.s_ec3, PF.s_lg0, PF.s_lg1, PF.s_lg2, PF.s_lg3, PF.s_lg4, PF.s_w0, PF.s_w1, PF.s_fre, PF.s_fre1, PF.s_fre2, PF.s_fre3, PF.s_app, PF.s_app1, PF.s_app2, PF.s_app3, PF.s_pop, PF.s_pop1, PF.s_pop2, PF.s_whl, PF.s_wh1, PF.s_wh2, PF.s_wh3, PF.s_wh4, PF.s_nn, PF.s_nn1, PF.s_nnp, PF.s_nnn, PF.s_tol, PF.s_tol2, PF.s_tol3, PF.s_tup, PF.s_tup2, PF.s_len, PF.s_len2, PF.s_all, PF.at_pt, PF.at_pv, PF.g_s0, PF.g_s1, PF.g_sa, PF.s_sl, PF.s_sl1, PF.s_sl2, PF.s_sl3, PF.s_sl4, PF.s_sl5, PF.s_bn0, PF.s_bn1, PF.s_bn2, PF.s_bn3, PF.g_itn, PF.g_itp, PF.s_seti, PF.s_seti1, PF.s_seti2, PF.s_seti3, PF.s_seti4, PF.s_swp, PF.s_swp1, PF.s_swp2, PF.s_swp3, PF.s_sub, PF.s_sub1, PF.s_sub2, PF.s_sub3, PF.s_rev, PF.s_rev1, PF.s_rev2, PF.s_rev3, PF.s_isb, PF.s_isb1, PF.s_isb2, PF.s_isb3, PF.s_isb4, PF.g_catm, PF.g_catb, PF.g_cati, PF.g_cat2, PF.g_mapp, PF.g_map1, PF.g_mrev, PF.g_isib, PF.g_l0, PF.g_l1, PF.g_l2, PF.g_l3, PF.g_sm2, PF.g_sm3, PF.g_sm4, PF.g_r2, PF.g_r3, PF.g_r4, List.length_map, f20, b20, e, z]
theorem lfree {ns : List Int} (hb : ∀ z ∈ ns, intBits z ≤ 1048576) {m : Int} (hm : Sz m) :
    ∃ F : List Pt, (∀ k, callK Q (k + 2) 21 [.lst (ns.map Tr.int), .int m] = .ok (.ow (F.map pt))) ∧ (∀ p ∈ F, OkP m p ∧ Bd 3 p) ∧ 3 ≤ F.length ∧ F.length ≤ 7 := by
  obtain ⟨Z, eZ⟩ := cells hb
  obtain ⟨c20, e20, w20⟩ := cell hb 20 (by decide) (by decide)
  obtain ⟨n, hn, en⟩ : ∃ n : Nat, (3 ≤ n ∧ n ≤ 7) ∧ 3 + c20 % 5 = (n : Int) := ⟨(3 + c20 % 5).toNat, by omega, by omega⟩
  have hs : smallI (n : Int) = true := g_sm _ (by omega)
  have wi := bits_int (decide ((6 : Int) < m) = true)
  have lz : ∀ c : Int, m < 8 → (c % 7 - 3) * (if decide ((6 : Int) < m) = true then 1 else 0) = 0 := fun c h => by
    rw [if_neg (by rw [decide_eq_true_eq]; have hm' : m = 4 ∨ m = 6 ∨ m = 8 ∨ m = 10 ∨ m = 12 := hm; omega), Int.mul_zero]
  have lr : ∀ c : Int, -3 ≤ (c % 7 - 3) * (if decide ((6 : Int) < m) = true then 1 else 0) ∧ (c % 7 - 3) * (if decide ((6 : Int) < m) = true then 1 else 0) ≤ 3 := fun c => by
    split <;> omega
  refine ⟨(List.range n).map fun q => ⟨Z (21 + 4 * q + 0) % 7 - 3, (Z (21 + 4 * q + 1) % 7 - 3) * (if decide ((6 : Int) < m) = true then 1 else 0), Z (21 + 4 * q + 2) % 7 - 3, (Z (21 + 4 * q + 3) % 7 - 3) * (if decide ((6 : Int) < m) = true then 1 else 0)⟩, fun k => ?_, fun p hp => ?_, by rw [List.length_map, List.length_range]; omega, by rw [List.length_map, List.length_range]; omega⟩
  · rw [call_f (f := f21) rfl (k + 1) _ rfl]
    simp -implicitDefEqProofs (maxSteps := 400000) (disch := (first | with_reducible assumption | (with_reducible apply PF.mulOk_of <;> (repeat' (first | with_reducible assumption | with_reducible (apply PyProof.Rows.bits_add) | with_reducible (apply PyProof.Rows.bits_sub) | with_reducible (apply PyProof.Rows.bits_mul) | with_reducible (apply PyProof.Rows.bits_neg) | with_reducible (apply PF.bits_div (by first | omega | decide +kernel)) | with_reducible (apply PF.bits_mod (by first | omega | decide +kernel)) | (with_reducible show _ + _ ≤ 134217728; decide +kernel) | exact Nat.le_refl _))) | ((with_reducible apply PF.lt_len); with_unfolding_all rfl) | omega | decide +kernel)) only [PF.opI_mul, PF.opI_mod, PF.opI_fdiv, PF.ixT0, PF.ixT1, PF.cmp_eq, PF.cmp_ne, PF.cmp_lt, PF.cmp_le, PF.cmp_gt, PF.cmp_ge, PF.cmp_t2, PF.cmp_n2, PF.cmp_tt2, PF.cmp_nt2, PF.isInsT, PF.q_lo, PF.q_s1, PF.q_s2, PF.q_non, PF.q_bl, PF.q_int, PF.q_str, PF.q_gl, PF.q_bin, PF.q_bin1, PF.q_bin2, PF.q_kI, PF.q_kB, PF.q_kIm, PF.q_kFz, PF.q_neg, PF.q_neg1, PF.q_not, PF.q_not1, PF.q_cmp, PF.q_cmp1, PF.q_cmp2, PF.q_isN, PF.q_isN1, PF.q_and, PF.q_and1, PF.q_and2, PF.q_or, PF.q_or1, PF.q_or2, PF.q_ite, PF.q_ite1, PF.q_ite2, PF.q_tup, PF.q_tup1, PF.q_tup2, PF.q_lst, PF.q_lst1, PF.q_lst2, PF.q_ix, PF.q_ix1, PF.q_ix2, PF.q_call, PF.q_call1, PF.q_meth, PF.q_meth1, PF.q_meth2, PF.q_meth3, PF.q_fld, PF.q_fld1, PF.q_blt, PF.q_blt1, PF.q_isi, PF.q_isi0, PF.q_vs0, PF.q_vs1, PF.q_vs2, PF.q_vs3, PF.q_vb0, PF.q_vb1, PF.q_vb2, PF.q_vb3, PF.q_itE, PF.q_itE1, PF.q_it1, PF.q_it2, PF.q_it3, PF.q_asg, PF.q_asg0, PF.q_nx, PF.q_par, PF.q_par1, PF.q_ret, PF.q_ret1, PF.q_retN, PF.q_iff, PF.q_iff1, PF.q_iff2, PF.q_for, PF.q_for1, PF.q_fg0, PF.q_fg1, PF.q_fb, PF.q_f1, PF.q_f2, PF.q_rse, PF.q_es0, PF.q_es1, PF.q_cn, PF.q_cr, PF.q_rk1, PF.q_rk2, PF.q_see1, PF.q_see2, PF.q_see3, PF.q_fz1, PF.q_fz2, PF.q_out1, PF.q_out2, PF.q_out3, PF.q_op, PF.q_add, PF.q_sub, PF.q_isi1, PF.q_isi2, PF.q_isi3, PF.q_isi4, PF.q_isi5, PF.q_asg1, PF.q_asg2, PF.q_put1, PF.q_put2, PF.q_bnm, PF.q_bt0, PF.q_bt1, PF.q_bt2, PF.q_tg1, PF.q_tg2, PF.q_its1, PF.q_its2, PF.q_len1, PF.q_len2, PF.q_bint, PF.q_fld0, PF.q_ctx, PF.q_cgl, PF.q_cwf, PF.q_size, List.map_cons, List.map_nil, Nat.reduceSub, Nat.sub_self, List.replicate, List.append_nil, List.cons_append, List.nil_append, List.length_cons, List.length_nil, List.getElem?_cons_zero, List.getElem?_cons_succ, List.set_cons_zero, List.set_cons_succ, Nat.reduceAdd, Nat.reduceLT, Nat.reduceLeDiff, Int.cast_ofNat_Int, Int.reduceEq, Int.reduceLT, Int.reduceLE, decide_true, decide_false, if_true, Bool.false_eq_true, if_false, Bool.not_true, Bool.not_false, Bool.and_true, Bool.true_and, Bool.or_true, Bool.or_false, Bool.and_self, ite_true, ite_false, PF.g_nu, PF.g_pt, PF.g_n0, PF.g_n1, PF.g_p0, PF.g_p1, PF.g_pi, PF.g_pa, PF.g_pb, PF.g_fi, PF.g_ff, PF.g_ce, PF.g_cn, PF.g_pe, PF.g_pn, PF.s_lc, PF.s_lc1, PF.s_lc2, PF.s_lc3, PF.s_fI, PF.s_fI1, PF.s_fI2, PF.s_fI3, PF.s_fI4, PF.s_ec0, PF.s_ec1, PF.s_ec2, PF.s_ec3, PF.s_lg0, PF.s_lg1, PF.s_lg2, PF.s_lg3, PF.s_lg4, PF.s_w0, PF.s_w1, PF.s_fre, PF.s_fre1, PF.s_fre2, PF.s_fre3, PF.s_app, PF.s_app1, PF.s_app2, PF.s_app3, PF.s_pop, PF.s_pop1, PF.s_pop2, PF.s_whl, PF.s_wh1, PF.s_wh2, PF.s_wh3, PF.s_wh4, PF.s_nn, PF.s_nn1, PF.s_nnp, PF.s_nnn, PF.s_tol, PF.s_tol2, PF.s_tol3, PF.s_tup, PF.s_tup2, PF.s_len, PF.s_len2, PF.s_all, PF.at_pt, PF.at_pv, PF.g_s0, PF.g_s1, PF.g_sa, PF.s_sl, PF.s_sl1, PF.s_sl2, PF.s_sl3, PF.s_sl4, PF.s_sl5, PF.s_bn0, PF.s_bn1, PF.s_bn2, PF.s_bn3, PF.g_itn, PF.g_itp, PF.s_seti, PF.s_seti1, PF.s_seti2, PF.s_seti3, PF.s_seti4, PF.s_swp, PF.s_swp1, PF.s_swp2, PF.s_swp3, PF.s_sub, PF.s_sub1, PF.s_sub2, PF.s_sub3, PF.s_rev, PF.s_rev1, PF.s_rev2, PF.s_rev3, PF.s_isb, PF.s_isb1, PF.s_isb2, PF.s_isb3, PF.s_isb4, PF.g_catm, PF.g_catb, PF.g_cati, PF.g_cat2, PF.g_mapp, PF.g_map1, PF.g_mrev, PF.g_isib, PF.g_l0, PF.g_l1, PF.g_l2, PF.g_l3, PF.g_sm2, PF.g_sm3, PF.g_sm4, PF.g_r2, PF.g_r3, PF.g_r4, List.length_map, f21, b21, e20, en, hs]
    rw [rng_map]
    refine at_fold2 (F := fun k : Nat => Tr.int (k : Int)) (fun pre e => ∃ x y z, e = [.im (.lst (ns.map Tr.int)), .im (.int m), .ow ((pre.map fun q => (⟨Z (21 + 4 * q + 0) % 7 - 3, (Z (21 + 4 * q + 1) % 7 - 3) * (if decide ((6 : Int) < m) = true then 1 else 0), Z (21 + 4 * q + 2) % 7 - 3, (Z (21 + 4 * q + 3) % 7 - 3) * (if decide ((6 : Int) < m) = true then 1 else 0)⟩ : Pt)).map pt), x, y, z, .un]) (fun r => kEnd (kCont (Q.ctx (k + 1)) _ r)) ?_ ⟨_, _, _, rfl⟩ ?_
    · rintro q e hq pre lp ⟨x, y, z, rfl⟩
      have hq := List.mem_range.mp hq
      rw [List.length_range] at lp
      have z0 : ∀ k, callK Q (k + 1) 11 [.lst (ns.map Tr.int), .int (21 + 4 * (q : Int) + 0)] = .ok (.im (.int (Z (21 + 4 * q + 0)))) := eZ (21 + 4 * q + 0) (by omega)
      have z1 : ∀ k, callK Q (k + 1) 11 [.lst (ns.map Tr.int), .int (21 + 4 * (q : Int) + 1)] = .ok (.im (.int (Z (21 + 4 * q + 1)))) := eZ (21 + 4 * q + 1) (by omega)
      have z2 : ∀ k, callK Q (k + 1) 11 [.lst (ns.map Tr.int), .int (21 + 4 * (q : Int) + 2)] = .ok (.im (.int (Z (21 + 4 * q + 2)))) := eZ (21 + 4 * q + 2) (by omega)
      have z3 : ∀ k, callK Q (k + 1) 11 [.lst (ns.map Tr.int), .int (21 + 4 * (q : Int) + 3)] = .ok (.im (.int (Z (21 + 4 * q + 3)))) := eZ (21 + 4 * q + 3) (by omega)
      have wq : intBits (q : Int) ≤ 64 := intBits_le_64 (by omega) (by omega)
      have zs : PF.sizeOk (pre.length + 1) = true := decide_eq_true (by omega)
      refine ⟨_, ?_, ⟨.im (.int (q : Int)), .ow [.int (Z (21 + 4 * q + 0) % 7 - 3), .int (Z (21 + 4 * q + 1) % 7 - 3), .int (Z (21 + 4 * q + 2) % 7 - 3), .int (Z (21 + 4 * q + 3) % 7 - 3)], .im (.int (if decide ((6 : Int) < m) = true then 1 else 0)), rfl⟩⟩
      rw [List.map_append, List.map_append, List.map_cons, List.map_nil, List.map_cons, List.map_nil]
      simp -implicitDefEqProofs (maxSteps := 400000) (disch := (first | with_reducible assumption | (with_reducible apply PF.mulOk_of <;> (repeat' (first | with_reducible assumption | with_reducible (apply PyProof.Rows.bits_add) | with_reducible (apply PyProof.Rows.bits_sub) | with_reducible (apply PyProof.Rows.bits_mul) | with_reducible (apply PyProof.Rows.bits_neg) | with_reducible (apply PF.bits_div (by first | omega | decide +kernel)) | with_reducible (apply PF.bits_mod (by first | omega | decide +kernel)) | (with_reducible show _ + _ ≤ 134217728; decide +kernel) | exact Nat.le_refl _))) | ((with_reducible apply PF.lt_len); with_unfolding_all rfl) | omega | decide +kernel)) only [PF.opI_mul, PF.opI_mod, PF.opI_fdiv, PF.ixT0, PF.ixT1, PF.cmp_eq, PF.cmp_ne, PF.cmp_lt, PF.cmp_le, PF.cmp_gt, PF.cmp_ge, PF.cmp_t2, PF.cmp_n2, PF.cmp_tt2, PF.cmp_nt2, PF.isInsT, PF.q_lo, PF.q_s1, PF.q_s2, PF.q_non, PF.q_bl, PF.q_int, PF.q_str, PF.q_gl, PF.q_bin, PF.q_bin1, PF.q_bin2, PF.q_kI, PF.q_kB, PF.q_kIm, PF.q_kFz, PF.q_neg, PF.q_neg1, PF.q_not, PF.q_not1, PF.q_cmp, PF.q_cmp1, PF.q_cmp2, PF.q_isN, PF.q_isN1, PF.q_and, PF.q_and1, PF.q_and2, PF.q_or, PF.q_or1, PF.q_or2, PF.q_ite, PF.q_ite1, PF.q_ite2, PF.q_tup, PF.q_tup1, PF.q_tup2, PF.q_lst, PF.q_lst1, PF.q_lst2, PF.q_ix, PF.q_ix1, PF.q_ix2, PF.q_call, PF.q_call1, PF.q_meth, PF.q_meth1, PF.q_meth2, PF.q_meth3, PF.q_fld, PF.q_fld1, PF.q_blt, PF.q_blt1, PF.q_isi, PF.q_isi0, PF.q_vs0, PF.q_vs1, PF.q_vs2, PF.q_vs3, PF.q_vb0, PF.q_vb1, PF.q_vb2, PF.q_vb3, PF.q_itE, PF.q_itE1, PF.q_it1, PF.q_it2, PF.q_it3, PF.q_asg, PF.q_asg0, PF.q_nx, PF.q_par, PF.q_par1, PF.q_ret, PF.q_ret1, PF.q_retN, PF.q_iff, PF.q_iff1, PF.q_iff2, PF.q_for, PF.q_for1, PF.q_fg0, PF.q_fg1, PF.q_fb, PF.q_f1, PF.q_f2, PF.q_rse, PF.q_es0, PF.q_es1, PF.q_cn, PF.q_cr, PF.q_rk1, PF.q_rk2, PF.q_see1, PF.q_see2, PF.q_see3, PF.q_fz1, PF.q_fz2, PF.q_out1, PF.q_out2, PF.q_out3, PF.q_op, PF.q_add, PF.q_sub, PF.q_isi1, PF.q_isi2, PF.q_isi3, PF.q_isi4, PF.q_isi5, PF.q_asg1, PF.q_asg2, PF.q_put1, PF.q_put2, PF.q_bnm, PF.q_bt0, PF.q_bt1, PF.q_bt2, PF.q_tg1, PF.q_tg2, PF.q_its1, PF.q_its2, PF.q_len1, PF.q_len2, PF.q_bint, PF.q_fld0, PF.q_ctx, PF.q_cgl, PF.q_cwf, PF.q_size, List.map_cons, List.map_nil, Nat.reduceSub, Nat.sub_self, List.replicate, List.append_nil, List.cons_append, List.nil_append, List.length_cons, List.length_nil, List.getElem?_cons_zero, List.getElem?_cons_succ, List.set_cons_zero, List.set_cons_succ, Nat.reduceAdd, Nat.reduceLT, Nat.reduceLeDiff, Int.cast_ofNat_Int, Int.reduceEq, Int.reduceLT, Int.reduceLE, decide_true, decide_false, if_true, Bool.false_eq_true, if_false, Bool.not_true, Bool.not_false, Bool.and_true, Bool.true_and, Bool.or_true, Bool.or_false, Bool.and_self, ite_true, ite_false, PF.g_nu, PF.g_pt, PF.g_n0, PF.g_n1, PF.g_p0, PF.g_p1, PF.g_pi, PF.g_pa, PF.g_pb, PF.g_fi, PF.g_ff, PF.g_ce, PF.g_cn, PF.g_pe, PF.g_pn, PF.s_lc, PF.s_lc1, PF.s_lc2, PF.s_lc3, PF.s_fI, PF.s_fI1, PF.s_fI2, PF.s_fI3, PF.s_fI4, PF.s_ec0, PF.s_ec1, PF.s_ec2, PF.s_ec3, PF.s_lg0, PF.s_lg1, PF.s_lg2, PF.s_lg3, PF.s_lg4, PF.s_w0, PF.s_w1, PF.s_fre, PF.s_fre1, PF.s_fre2, PF.s_fre3, PF.s_app, PF.s_app1, PF.s_app2, PF.s_app3, PF.s_pop, PF.s_pop1, PF.s_pop2, PF.s_whl, PF.s_wh1, PF.s_wh2, PF.s_wh3, PF.s_wh4, PF.s_nn, PF.s_nn1, PF.s_nnp, PF.s_nnn, PF.s_tol, PF.s_tol2, PF.s_tol3, PF.s_tup, PF.s_tup2, PF.s_len, PF.s_len2, PF.s_all, PF.at_pt, PF.at_pv, PF.g_s0, PF.g_s1, PF.g_sa, PF.s_sl, PF.s_sl1, PF.s_sl2, PF.s_sl3, PF.s_sl4, PF.s_sl5, PF.s_bn0, PF.s_bn1, PF.s_bn2, PF.s_bn3, PF.g_itn, PF.g_itp, PF.s_seti, PF.s_seti1, PF.s_seti2, PF.s_seti3, PF.s_seti4, PF.s_swp, PF.s_swp1, PF.s_swp2, PF.s_swp3, PF.s_sub, PF.s_sub1, PF.s_sub2, PF.s_sub3, PF.s_rev, PF.s_rev1, PF.s_rev2, PF.s_rev3, PF.s_isb, PF.s_isb1, PF.s_isb2, PF.s_isb3, PF.s_isb4, PF.g_catm, PF.g_catb, PF.g_cati, PF.g_cat2, PF.g_mapp, PF.g_map1, PF.g_mrev, PF.g_isib, PF.g_l0, PF.g_l1, PF.g_l2, PF.g_l3, PF.g_sm2, PF.g_sm3, PF.g_sm4, PF.g_r2, PF.g_r3, PF.g_r4, List.length_map, z0, z1, z2, z3, zs]
    · rintro e ⟨x, y, z, rfl⟩
      simp -implicitDefEqProofs (maxSteps := 400000) (disch := (first | with_reducible assumption | (with_reducible apply PF.mulOk_of <;> (repeat' (first | with_reducible assumption | with_reducible (apply PyProof.Rows.bits_add) | with_reducible (apply PyProof.Rows.bits_sub) | with_reducible (apply PyProof.Rows.bits_mul) | with_reducible (apply PyProof.Rows.bits_neg) | with_reducible (apply PF.bits_div (by first | omega | decide +kernel)) | with_reducible (apply PF.bits_mod (by first | omega | decide +kernel)) | (with_reducible show _ + _ ≤ 134217728; decide +kernel) | exact Nat.le_refl _))) | ((with_reducible apply PF.lt_len); with_unfolding_all rfl) | omega | decide +kernel)) only [PF.opI_mul, PF.opI_mod, PF.opI_fdiv, PF.ixT0, PF.ixT1, PF.cmp_eq, PF.cmp_ne, PF.cmp_lt, PF.cmp_le, PF.cmp_gt, PF.cmp_ge, PF.cmp_t2, PF.cmp_n2, PF.cmp_tt2, PF.cmp_nt2, PF.isInsT, PF.q_lo, PF.q_s1, PF.q_s2, PF.q_non, PF.q_bl, PF.q_int, PF.q_str, PF.q_gl, PF.q_bin, PF.q_bin1, PF.q_bin2, PF.q_kI, PF.q_kB, PF.q_kIm, PF.q_kFz, PF.q_neg, PF.q_neg1, PF.q_not, PF.q_not1, PF.q_cmp, PF.q_cmp1, PF.q_cmp2, PF.q_isN, PF.q_isN1, PF.q_and, PF.q_and1, PF.q_and2, PF.q_or, PF.q_or1, PF.q_or2, PF.q_ite, PF.q_ite1, PF.q_ite2, PF.q_tup, PF.q_tup1, PF.q_tup2, PF.q_lst, PF.q_lst1, PF.q_lst2, PF.q_ix, PF.q_ix1, PF.q_ix2, PF.q_call, PF.q_call1, PF.q_meth, PF.q_meth1, PF.q_meth2, PF.q_meth3, PF.q_fld, PF.q_fld1, PF.q_blt, PF.q_blt1, PF.q_isi, PF.q_isi0, PF.q_vs0, PF.q_vs1, PF.q_vs2, PF.q_vs3, PF.q_vb0, PF.q_vb1, PF.q_vb2, PF.q_vb3, PF.q_itE, PF.q_itE1, PF.q_it1, PF.q_it2, PF.q_it3, PF.q_asg, PF.q_asg0, PF.q_nx, PF.q_par, PF.q_par1, PF.q_ret, PF.q_ret1, PF.q_retN, PF.q_iff, PF.q_iff1, PF.q_iff2, PF.q_for, PF.q_for1, PF.q_fg0, PF.q_fg1, PF.q_fb, PF.q_f1, PF.q_f2, PF.q_rse, PF.q_es0, PF.q_es1, PF.q_cn, PF.q_cr, PF.q_rk1, PF.q_rk2, PF.q_see1, PF.q_see2, PF.q_see3, PF.q_fz1, PF.q_fz2, PF.q_out1, PF.q_out2, PF.q_out3, PF.q_op, PF.q_add, PF.q_sub, PF.q_isi1, PF.q_isi2, PF.q_isi3, PF.q_isi4, PF.q_isi5, PF.q_asg1, PF.q_asg2, PF.q_put1, PF.q_put2, PF.q_bnm, PF.q_bt0, PF.q_bt1, PF.q_bt2, PF.q_tg1, PF.q_tg2, PF.q_its1, PF.q_its2, PF.q_len1, PF.q_len2, PF.q_bint, PF.q_fld0, PF.q_ctx, PF.q_cgl, PF.q_cwf, PF.q_size, List.map_cons, List.map_nil, Nat.reduceSub, Nat.sub_self, List.replicate, List.append_nil, List.cons_append, List.nil_append, List.length_cons, List.length_nil, List.getElem?_cons_zero, List.getElem?_cons_succ, List.set_cons_zero, List.set_cons_succ, Nat.reduceAdd, Nat.reduceLT, Nat.reduceLeDiff, Int.cast_ofNat_Int, Int.reduceEq, Int.reduceLT, Int.reduceLE, decide_true, decide_false, if_true, Bool.false_eq_true, if_false, Bool.not_true, Bool.not_false, Bool.and_true, Bool.true_and, Bool.or_true, Bool.or_false, Bool.and_self, ite_true, ite_false, PF.g_nu, PF.g_pt, PF.g_n0, PF.g_n1, PF.g_p0, PF.g_p1, PF.g_pi, PF.g_pa, PF.g_pb, PF.g_fi, PF.g_ff, PF.g_ce, PF.g_cn, PF.g_pe, PF.g_pn, PF.s_lc, PF.s_lc1, PF.s_lc2, PF.s_lc3, PF.s_fI, PF.s_fI1, PF.s_fI2, PF.s_fI3, PF.s_fI4, PF.s_ec0, PF.s_ec1, PF.s_ec2, PF.s_ec3, PF.s_lg0, PF.s_lg1, PF.s_lg2, PF.s_lg3, PF.s_lg4, PF.s_w0, PF.s_w1, PF.s_fre, PF.s_fre1, PF.s_fre2, PF.s_fre3, PF.s_app, PF.s_app1, PF.s_app2, PF.s_app3, PF.s_pop, PF.s_pop1, PF.s_pop2, PF.s_whl, PF.s_wh1, PF.s_wh2, PF.s_wh3, PF.s_wh4, PF.s_nn, PF.s_nn1, PF.s_nnp, PF.s_nnn, PF.s_tol, PF.s_tol2, PF.s_tol3, PF.s_tup, PF.s_tup2, PF.s_len, PF.s_len2, PF.s_all, PF.at_pt, PF.at_pv, PF.g_s0, PF.g_s1, PF.g_sa, PF.s_sl, PF.s_sl1, PF.s_sl2, PF.s_sl3, PF.s_sl4, PF.s_sl5, PF.s_bn0, PF.s_bn1, PF.s_bn2, PF.s_bn3, PF.g_itn, PF.g_itp, PF.s_seti, PF.s_seti1, PF.s_seti2, PF.s_seti3, PF.s_seti4, PF.s_swp, PF.s_swp1, PF.s_swp2, PF.s_swp3, PF.s_sub, PF.s_sub1, PF.s_sub2, PF.s_sub3, PF.s_rev, PF.s_rev1, PF.s_rev2, PF.s_rev3, PF.s_isb, PF.s_isb1, PF.s_isb2, PF.s_isb3, PF.s_isb4, PF.g_catm, PF.g_catb, PF.g_cati, PF.g_cat2, PF.g_mapp, PF.g_map1, PF.g_mrev, PF.g_isib, PF.g_l0, PF.g_l1, PF.g_l2, PF.g_l3, PF.g_sm2, PF.g_sm3, PF.g_sm4, PF.g_r2, PF.g_r3, PF.g_r4, List.length_map]
  · obtain ⟨q, hq, rfl⟩ := List.mem_map.mp hp
    exact ⟨fun h => ⟨lz _ h, lz _ h⟩, ⟨by show -3 ≤ Z (21 + 4 * q + 0) % 7 - 3; omega, by show Z (21 + 4 * q + 0) % 7 - 3 ≤ 3; omega⟩, lr _, ⟨by show -3 ≤ Z (21 + 4 * q + 2) % 7 - 3; omega, by show Z (21 + 4 * q + 2) % 7 - 3 ≤ 3; omega⟩, lr _⟩
theorem llist {ns : List Int} (hb : ∀ z ∈ ns, intBits z ≤ 1048576) {m : Int} (hm : Sz m) :
    ∃ L : List Pt, (∀ k, callK Q (k + 7) 22 [.lst (ns.map Tr.int), .int m] = .ok (.ow (L.map pt))) ∧ OkS m L ∧ 2 ≤ L.length := by
  obtain ⟨S, eS, ⟨cv, ok, bd, l6⟩, h3⟩ := lshape hb hm 1 (by decide) (by decide)
  obtain ⟨F, eF, hF, f3, f7⟩ := lfree hb hm
  obtain ⟨c14, e14, w14⟩ := cell hb 14 (by decide) (by decide)
  obtain ⟨c15, e15, w15⟩ := cell hb 15 (by decide) (by decide)
  obtain ⟨c16, e16, w16⟩ := cell hb 16 (by decide) (by decide)
  obtain ⟨j, hj, ej⟩ := modN c15 (show 0 < S.length by omega)
  obtain ⟨i, hi, ei⟩ := modN c16 (show 0 < S.length by omega)
  have hj0 : (0 : Int) < S.length := by omega
  have a1 := at_pt hj
  have a2 := at_pv hj
  have a3 := at_pt hi
  have gd : ∀ p ∈ S, Gd m p := fun p hp => ⟨ok p hp, (bd p hp).le (by decide)⟩
  have gF : ∀ p ∈ F, Gd m p := fun p hp => ⟨(hF p hp).1, (hF p hp).2.le (by decide)⟩
  have cd := cut_dp (S := S) (k := j) (by omega)
  have ct := cut_tp (S := S) (k := j) (by omega)
  have c2 : cutT (S.map pt) none (some 2) = (S.take 2).map pt := cut_tp (S := S) (k := 2) (by omega)
  by_cases h4 : c14 % 12 = 4
  · refine ⟨S.reverse, fun k => ?_, ⟨fun p hp => gd p (List.mem_reverse.mp hp), by rw [List.length_reverse]; omega⟩, by rw [List.length_reverse]; omega⟩
    rw [call_f (f := f22) rfl (k + 6) _ rfl]
    simp -implicitDefEqProofs (maxSteps := 400000) (disch := (first | with_reducible assumption | (with_reducible apply PF.mulOk_of <;> (repeat' (first | with_reducible assumption | with_reducible (apply PyProof.Rows.bits_add) | with_reducible (apply PyProof.Rows.bits_sub) | with_reducible (apply PyProof.Rows.bits_mul) | with_reducible (apply PyProof.Rows.bits_neg) | with_reducible (apply PF.bits_div (by first | omega | decide +kernel)) | with_reducible (apply PF.bits_mod (by first | omega | decide +kernel)) | (with_reducible show _ + _ ≤ 134217728; decide +kernel) | exact Nat.le_refl _))) | ((with_reducible apply PF.lt_len); with_unfolding_all rfl) | omega | decide +kernel)) only [PF.opI_mul, PF.opI_mod, PF.opI_fdiv, PF.ixT0, PF.ixT1, PF.cmp_eq, PF.cmp_ne, PF.cmp_lt, PF.cmp_le, PF.cmp_gt, PF.cmp_ge, PF.cmp_t2, PF.cmp_n2, PF.cmp_tt2, PF.cmp_nt2, PF.isInsT, PF.q_lo, PF.q_s1, PF.q_s2, PF.q_non, PF.q_bl, PF.q_int, PF.q_str, PF.q_gl, PF.q_bin, PF.q_bin1, PF.q_bin2, PF.q_kI, PF.q_kB, PF.q_kIm, PF.q_kFz, PF.q_neg, PF.q_neg1, PF.q_not, PF.q_not1, PF.q_cmp, PF.q_cmp1, PF.q_cmp2, PF.q_isN, PF.q_isN1, PF.q_and, PF.q_and1, PF.q_and2, PF.q_or, PF.q_or1, PF.q_or2, PF.q_ite, PF.q_ite1, PF.q_ite2, PF.q_tup, PF.q_tup1, PF.q_tup2, PF.q_lst, PF.q_lst1, PF.q_lst2, PF.q_ix, PF.q_ix1, PF.q_ix2, PF.q_call, PF.q_call1, PF.q_meth, PF.q_meth1, PF.q_meth2, PF.q_meth3, PF.q_fld, PF.q_fld1, PF.q_blt, PF.q_blt1, PF.q_isi, PF.q_isi0, PF.q_vs0, PF.q_vs1, PF.q_vs2, PF.q_vs3, PF.q_vb0, PF.q_vb1, PF.q_vb2, PF.q_vb3, PF.q_itE, PF.q_itE1, PF.q_it1, PF.q_it2, PF.q_it3, PF.q_asg, PF.q_asg0, PF.q_nx, PF.q_par, PF.q_par1, PF.q_ret, PF.q_ret1, PF.q_retN, PF.q_iff, PF.q_iff1, PF.q_iff2, PF.q_for, PF.q_for1, PF.q_fg0, PF.q_fg1, PF.q_fb, PF.q_f1, PF.q_f2, PF.q_rse, PF.q_es0, PF.q_es1, PF.q_cn, PF.q_cr, PF.q_rk1, PF.q_rk2, PF.q_see1, PF.q_see2, PF.q_see3, PF.q_fz1, PF.q_fz2, PF.q_out1, PF.q_out2, PF.q_out3, PF.q_op, PF.q_add, PF.q_sub, PF.q_isi1, PF.q_isi2, PF.q_isi3, PF.q_isi4, PF.q_isi5, PF.q_asg1, PF.q_asg2, PF.q_put1, PF.q_put2, PF.q_bnm, PF.q_bt0, PF.q_bt1, PF.q_bt2, PF.q_tg1, PF.q_tg2, PF.q_its1, PF.q_its2, PF.q_len1, PF.q_len2, PF.q_bint, PF.q_fld0, PF.q_ctx, PF.q_cgl, PF.q_cwf, PF.q_size, List.map_cons, List.map_nil, Nat.reduceSub, Nat.sub_self, List.replicate, List.append_nil, List.cons_append, List.nil_append, List.length_cons, List.length_nil, List.getElem?_cons_zero, List.getElem?_cons_succ, List.set_cons_zero, List.set_cons_succ, Nat.reduceAdd, Nat.reduceLT, Nat.reduceLeDiff, Int.cast_ofNat_Int, Int.reduceEq, Int.reduceLT, Int.reduceLE, decide_true, decide_false, if_true, Bool.false_eq_true, if_false, Bool.not_true, Bool.not_false, Bool.and_true, Bool.true_and, Bool.or_true, Bool.or_false, Bool.and_self, ite_true, ite_false, PF.g_nu, PF.g_pt, PF.g_n0, PF.g_n1, PF.g_p0, PF.g_p1, PF.g_pi, PF.g_pa, PF.g_pb, PF.g_fi, PF.g_ff, PF.g_ce, PF.g_cn, PF.g_pe, PF.g_pn, PF.s_lc, PF.s_lc1, PF.s_lc2, PF.s_lc3, PF.s_fI, PF.s_fI1, PF.s_fI2, PF.s_fI3, PF.s_fI4, PF.s_ec0, PF.s_ec1, PF.s_ec2, PF.s_ec3, PF.s_lg0, PF.s_lg1, PF.s_lg2, PF.s_lg3, PF.s_lg4, PF.s_w0, PF.s_w1, PF.s_fre, PF.s_fre1, PF.s_fre2, PF.s_fre3, PF.s_app, PF.s_app1, PF.s_app2, PF.s_app3, PF.s_pop, PF.s_pop1, PF.s_pop2, PF.s_whl, PF.s_wh1, PF.s_wh2, PF.s_wh3, PF.s_wh4, PF.s_nn, PF.s_nn1, PF.s_nnp, PF.s_nnn, PF.s_tol, PF.s_tol2, PF.s_tol3, PF.s_tup, PF.s_tup2, PF.s_len, PF.s_len2, PF.s_all, PF.at_pt, PF.at_pv, PF.g_s0, PF.g_s1, PF.g_sa, PF.s_sl, PF.s_sl1, PF.s_sl2, PF.s_sl3, PF.s_sl4, PF.s_sl5, PF.s_bn0, PF.s_bn1, PF.s_bn2, PF.s_bn3, PF.g_itn, PF.g_itp, PF.s_seti, PF.s_seti1, PF.s_seti2, PF.s_seti3, PF.s_seti4, PF.s_swp, PF.s_swp1, PF.s_swp2, PF.s_swp3, PF.s_sub, PF.s_sub1, PF.s_sub2, PF.s_sub3, PF.s_rev, PF.s_rev1, PF.s_rev2, PF.s_rev3, PF.s_isb, PF.s_isb1, PF.s_isb2, PF.s_isb3, PF.s_isb4, PF.g_catm, PF.g_catb, PF.g_cati, PF.g_cat2, PF.g_mapp, PF.g_map1, PF.g_mrev, PF.g_isib, PF.g_l0, PF.g_l1, PF.g_l2, PF.g_l3, PF.g_sm2, PF.g_sm3, PF.g_sm4, PF.g_r2, PF.g_r3, PF.g_r4, List.length_map, f22, b22, eS, e14, e15, e16, ej, ei, h4]
  · by_cases h5 : c14 % 12 = 5
    · have l1 : (S.take j).length = j := by rw [List.length_take]; omega
      have l2 : (S.drop j).length = S.length - j := List.length_drop ..
      have z1 : PF.sizeOk ((S.take j).length + 1) = true := decide_eq_true (by omega)
      have z2 : PF.sizeOk ((S.take j ++ [gt S i]).length + (S.drop j).length) = true := decide_eq_true (by rw [List.length_append]; simp only [List.length_cons, List.length_nil]; omega)
      refine ⟨(S.take j ++ [gt S i]) ++ S.drop j, fun k => ?_, ⟨fun p hp => ?_, by simp only [List.length_append, List.length_cons, List.length_nil]; omega⟩, by simp only [List.length_append, List.length_cons, List.length_nil]; omega⟩
      · rw [call_f (f := f22) rfl (k + 6) _ rfl]
        simp -implicitDefEqProofs (maxSteps := 400000) (disch := (first | with_reducible assumption | (with_reducible apply PF.mulOk_of <;> (repeat' (first | with_reducible assumption | with_reducible (apply PyProof.Rows.bits_add) | with_reducible (apply PyProof.Rows.bits_sub) | with_reducible (apply PyProof.Rows.bits_mul) | with_reducible (apply PyProof.Rows.bits_neg) | with_reducible (apply PF.bits_div (by first | omega | decide +kernel)) | with_reducible (apply PF.bits_mod (by first | omega | decide +kernel)) | (with_reducible show _ + _ ≤ 134217728; decide +kernel) | exact Nat.le_refl _))) | ((with_reducible apply PF.lt_len); with_unfolding_all rfl) | omega | decide +kernel)) only [PF.opI_mul, PF.opI_mod, PF.opI_fdiv, PF.ixT0, PF.ixT1, PF.cmp_eq, PF.cmp_ne, PF.cmp_lt, PF.cmp_le, PF.cmp_gt, PF.cmp_ge, PF.cmp_t2, PF.cmp_n2, PF.cmp_tt2, PF.cmp_nt2, PF.isInsT, PF.q_lo, PF.q_s1, PF.q_s2, PF.q_non, PF.q_bl, PF.q_int, PF.q_str, PF.q_gl, PF.q_bin, PF.q_bin1, PF.q_bin2, PF.q_kI, PF.q_kB, PF.q_kIm, PF.q_kFz, PF.q_neg, PF.q_neg1, PF.q_not, PF.q_not1, PF.q_cmp, PF.q_cmp1, PF.q_cmp2, PF.q_isN, PF.q_isN1, PF.q_and, PF.q_and1, PF.q_and2, PF.q_or, PF.q_or1, PF.q_or2, PF.q_ite, PF.q_ite1, PF.q_ite2, PF.q_tup, PF.q_tup1, PF.q_tup2, PF.q_lst, PF.q_lst1, PF.q_lst2, PF.q_ix, PF.q_ix1, PF.q_ix2, PF.q_call, PF.q_call1, PF.q_meth, PF.q_meth1, PF.q_meth2, PF.q_meth3, PF.q_fld, PF.q_fld1, PF.q_blt, PF.q_blt1, PF.q_isi, PF.q_isi0, PF.q_vs0, PF.q_vs1, PF.q_vs2, PF.q_vs3, PF.q_vb0, PF.q_vb1, PF.q_vb2, PF.q_vb3, PF.q_itE, PF.q_itE1, PF.q_it1, PF.q_it2, PF.q_it3, PF.q_asg, PF.q_asg0, PF.q_nx, PF.q_par, PF.q_par1, PF.q_ret, PF.q_ret1, PF.q_retN, PF.q_iff, PF.q_iff1, PF.q_iff2, PF.q_for, PF.q_for1, PF.q_fg0, PF.q_fg1, PF.q_fb, PF.q_f1, PF.q_f2, PF.q_rse, PF.q_es0, PF.q_es1, PF.q_cn, PF.q_cr, PF.q_rk1, PF.q_rk2, PF.q_see1, PF.q_see2, PF.q_see3, PF.q_fz1, PF.q_fz2, PF.q_out1, PF.q_out2, PF.q_out3, PF.q_op, PF.q_add, PF.q_sub, PF.q_isi1, PF.q_isi2, PF.q_isi3, PF.q_isi4, PF.q_isi5, PF.q_asg1, PF.q_asg2, PF.q_put1, PF.q_put2, PF.q_bnm, PF.q_bt0, PF.q_bt1, PF.q_bt2, PF.q_tg1, PF.q_tg2, PF.q_its1, PF.q_its2, PF.q_len1, PF.q_len2, PF.q_bint, PF.q_fld0, PF.q_ctx, PF.q_cgl, PF.q_cwf, PF.q_size, List.map_cons, List.map_nil, Nat.reduceSub, Nat.sub_self, List.replicate, List.append_nil, List.cons_append, List.nil_append, List.length_cons, List.length_nil, List.getElem?_cons_zero, List.getElem?_cons_succ, List.set_cons_zero, List.set_cons_succ, Nat.reduceAdd, Nat.reduceLT, Nat.reduceLeDiff, Int.cast_ofNat_Int, Int.reduceEq, Int.reduceLT, Int.reduceLE, decide_true, decide_false, if_true, Bool.false_eq_true, if_false, Bool.not_true, Bool.not_false, Bool.and_true, Bool.true_and, Bool.or_true, Bool.or_false, Bool.and_self, ite_true, ite_false, PF.g_nu, PF.g_pt, PF.g_n0, PF.g_n1, PF.g_p0, PF.g_p1, PF.g_pi, PF.g_pa, PF.g_pb, PF.g_fi, PF.g_ff, PF.g_ce, PF.g_cn, PF.g_pe, PF.g_pn, PF.s_lc, PF.s_lc1, PF.s_lc2, PF.s_lc3, PF.s_fI, PF.s_fI1, PF.s_fI2, PF.s_fI3, PF.s_fI4, PF.s_ec0, PF.s_ec1, PF.s_ec2, PF.s_ec3, PF.s_lg0, PF.s_lg1, PF.s_lg2, PF.s_lg3, PF.s_lg4, PF.s_w0, PF.s_w1, PF.s_fre, PF.s_fre1, PF.s_fre2, PF.s_fre3, PF.s_app, PF.s_app1, PF.s_app2, PF.s_app3, PF.s_pop, PF.s_pop1, PF.s_pop2, PF.s_whl, PF.s_wh1, PF.s_wh2, PF.s_wh3, PF.s_wh4, PF.s_nn, PF.s_nn1, PF.s_nnp, PF.s_nnn, PF.s_tol, PF.s_tol2, PF.s_tol3, PF.s_tup, PF.s_tup2, PF.s_len, PF.s_len2, PF.s_all, PF.at_pt, PF.at_pv, PF.g_s0, PF.g_s1, PF.g_sa, PF.s_sl, PF.s_sl1, PF.s_sl2, PF.s_sl3, PF.s_sl4, PF.s_sl5, PF.s_bn0, PF.s_bn1, PF.s_bn2, PF.s_bn3, PF.g_itn, PF.g_itp, PF.s_seti, PF.s_seti1, PF.s_seti2, PF.s_seti3, PF.s_seti4, PF.s_swp, PF.s_swp1, PF.s_swp2, PF.s_swp3, PF.s_sub, PF.s_sub1, PF.s_sub2, PF.s_sub3, PF.s_rev, PF.s_rev1, PF.s_rev2, PF.s_rev3, PF.s_isb, PF.s_isb1, PF.s_isb2, PF.s_isb3, PF.s_isb4, PF.g_catm, PF.g_catb, PF.g_cati, PF.g_cat2, PF.g_mapp, PF.g_map1, PF.g_mrev, PF.g_isib, PF.g_l0, PF.g_l1, PF.g_l2, PF.g_l3, PF.g_sm2, PF.g_sm3, PF.g_sm4, PF.g_r2, PF.g_r3, PF.g_r4, List.length_map, f22, b22, eS, e14, e15, e16, ej, ei, h4, h5, a3, cd, ct, z1, z2]
      · rcases List.mem_append.mp hp with hp | hp
        · rcases List.mem_append.mp hp with hp | hp
          · exact gd p (List.mem_of_mem_take hp)
          · rcases List.mem_cons.mp hp with rfl | hp
            · exact gd _ (gt_mem hi)
            · cases hp
        · exact gd p (List.mem_of_mem_drop hp)
    · by_cases h6 : c14 % 12 = 6
      · have l1 : (S.take j).length = j := by rw [List.length_take]; omega
        have l2 : (S.drop j).length = S.length - j := List.length_drop ..
        have d1 := fun k => ldoubled (k := k) (S := S.take j) (by omega)
        have d2 := fun k => ldoubled (k := k) (S := S.drop j) (by omega)
        have z1 : PF.sizeOk ((S.take j).length + 1) = true := decide_eq_true (by omega)
        have z2 : PF.sizeOk (((S.take j).map (fun p => adP p p) ++ [adP (gt S (pv S.length j)) (gt S j)]).length + (S.drop j).length) = true := decide_eq_true (by rw [List.length_append, List.length_map]; simp only [List.length_cons, List.length_nil]; omega)
        refine ⟨((S.take j).map (fun p => adP p p) ++ [adP (gt S (pv S.length j)) (gt S j)]) ++ (S.drop j).map (fun p => adP p p), fun k => ?_, ⟨fun p hp => ?_, by simp only [List.length_append, List.length_cons, List.length_nil, List.length_map]; omega⟩, by simp only [List.length_append, List.length_cons, List.length_nil, List.length_map]; omega⟩
        · rw [call_f (f := f22) rfl (k + 6) _ rfl]
          simp -implicitDefEqProofs (maxSteps := 400000) (disch := (first | with_reducible assumption | (with_reducible apply PF.mulOk_of <;> (repeat' (first | with_reducible assumption | with_reducible (apply PyProof.Rows.bits_add) | with_reducible (apply PyProof.Rows.bits_sub) | with_reducible (apply PyProof.Rows.bits_mul) | with_reducible (apply PyProof.Rows.bits_neg) | with_reducible (apply PF.bits_div (by first | omega | decide +kernel)) | with_reducible (apply PF.bits_mod (by first | omega | decide +kernel)) | (with_reducible show _ + _ ≤ 134217728; decide +kernel) | exact Nat.le_refl _))) | ((with_reducible apply PF.lt_len); with_unfolding_all rfl) | omega | decide +kernel)) only [PF.opI_mul, PF.opI_mod, PF.opI_fdiv, PF.ixT0, PF.ixT1, PF.cmp_eq, PF.cmp_ne, PF.cmp_lt, PF.cmp_le, PF.cmp_gt, PF.cmp_ge, PF.cmp_t2, PF.cmp_n2, PF.cmp_tt2, PF.cmp_nt2, PF.isInsT, PF.q_lo, PF.q_s1, PF.q_s2, PF.q_non, PF.q_bl, PF.q_int, PF.q_str, PF.q_gl, PF.q_bin, PF.q_bin1, PF.q_bin2, PF.q_kI, PF.q_kB, PF.q_kIm, PF.q_kFz, PF.q_neg, PF.q_neg1, PF.q_not, PF.q_not1, PF.q_cmp, PF.q_cmp1, PF.q_cmp2, PF.q_isN, PF.q_isN1, PF.q_and, PF.q_and1, PF.q_and2, PF.q_or, PF.q_or1, PF.q_or2, PF.q_ite, PF.q_ite1, PF.q_ite2, PF.q_tup, PF.q_tup1, PF.q_tup2, PF.q_lst, PF.q_lst1, PF.q_lst2, PF.q_ix, PF.q_ix1, PF.q_ix2, PF.q_call, PF.q_call1, PF.q_meth, PF.q_meth1, PF.q_meth2, PF.q_meth3, PF.q_fld, PF.q_fld1, PF.q_blt, PF.q_blt1, PF.q_isi, PF.q_isi0, PF.q_vs0, PF.q_vs1, PF.q_vs2, PF.q_vs3, PF.q_vb0, PF.q_vb1, PF.q_vb2, PF.q_vb3, PF.q_itE, PF.q_itE1, PF.q_it1, PF.q_it2, PF.q_it3, PF.q_asg, PF.q_asg0, PF.q_nx, PF.q_par, PF.q_par1, PF.q_ret, PF.q_ret1, PF.q_retN, PF.q_iff, PF.q_iff1, PF.q_iff2, PF.q_for, PF.q_for1, PF.q_fg0, PF.q_fg1, PF.q_fb, PF.q_f1, PF.q_f2, PF.q_rse, PF.q_es0, PF.q_es1, PF.q_cn, PF.q_cr, PF.q_rk1, PF.q_rk2, PF.q_see1, PF.q_see2, PF.q_see3, PF.q_fz1, PF.q_fz2, PF.q_out1, PF.q_out2, PF.q_out3, PF.q_op, PF.q_add, PF.q_sub, PF.q_isi1, PF.q_isi2, PF.q_isi3, PF.q_isi4, PF.q_isi5, PF.q_asg1, PF.q_asg2, PF.q_put1, PF.q_put2, PF.q_bnm, PF.q_bt0, PF.q_bt1, PF.q_bt2, PF.q_tg1, PF.q_tg2, PF.q_its1, PF.q_its2, PF.q_len1, PF.q_len2, PF.q_bint, PF.q_fld0, PF.q_ctx, PF.q_cgl, PF.q_cwf, PF.q_size, List.map_cons, List.map_nil, Nat.reduceSub, Nat.sub_self, List.replicate, List.append_nil, List.cons_append, List.nil_append, List.length_cons, List.length_nil, List.getElem?_cons_zero, List.getElem?_cons_succ, List.set_cons_zero, List.set_cons_succ, Nat.reduceAdd, Nat.reduceLT, Nat.reduceLeDiff, Int.cast_ofNat_Int, Int.reduceEq, Int.reduceLT, Int.reduceLE, decide_true, decide_false, if_true, Bool.false_eq_true, if_false, Bool.not_true, Bool.not_false, Bool.and_true, Bool.true_and, Bool.or_true, Bool.or_false, Bool.and_self, ite_true, ite_false, PF.g_nu, PF.g_pt, PF.g_n0, PF.g_n1, PF.g_p0, PF.g_p1, PF.g_pi, PF.g_pa, PF.g_pb, PF.g_fi, PF.g_ff, PF.g_ce, PF.g_cn, PF.g_pe, PF.g_pn, PF.s_lc, PF.s_lc1, PF.s_lc2, PF.s_lc3, PF.s_fI, PF.s_fI1, PF.s_fI2, PF.s_fI3, PF.s_fI4, PF.s_ec0, PF.s_ec1, PF.s_ec2, PF.s_ec3, PF.s_lg0, PF.s_lg1, PF.s_lg2, PF.s_lg3, PF.s_lg4, PF.s_w0, PF.s_w1, PF.s_fre, PF.s_fre1, PF.s_fre2, PF.s_fre3, PF.s_app, PF.s_app1, PF.s_app2, PF.s_app3, PF.s_pop, PF.s_pop1, PF.s_pop2, PF.s_whl, PF.s_wh1, PF.s_wh2, PF.s_wh3, PF.s_wh4, PF.s_nn, PF.s_nn1, PF.s_nnp, PF.s_nnn, PF.s_tol, PF.s_tol2, PF.s_tol3, PF.s_tup, PF.s_tup2, PF.s_len, PF.s_len2, PF.s_all, PF.at_pt, PF.at_pv, PF.g_s0, PF.g_s1, PF.g_sa, PF.s_sl, PF.s_sl1, PF.s_sl2, PF.s_sl3, PF.s_sl4, PF.s_sl5, PF.s_bn0, PF.s_bn1, PF.s_bn2, PF.s_bn3, PF.g_itn, PF.g_itp, PF.s_seti, PF.s_seti1, PF.s_seti2, PF.s_seti3, PF.s_seti4, PF.s_swp, PF.s_swp1, PF.s_swp2, PF.s_swp3, PF.s_sub, PF.s_sub1, PF.s_sub2, PF.s_sub3, PF.s_rev, PF.s_rev1, PF.s_rev2, PF.s_rev3, PF.s_isb, PF.s_isb1, PF.s_isb2, PF.s_isb3, PF.s_isb4, PF.g_catm, PF.g_catb, PF.g_cati, PF.g_cat2, PF.g_mapp, PF.g_map1, PF.g_mrev, PF.g_isib, PF.g_l0, PF.g_l1, PF.g_l2, PF.g_l3, PF.g_sm2, PF.g_sm3, PF.g_sm4, PF.g_r2, PF.g_r3, PF.g_r4, List.length_map, f22, b22, eS, e14, e15, e16, ej, ei, h4, h5, h6, a1, a2, lsum, cd, ct, d1, d2, z1, z2]
        · have ad : ∀ {p q}, p ∈ S → q ∈ S → Gd m (adP p q) := fun hp hq => ⟨(ok _ hp).ad (ok _ hq), ((bd _ hp).ad (bd _ hq)).le (by decide)⟩
          rcases List.mem_append.mp hp with hp | hp
          · rcases List.mem_append.mp hp with hp | hp
            · obtain ⟨q, hq, rfl⟩ := List.mem_map.mp hp
              exact ad (List.mem_of_mem_take hq) (List.mem_of_mem_take hq)
            · rcases List.mem_cons.mp hp with rfl | hp
              · exact ad (gt_mem (pv_lt hj)) (gt_mem hj)
              · cases hp
          · obtain ⟨q, hq, rfl⟩ := List.mem_map.mp hp
            exact ad (List.mem_of_mem_drop hq) (List.mem_of_mem_drop hq)
      · have sm : ∀ {T : List Pt} {k : Nat} {p q : Pt}, (∀ p ∈ T, Gd m p) → Gd m q → p ∈ T.set k q → Gd m p := fun hT hq hp => by
          rcases List.mem_or_eq_of_mem_set hp with h | rfl
          · exact hT _ h
          · exact hq
        by_cases h7 : c14 % 12 = 7
        · have s1 := st_pt (p := gt S i) hj
          have s2 := st_pt (S := S.set j (gt S i)) (k := i) (p := gt S j) (by rw [List.length_set]; exact hi)
          refine ⟨(S.set j (gt S i)).set i (gt S j), fun k => ?_, ⟨fun p hp => sm (fun p hp => sm gd (gd _ (gt_mem hi)) hp) (gd _ (gt_mem hj)) hp, by simp only [List.length_set]; omega⟩, by simp only [List.length_set]; omega⟩
          rw [call_f (f := f22) rfl (k + 6) _ rfl]
          simp -implicitDefEqProofs (maxSteps := 400000) (disch := (first | with_reducible assumption | (with_reducible apply PF.mulOk_of <;> (repeat' (first | with_reducible assumption | with_reducible (apply PyProof.Rows.bits_add) | with_reducible (apply PyProof.Rows.bits_sub) | with_reducible (apply PyProof.Rows.bits_mul) | with_reducible (apply PyProof.Rows.bits_neg) | with_reducible (apply PF.bits_div (by first | omega | decide +kernel)) | with_reducible (apply PF.bits_mod (by first | omega | decide +kernel)) | (with_reducible show _ + _ ≤ 134217728; decide +kernel) | exact Nat.le_refl _))) | ((with_reducible apply PF.lt_len); with_unfolding_all rfl) | omega | decide +kernel)) only [PF.opI_mul, PF.opI_mod, PF.opI_fdiv, PF.ixT0, PF.ixT1, PF.cmp_eq, PF.cmp_ne, PF.cmp_lt, PF.cmp_le, PF.cmp_gt, PF.cmp_ge, PF.cmp_t2, PF.cmp_n2, PF.cmp_tt2, PF.cmp_nt2, PF.isInsT, PF.q_lo, PF.q_s1, PF.q_s2, PF.q_non, PF.q_bl, PF.q_int, PF.q_str, PF.q_gl, PF.q_bin, PF.q_bin1, PF.q_bin2, PF.q_kI, PF.q_kB, PF.q_kIm, PF.q_kFz, PF.q_neg, PF.q_neg1, PF.q_not, PF.q_not1, PF.q_cmp, PF.q_cmp1, PF.q_cmp2, PF.q_isN, PF.q_isN1, PF.q_and, PF.q_and1, PF.q_and2, PF.q_or, PF.q_or1, PF.q_or2, PF.q_ite, PF.q_ite1, PF.q_ite2, PF.q_tup, PF.q_tup1, PF.q_tup2, PF.q_lst, PF.q_lst1, PF.q_lst2, PF.q_ix, PF.q_ix1, PF.q_ix2, PF.q_call, PF.q_call1, PF.q_meth, PF.q_meth1, PF.q_meth2, PF.q_meth3, PF.q_fld, PF.q_fld1, PF.q_blt, PF.q_blt1, PF.q_isi, PF.q_isi0, PF.q_vs0, PF.q_vs1, PF.q_vs2, PF.q_vs3, PF.q_vb0, PF.q_vb1, PF.q_vb2, PF.q_vb3, PF.q_itE, PF.q_itE1, PF.q_it1, PF.q_it2, PF.q_it3, PF.q_asg, PF.q_asg0, PF.q_nx, PF.q_par, PF.q_par1, PF.q_ret, PF.q_ret1, PF.q_retN, PF.q_iff, PF.q_iff1, PF.q_iff2, PF.q_for, PF.q_for1, PF.q_fg0, PF.q_fg1, PF.q_fb, PF.q_f1, PF.q_f2, PF.q_rse, PF.q_es0, PF.q_es1, PF.q_cn, PF.q_cr, PF.q_rk1, PF.q_rk2, PF.q_see1, PF.q_see2, PF.q_see3, PF.q_fz1, PF.q_fz2, PF.q_out1, PF.q_out2, PF.q_out3, PF.q_op, PF.q_add, PF.q_sub, PF.q_isi1, PF.q_isi2, PF.q_isi3, PF.q_isi4, PF.q_isi5, PF.q_asg1, PF.q_asg2, PF.q_put1, PF.q_put2, PF.q_bnm, PF.q_bt0, PF.q_bt1, PF.q_bt2, PF.q_tg1, PF.q_tg2, PF.q_its1, PF.q_its2, PF.q_len1, PF.q_len2, PF.q_bint, PF.q_fld0, PF.q_ctx, PF.q_cgl, PF.q_cwf, PF.q_size, List.map_cons, List.map_nil, Nat.reduceSub, Nat.sub_self, List.replicate, List.append_nil, List.cons_append, List.nil_append, List.length_cons, List.length_nil, List.getElem?_cons_zero, List.getElem?_cons_succ, List.set_cons_zero, List.set_cons_succ, Nat.reduceAdd, Nat.reduceLT, Nat.reduceLeDiff, Int.cast_ofNat_Int, Int.reduceEq, Int.reduceLT, Int.reduceLE, decide_true, decide_false, if_true, Bool.false_eq_true, if_false, Bool.not_true, Bool.not_false, Bool.and_true, Bool.true_and, Bool.or_true, Bool.or_false, Bool.and_self, ite_true, ite_false, PF.g_nu, PF.g_pt, PF.g_n0, PF.g_n1, PF.g_p0, PF.g_p1, PF.g_pi, PF.g_pa, PF.g_pb, PF.g_fi, PF.g_ff, PF.g_ce, PF.g_cn, PF.g_pe, PF.g_pn, PF.s_lc, PF.s_lc1, PF.s_lc2, PF.s_lc3, PF.s_fI, PF.s_fI1, PF.s_fI2, PF.s_fI3, PF.s_fI4, PF.s_ec0, PF.s_ec1, PF.s_ec2, PF.s_ec3, PF.s_lg0, PF.s_lg1, PF.s_lg2, PF.s_lg3, PF.s_lg4, PF.s_w0, PF.s_w1, PF.s_fre, PF.s_fre1, PF.s_fre2, PF.s_fre3, PF.s_app, PF.s_app1, PF.s_app2, PF.s_app3, PF.s_pop, PF.s_pop1, PF.s_pop2, PF.s_whl, PF.s_wh1, PF.s_wh2, PF.s_wh3, PF.s_wh4, PF.s_nn, PF.s_nn1, PF.s_nnp, PF.s_nnn, PF.s_tol, PF.s_tol2, PF.s_tol3, PF.s_tup, PF.s_tup2, PF.s_len, PF.s_len2, PF.s_all, PF.at_pt, PF.at_pv, PF.g_s0, PF.g_s1, PF.g_sa, PF.s_sl, PF.s_sl1, PF.s_sl2, PF.s_sl3, PF.s_sl4, PF.s_sl5, PF.s_bn0, PF.s_bn1, PF.s_bn2, PF.s_bn3, PF.g_itn, PF.g_itp, PF.s_seti, PF.s_seti1, PF.s_seti2, PF.s_seti3, PF.s_seti4, PF.s_swp, PF.s_swp1, PF.s_swp2, PF.s_swp3, PF.s_sub, PF.s_sub1, PF.s_sub2, PF.s_sub3, PF.s_rev, PF.s_rev1, PF.s_rev2, PF.s_rev3, PF.s_isb, PF.s_isb1, PF.s_isb2, PF.s_isb3, PF.s_isb4, PF.g_catm, PF.g_catb, PF.g_cati, PF.g_cat2, PF.g_mapp, PF.g_map1, PF.g_mrev, PF.g_isib, PF.g_l0, PF.g_l1, PF.g_l2, PF.g_l3, PF.g_sm2, PF.g_sm3, PF.g_sm4, PF.g_r2, PF.g_r3, PF.g_r4, List.length_map, f22, b22, eS, e14, e15, e16, ej, ei, h4, h5, h6, h7, a1, a3, s1, s2]
        · by_cases h8 : c14 % 12 = 8
          · have a4 : ixE (.lst (F.map pt)) (.int 0) = .ok (pt (gt F 0)) := at_pt (k := 0) (by omega)
            have s1 := st_pt (p := gt F 0) hj
            refine ⟨S.set j (gt F 0), fun k => ?_, ⟨fun p hp => sm gd (gF _ (gt_mem (by omega))) hp, by simp only [List.length_set]; omega⟩, by simp only [List.length_set]; omega⟩
            rw [call_f (f := f22) rfl (k + 6) _ rfl]
            simp -implicitDefEqProofs (maxSteps := 400000) (disch := (first | with_reducible assumption | (with_reducible apply PF.mulOk_of <;> (repeat' (first | with_reducible assumption | with_reducible (apply PyProof.Rows.bits_add) | with_reducible (apply PyProof.Rows.bits_sub) | with_reducible (apply PyProof.Rows.bits_mul) | with_reducible (apply PyProof.Rows.bits_neg) | with_reducible (apply PF.bits_div (by first | omega | decide +kernel)) | with_reducible (apply PF.bits_mod (by first | omega | decide +kernel)) | (with_reducible show _ + _ ≤ 134217728; decide +kernel) | exact Nat.le_refl _))) | ((with_reducible apply PF.lt_len); with_unfolding_all rfl) | omega | decide +kernel)) only [PF.opI_mul, PF.opI_mod, PF.opI_fdiv, PF.ixT0, PF.ixT1, PF.cmp_eq, PF.cmp_ne, PF.cmp_lt, PF.cmp_le, PF.cmp_gt, PF.cmp_ge, PF.cmp_t2, PF.cmp_n2, PF.cmp_tt2, PF.cmp_nt2, PF.isInsT, PF.q_lo, PF.q_s1, PF.q_s2, PF.q_non, PF.q_bl, PF.q_int, PF.q_str, PF.q_gl, PF.q_bin, PF.q_bin1, PF.q_bin2, PF.q_kI, PF.q_kB, PF.q_kIm, PF.q_kFz, PF.q_neg, PF.q_neg1, PF.q_not, PF.q_not1, PF.q_cmp, PF.q_cmp1, PF.q_cmp2, PF.q_isN, PF.q_isN1, PF.q_and, PF.q_and1, PF.q_and2, PF.q_or, PF.q_or1, PF.q_or2, PF.q_ite, PF.q_ite1, PF.q_ite2, PF.q_tup, PF.q_tup1, PF.q_tup2, PF.q_lst, PF.q_lst1, PF.q_lst2, PF.q_ix, PF.q_ix1, PF.q_ix2, PF.q_call, PF.q_call1, PF.q_meth, PF.q_meth1, PF.q_meth2, PF.q_meth3, PF.q_fld, PF.q_fld1, PF.q_blt, PF.q_blt1, PF.q_isi, PF.q_isi0, PF.q_vs0, PF.q_vs1, PF.q_vs2, PF.q_vs3, PF.q_vb0, PF.q_vb1, PF.q_vb2, PF.q_vb3, PF.q_itE, PF.q_itE1, PF.q_it1, PF.q_it2, PF.q_it3, PF.q_asg, PF.q_asg0, PF.q_nx, PF.q_par, PF.q_par1, PF.q_ret, PF.q_ret1, PF.q_retN, PF.q_iff, PF.q_iff1, PF.q_iff2, PF.q_for, PF.q_for1, PF.q_fg0, PF.q_fg1, PF.q_fb, PF.q_f1, PF.q_f2, PF.q_rse, PF.q_es0, PF.q_es1, PF.q_cn, PF.q_cr, PF.q_rk1, PF.q_rk2, PF.q_see1, PF.q_see2, PF.q_see3, PF.q_fz1, PF.q_fz2, PF.q_out1, PF.q_out2, PF.q_out3, PF.q_op, PF.q_add, PF.q_sub, PF.q_isi1, PF.q_isi2, PF.q_isi3, PF.q_isi4, PF.q_isi5, PF.q_asg1, PF.q_asg2, PF.q_put1, PF.q_put2, PF.q_bnm, PF.q_bt0, PF.q_bt1, PF.q_bt2, PF.q_tg1, PF.q_tg2, PF.q_its1, PF.q_its2, PF.q_len1, PF.q_len2, PF.q_bint, PF.q_fld0, PF.q_ctx, PF.q_cgl, PF.q_cwf, PF.q_size, List.map_cons, List.map_nil, Nat.reduceSub, Nat.sub_self, List.replicate, List.append_nil, List.cons_append, List.nil_append, List.length_cons, List.length_nil, List.getElem?_cons_zero, List.getElem?_cons_succ, List.set_cons_zero, List.set_cons_succ, Nat.reduceAdd, Nat.reduceLT, Nat.reduceLeDiff, Int.cast_ofNat_Int, Int.reduceEq, Int.reduceLT, Int.reduceLE, decide_true, decide_false, if_true, Bool.false_eq_true, if_false, Bool.not_true, Bool.not_false, Bool.and_true, Bool.true_and, Bool.or_true, Bool.or_false, Bool.and_self, ite_true, ite_false, PF.g_nu, PF.g_pt, PF.g_n0, PF.g_n1, PF.g_p0, PF.g_p1, PF.g_pi, PF.g_pa, PF.g_pb, PF.g_fi, PF.g_ff, PF.g_ce, PF.g_cn, PF.g_pe, PF.g_pn, PF.s_lc, PF.s_lc1, PF.s_lc2, PF.s_lc3, PF.s_fI, PF.s_fI1, PF.s_fI2, PF.s_fI3, PF.s_fI4, PF.s_ec0, PF.s_ec1, PF.s_ec2, PF.s_ec3, PF.s_lg0, PF.s_lg1, PF.s_lg2, PF.s_lg3, PF.s_lg4, PF.s_w0, PF.s_w1, PF.s_fre, PF.s_fre1, PF.s_fre2, PF.s_fre3, PF.s_app, PF.s_app1, PF.s_app2, PF.s_app3, PF.s_pop, PF.s_pop1, PF.s_pop2, PF.s_whl, PF.s_wh1, PF.s_wh2, PF.s_wh3, PF.s_wh4, PF.s_nn, PF.s_nn1, PF.s_nnp, PF.s_nnn, PF.s_tol, PF.s_tol2, PF.s_tol3, PF.s_tup, PF.s_tup2, PF.s_len, PF.s_len2, PF.s_all, PF.at_pt, PF.at_pv, PF.g_s0, PF.g_s1, PF.g_sa, PF.s_sl, PF.s_sl1, PF.s_sl2, PF.s_sl3, PF.s_sl4, PF.s_sl5, PF.s_bn0, PF.s_bn1, PF.s_bn2, PF.s_bn3, PF.g_itn, PF.g_itp, PF.s_seti, PF.s_seti1, PF.s_seti2, PF.s_seti3, PF.s_seti4, PF.s_swp, PF.s_swp1, PF.s_swp2, PF.s_swp3, PF.s_sub, PF.s_sub1, PF.s_sub2, PF.s_sub3, PF.s_rev, PF.s_rev1, PF.s_rev2, PF.s_rev3, PF.s_isb, PF.s_isb1, PF.s_isb2, PF.s_isb3, PF.s_isb4, PF.g_catm, PF.g_catb, PF.g_cati, PF.g_cat2, PF.g_mapp, PF.g_map1, PF.g_mrev, PF.g_isib, PF.g_l0, PF.g_l1, PF.g_l2, PF.g_l3, PF.g_sm2, PF.g_sm3, PF.g_sm4, PF.g_r2, PF.g_r3, PF.g_r4, List.length_map, f22, b22, eS, e14, e15, e16, ej, ei, h4, h5, h6, h7, h8, eF, a4, s1]
          · by_cases h9 : c14 % 12 = 9
            · refine ⟨S.take 2, fun k => ?_, ⟨fun p hp => gd p (List.mem_of_mem_take hp), by rw [List.length_take]; omega⟩, by rw [List.length_take]; omega⟩
              rw [call_f (f := f22) rfl (k + 6) _ rfl]
              simp -implicitDefEqProofs (maxSteps := 400000) (disch := (first | with_reducible assumption | (with_reducible apply PF.mulOk_of <;> (repeat' (first | with_reducible assumption | with_reducible (apply PyProof.Rows.bits_add) | with_reducible (apply PyProof.Rows.bits_sub) | with_reducible (apply PyProof.Rows.bits_mul) | with_reducible (apply PyProof.Rows.bits_neg) | with_reducible (apply PF.bits_div (by first | omega | decide +kernel)) | with_reducible (apply PF.bits_mod (by first | omega | decide +kernel)) | (with_reducible show _ + _ ≤ 134217728; decide +kernel) | exact Nat.le_refl _))) | ((with_reducible apply PF.lt_len); with_unfolding_all rfl) | omega | decide +kernel)) only [PF.opI_mul, PF.opI_mod, PF.opI_fdiv, PF.ixT0, PF.ixT1, PF.cmp_eq, PF.cmp_ne, PF.cmp_lt, PF.cmp_le, PF.cmp_gt, PF.cmp_ge, PF.cmp_t2, PF.cmp_n2, PF.cmp_tt2, PF.cmp_nt2, PF.isInsT, PF.q_lo, PF.q_s1, PF.q_s2, PF.q_non, PF.q_bl, PF.q_int, PF.q_str, PF.q_gl, PF.q_bin, PF.q_bin1, PF.q_bin2, PF.q_kI, PF.q_kB, PF.q_kIm, PF.q_kFz, PF.q_neg, PF.q_neg1, PF.q_not, PF.q_not1, PF.q_cmp, PF.q_cmp1, PF.q_cmp2, PF.q_isN, PF.q_isN1, PF.q_and, PF.q_and1, PF.q_and2, PF.q_or, PF.q_or1, PF.q_or2, PF.q_ite, PF.q_ite1, PF.q_ite2, PF.q_tup, PF.q_tup1, PF.q_tup2, PF.q_lst, PF.q_lst1, PF.q_lst2, PF.q_ix, PF.q_ix1, PF.q_ix2, PF.q_call, PF.q_call1, PF.q_meth, PF.q_meth1, PF.q_meth2, PF.q_meth3, PF.q_fld, PF.q_fld1, PF.q_blt, PF.q_blt1, PF.q_isi, PF.q_isi0, PF.q_vs0, PF.q_vs1, PF.q_vs2, PF.q_vs3, PF.q_vb0, PF.q_vb1, PF.q_vb2, PF.q_vb3, PF.q_itE, PF.q_itE1, PF.q_it1, PF.q_it2, PF.q_it3, PF.q_asg, PF.q_asg0, PF.q_nx, PF.q_par, PF.q_par1, PF.q_ret, PF.q_ret1, PF.q_retN, PF.q_iff, PF.q_iff1, PF.q_iff2, PF.q_for, PF.q_for1, PF.q_fg0, PF.q_fg1, PF.q_fb, PF.q_f1, PF.q_f2, PF.q_rse, PF.q_es0, PF.q_es1, PF.q_cn, PF.q_cr, PF.q_rk1, PF.q_rk2, PF.q_see1, PF.q_see2, PF.q_see3, PF.q_fz1, PF.q_fz2, PF.q_out1, PF.q_out2, PF.q_out3, PF.q_op, PF.q_add, PF.q_sub, PF.q_isi1, PF.q_isi2, PF.q_isi3, PF.q_isi4, PF.q_isi5, PF.q_asg1, PF.q_asg2, PF.q_put1, PF.q_put2, PF.q_bnm, PF.q_bt0, PF.q_bt1, PF.q_bt2, PF.q_tg1, PF.q_tg2, PF.q_its1, PF.q_its2, PF.q_len1, PF.q_len2, PF.q_bint, PF.q_fld0, PF.q_ctx, PF.q_cgl, PF.q_cwf, PF.q_size, List.map_cons, List.map_nil, Nat.reduceSub, Nat.sub_self, List.replicate, List.append_nil, List.cons_append, List.nil_append, List.length_cons, List.length_nil, List.getElem?_cons_zero, List.getElem?_cons_succ, List.set_cons_zero, List.set_cons_succ, Nat.reduceAdd, Nat.reduceLT, Nat.reduceLeDiff, Int.cast_ofNat_Int, Int.reduceEq, Int.reduceLT, Int.reduceLE, decide_true, decide_false, if_true, Bool.false_eq_true, if_false, Bool.not_true, Bool.not_false, Bool.and_true, Bool.true_and, Bool.or_true, Bool.or_false, Bool.and_self, ite_true, ite_false, PF.g_nu, PF.g_pt, PF.g_n0, PF.g_n1, PF.g_p0, PF.g_p1, PF.g_pi, PF.g_pa, PF.g_pb, PF.g_fi, PF.g_ff, PF.g_ce, PF.g_cn, PF.g_pe, PF.g_pn, PF.s_lc, PF.s_lc1, PF.s_lc2, PF.s_lc3, PF.s_fI, PF.s_fI1, PF.s_fI2, PF.s_fI3, PF.s_fI4, PF.s_ec0, PF.s_ec1, PF.s_ec2, PF.s_ec3, PF.s_lg0, PF.s_lg1, PF.s_lg2, PF.s_lg3, PF.s_lg4, PF.s_w0, PF.s_w1, PF.s_fre, PF.s_fre1, PF.s_fre2, PF.s_fre3, PF.s_app, PF.s_app1, PF.s_app2, PF.s_app3, PF.s_pop, PF.s_pop1, PF.s_pop2, PF.s_whl, PF.s_wh1, PF.s_wh2, PF.s_wh3, PF.s_wh4, PF.s_nn, PF.s_nn1, PF.s_nnp, PF.s_nnn, PF.s_tol, PF.s_tol2, PF.s_tol3, PF.s_tup, PF.s_tup2, PF.s_len, PF.s_len2, PF.s_all, PF.at_pt, PF.at_pv, PF.g_s0, PF.g_s1, PF.g_sa, PF.s_sl, PF.s_sl1, PF.s_sl2, PF.s_sl3, PF.s_sl4, PF.s_sl5, PF.s_bn0, PF.s_bn1, PF.s_bn2, PF.s_bn3, PF.g_itn, PF.g_itp, PF.s_seti, PF.s_seti1, PF.s_seti2, PF.s_seti3, PF.s_seti4, PF.s_swp, PF.s_swp1, PF.s_swp2, PF.s_swp3, PF.s_sub, PF.s_sub1, PF.s_sub2, PF.s_sub3, PF.s_rev, PF.s_rev1, PF.s_rev2, PF.s_rev3, PF.s_isb, PF.s_isb1, PF.s_isb2, PF.s_isb3, PF.s_isb4, PF.g_catm, PF.g_catb, PF.g_cati, PF.g_cat2, PF.g_mapp, PF.g_map1, PF.g_mrev, PF.g_isib, PF.g_l0, PF.g_l1, PF.g_l2, PF.g_l3, PF.g_sm2, PF.g_sm3, PF.g_sm4, PF.g_r2, PF.g_r3, PF.g_r4, List.length_map, f22, b22, eS, e14, e15, e16, ej, ei, h4, h5, h6, h7, h8, h9, c2]
            · by_cases h10 : c14 % 12 = 10
              · have z : PF.sizeOk (S.length + S.length) = true := decide_eq_true (by omega)
                refine ⟨S ++ S, fun k => ?_, ⟨fun p hp => gd p (by rcases List.mem_append.mp hp with h | h <;> exact h), by rw [List.length_append]; omega⟩, by rw [List.length_append]; omega⟩
                rw [call_f (f := f22) rfl (k + 6) _ rfl]
                simp -implicitDefEqProofs (maxSteps := 400000) (disch := (first | with_reducible assumption | (with_reducible apply PF.mulOk_of <;> (repeat' (first | with_reducible assumption | with_reducible (apply PyProof.Rows.bits_add) | with_reducible (apply PyProof.Rows.bits_sub) | with_reducible (apply PyProof.Rows.bits_mul) | with_reducible (apply PyProof.Rows.bits_neg) | with_reducible (apply PF.bits_div (by first | omega | decide +kernel)) | with_reducible (apply PF.bits_mod (by first | omega | decide +kernel)) | (with_reducible show _ + _ ≤ 134217728; decide +kernel) | exact Nat.le_refl _))) | ((with_reducible apply PF.lt_len); with_unfolding_all rfl) | omega | decide +kernel)) only [PF.opI_mul, PF.opI_mod, PF.opI_fdiv, PF.ixT0, PF.ixT1, PF.cmp_eq, PF.cmp_ne, PF.cmp_lt, PF.cmp_le, PF.cmp_gt, PF.cmp_ge, PF.cmp_t2, PF.cmp_n2, PF.cmp_tt2, PF.cmp_nt2, PF.isInsT, PF.q_lo, PF.q_s1, PF.q_s2, PF.q_non, PF.q_bl, PF.q_int, PF.q_str, PF.q_gl, PF.q_bin, PF.q_bin1, PF.q_bin2, PF.q_kI, PF.q_kB, PF.q_kIm, PF.q_kFz, PF.q_neg, PF.q_neg1, PF.q_not, PF.q_not1, PF.q_cmp, PF.q_cmp1, PF.q_cmp2, PF.q_isN, PF.q_isN1, PF.q_and, PF.q_and1, PF.q_and2, PF.q_or, PF.q_or1, PF.q_or2, PF.q_ite, PF.q_ite1, PF.q_ite2, PF.q_tup, PF.q_tup1, PF.q_tup2, PF.q_lst, PF.q_lst1, PF.q_lst2, PF.q_ix, PF.q_ix1, PF.q_ix2, PF.q_call, PF.q_call1, PF.q_meth, PF.q_meth1, PF.q_meth2, PF.q_meth3, PF.q_fld, PF.q_fld1, PF.q_blt, PF.q_blt1, PF.q_isi, PF.q_isi0, PF.q_vs0, PF.q_vs1, PF.q_vs2, PF.q_vs3, PF.q_vb0, PF.q_vb1, PF.q_vb2, PF.q_vb3, PF.q_itE, PF.q_itE1, PF.q_it1, PF.q_it2, PF.q_it3, PF.q_asg, PF.q_asg0, PF.q_nx, PF.q_par, PF.q_par1, PF.q_ret, PF.q_ret1, PF.q_retN, PF.q_iff, PF.q_iff1, PF.q_iff2, PF.q_for, PF.q_for1, PF.q_fg0, PF.q_fg1, PF.q_fb, PF.q_f1, PF.q_f2, PF.q_rse, PF.q_es0, PF.q_es1, PF.q_cn, PF.q_cr, PF.q_rk1, PF.q_rk2, PF.q_see1, PF.q_see2, PF.q_see3, PF.q_fz1, PF.q_fz2, PF.q_out1, PF.q_out2, PF.q_out3, PF.q_op, PF.q_add, PF.q_sub, PF.q_isi1, PF.q_isi2, PF.q_isi3, PF.q_isi4, PF.q_isi5, PF.q_asg1, PF.q_asg2, PF.q_put1, PF.q_put2, PF.q_bnm, PF.q_bt0, PF.q_bt1, PF.q_bt2, PF.q_tg1, PF.q_tg2, PF.q_its1, PF.q_its2, PF.q_len1, PF.q_len2, PF.q_bint, PF.q_fld0, PF.q_ctx, PF.q_cgl, PF.q_cwf, PF.q_size, List.map_cons, List.map_nil, Nat.reduceSub, Nat.sub_self, List.replicate, List.append_nil, List.cons_append, List.nil_append, List.length_cons, List.length_nil, List.getElem?_cons_zero, List.getElem?_cons_succ, List.set_cons_zero, List.set_cons_succ, Nat.reduceAdd, Nat.reduceLT, Nat.reduceLeDiff, Int.cast_ofNat_Int, Int.reduceEq, Int.reduceLT, Int.reduceLE, decide_true, decide_false, if_true, Bool.false_eq_true, if_false, Bool.not_true, Bool.not_false, Bool.and_true, Bool.true_and, Bool.or_true, Bool.or_false, Bool.and_self, ite_true, ite_false, PF.g_nu, PF.g_pt, PF.g_n0, PF.g_n1, PF.g_p0, PF.g_p1, PF.g_pi, PF.g_pa, PF.g_pb, PF.g_fi, PF.g_ff, PF.g_ce, PF.g_cn, PF.g_pe, PF.g_pn, PF.s_lc, PF.s_lc1, PF.s_lc2, PF.s_lc3, PF.s_fI, PF.s_fI1, PF.s_fI2, PF.s_fI3, PF.s_fI4, PF.s_ec0, PF.s_ec1, PF.s_ec2, PF.s_ec3, PF.s_lg0, PF.s_lg1, PF.s_lg2, PF.s_lg3, PF.s_lg4, PF.s_w0, PF.s_w1, PF.s_fre, PF.s_fre1, PF.s_fre2, PF.s_fre3, PF.s_app, PF.s_app1, PF.s_app2, PF.s_app3, PF.s_pop, PF.s_pop1, PF.s_pop2, PF.s_whl, PF.s_wh1, PF.s_wh2, PF.s_wh3, PF.s_wh4, PF.s_nn, PF.s_nn1, PF.s_nnp, PF.s_nnn, PF.s_tol, PF.s_tol2, PF.s_tol3, PF.s_tup, PF.s_tup2, PF.s_len, PF.s_len2, PF.s_all, PF.at_pt, PF.at_pv, PF.g_s0, PF.g_s1, PF.g_sa, PF.s_sl, PF.s_sl1, PF.s_sl2, PF.s_sl3, PF.s_sl4, PF.s_sl5, PF.s_bn0, PF.s_bn1, PF.s_bn2, PF.s_bn3, PF.g_itn, PF.g_itp, PF.s_seti, PF.s_seti1, PF.s_seti2, PF.s_seti3, PF.s_seti4, PF.s_swp, PF.s_swp1, PF.s_swp2, PF.s_swp3, PF.s_sub, PF.s_sub1, PF.s_sub2, PF.s_sub3, PF.s_rev, PF.s_rev1, PF.s_rev2, PF.s_rev3, PF.s_isb, PF.s_isb1, PF.s_isb2, PF.s_isb3, PF.s_isb4, PF.g_catm, PF.g_catb, PF.g_cati, PF.g_cat2, PF.g_mapp, PF.g_map1, PF.g_mrev, PF.g_isib, PF.g_l0, PF.g_l1, PF.g_l2, PF.g_l3, PF.g_sm2, PF.g_sm3, PF.g_sm4, PF.g_r2, PF.g_r3, PF.g_r4, List.length_map, f22, b22, eS, e14, e15, e16, ej, ei, h4, h5, h6, h7, h8, h9, h10, z]
              · by_cases h11 : c14 % 12 = 11
                · refine ⟨F, fun k => ?_, ⟨gF, by omega⟩, by omega⟩
                  rw [call_f (f := f22) rfl (k + 6) _ rfl]
                  simp -implicitDefEqProofs (maxSteps := 400000) (disch := (first | with_reducible assumption | (with_reducible apply PF.mulOk_of <;> (repeat' (first | with_reducible assumption | with_reducible (apply PyProof.Rows.bits_add) | with_reducible (apply PyProof.Rows.bits_sub) | with_reducible (apply PyProof.Rows.bits_mul) | with_reducible (apply PyProof.Rows.bits_neg) | with_reducible (apply PF.bits_div (by first | omega | decide +kernel)) | with_reducible (apply PF.bits_mod (by first | omega | decide +kernel)) | (with_reducible show _ + _ ≤ 134217728; decide +kernel) | exact Nat.le_refl _))) | ((with_reducible apply PF.lt_len); with_unfolding_all rfl) | omega | decide +kernel)) only [PF.opI_mul, PF.opI_mod, PF.opI_fdiv, PF.ixT0, PF.ixT1, PF.cmp_eq, PF.cmp_ne, PF.cmp_lt, PF.cmp_le, PF.cmp_gt, PF.cmp_ge, PF.cmp_t2, PF.cmp_n2, PF.cmp_tt2, PF.cmp_nt2, PF.isInsT, PF.q_lo, PF.q_s1, PF.q_s2, PF.q_non, PF.q_bl, PF.q_int, PF.q_str, PF.q_gl, PF.q_bin, PF.q_bin1, PF.q_bin2, PF.q_kI, PF.q_kB, PF.q_kIm, PF.q_kFz, PF.q_neg, PF.q_neg1, PF.q_not, PF.q_not1, PF.q_cmp, PF.q_cmp1, PF.q_cmp2, PF.q_isN, PF.q_isN1, PF.q_and, PF.q_and1, PF.q_and2, PF.q_or, PF.q_or1, PF.q_or2, PF.q_ite, PF.q_ite1, PF.q_ite2, PF.q_tup, PF.q_tup1, PF.q_tup2, PF.q_lst, PF.q_lst1, PF.q_lst2, PF.q_ix, PF.q_ix1, PF.q_ix2, PF.q_call, PF.q_call1, PF.q_meth, PF.q_meth1, PF.q_meth2, PF.q_meth3, PF.q_fld, PF.q_fld1, PF.q_blt, PF.q_blt1, PF.q_isi, PF.q_isi0, PF.q_vs0, PF.q_vs1, PF.q_vs2, PF.q_vs3, PF.q_vb0, PF.q_vb1, PF.q_vb2, PF.q_vb3, PF.q_itE, PF.q_itE1, PF.q_it1, PF.q_it2, PF.q_it3, PF.q_asg, PF.q_asg0, PF.q_nx, PF.q_par, PF.q_par1, PF.q_ret, PF.q_ret1, PF.q_retN, PF.q_iff, PF.q_iff1, PF.q_iff2, PF.q_for, PF.q_for1, PF.q_fg0, PF.q_fg1, PF.q_fb, PF.q_f1, PF.q_f2, PF.q_rse, PF.q_es0, PF.q_es1, PF.q_cn, PF.q_cr, PF.q_rk1, PF.q_rk2, PF.q_see1, PF.q_see2, PF.q_see3, PF.q_fz1, PF.q_fz2, PF.q_out1, PF.q_out2, PF.q_out3, PF.q_op, PF.q_add, PF.q_sub, PF.q_isi1, PF.q_isi2, PF.q_isi3, PF.q_isi4, PF.q_isi5, PF.q_asg1, PF.q_asg2, PF.q_put1, PF.q_put2, PF.q_bnm, PF.q_bt0, PF.q_bt1, PF.q_bt2, PF.q_tg1, PF.q_tg2, PF.q_its1, PF.q_its2, PF.q_len1, PF.q_len2, PF.q_bint, PF.q_fld0, PF.q_ctx, PF.q_cgl, PF.q_cwf, PF.q_size, List.map_cons, List.map_nil, Nat.reduceSub, Nat.sub_self, List.replicate, List.append_nil, List.cons_append, List.nil_append, List.length_cons, List.length_nil, List.getElem?_cons_zero, List.getElem?_cons_succ, List.set_cons_zero, List.set_cons_succ, Nat.reduceAdd, Nat.reduceLT, Nat.reduceLeDiff, Int.cast_ofNat_Int, Int.reduceEq, Int.reduceLT, Int.reduceLE, decide_true, decide_false, if_true, Bool.false_eq_true, if_false, Bool.not_true, Bool.not_false, Bool.and_true, Bool.true_and, Bool.or_true, Bool.or_false, Bool.and_self, ite_true, ite_false, PF.g_nu, PF.g_pt, PF.g_n0, PF.g_n1, PF.g_p0, PF.g_p1, PF.g_pi, PF.g_pa, PF.g_pb, PF.g_fi, PF.g_ff, PF.g_ce, PF.g_cn, PF.g_pe, PF.g_pn, PF.s_lc, PF.s_lc1, PF.s_lc2, PF.s_lc3, PF.s_fI, PF.s_fI1, PF.s_fI2, PF.s_fI3, PF.s_fI4, PF.s_ec0, PF.s_ec1, PF.s_ec2, PF.s_ec3, PF.s_lg0, PF.s_lg1, PF.s_lg2, PF.s_lg3, PF.s_lg4, PF.s_w0, PF.s_w1, PF.s_fre, PF.s_fre1, PF.s_fre2, PF.s_fre3, PF.s_app, PF.s_app1, PF.s_app2, PF.s_app3, PF.s_pop, PF.s_pop1, PF.s_pop2, PF.s_whl, PF.s_wh1, PF.s_wh2, PF.s_wh3, PF.s_wh4, PF.s_nn, PF.s_nn1, PF.s_nnp, PF.s_nnn, PF.s_tol, PF.s_tol2, PF.s_tol3, PF.s_tup, PF.s_tup2, PF.s_len, PF.s_len2, PF.s_all, PF.at_pt, PF.at_pv, PF.g_s0, PF.g_s1, PF.g_sa, PF.s_sl, PF.s_sl1, PF.s_sl2, PF.s_sl3, PF.s_sl4, PF.s_sl5, PF.s_bn0, PF.s_bn1, PF.s_bn2, PF.s_bn3, PF.g_itn, PF.g_itp, PF.s_seti, PF.s_seti1, PF.s_seti2, PF.s_seti3, PF.s_seti4, PF.s_swp, PF.s_swp1, PF.s_swp2, PF.s_swp3, PF.s_sub, PF.s_sub1, PF.s_sub2, PF.s_sub3, PF.s_rev, PF.s_rev1, PF.s_rev2, PF.s_rev3, PF.s_isb, PF.s_isb1, PF.s_isb2, PF.s_isb3, PF.s_isb4, PF.g_catm, PF.g_catb, PF.g_cati, PF.g_cat2, PF.g_mapp, PF.g_map1, PF.g_mrev, PF.g_isib, PF.g_l0, PF.g_l1, PF.g_l2, PF.g_l3, PF.g_sm2, PF.g_sm3, PF.g_sm4, PF.g_r2, PF.g_r3, PF.g_r4, List.length_map, f22, b22, eS, e14, e15, e16, ej, ei, h4, h5, h6, h7, h8, h9, h10, h11, eF]
                · refine ⟨S, fun k => ?_, ⟨gd, by omega⟩, by omega⟩
                  rw [call_f (f := f22) rfl (k + 6) _ rfl]
                  simp -implicitDefEqProofs (maxSteps := 400000) (disch := (first | with_reducible assumption | (with_reducible apply PF.mulOk_of <;> (repeat' (first | with_reducible assumption | with_reducible (apply PyProof.Rows.bits_add) | with_reducible (apply PyProof.Rows.bits_sub) | with_reducible (apply PyProof.Rows.bits_mul) | with_reducible (apply PyProof.Rows.bits_neg) | with_reducible (apply PF.bits_div (by first | omega | decide +kernel)) | with_reducible (apply PF.bits_mod (by first | omega | decide +kernel)) | (with_reducible show _ + _ ≤ 134217728; decide +kernel) | exact Nat.le_refl _))) | ((with_reducible apply PF.lt_len); with_unfolding_all rfl) | omega | decide +kernel)) only [PF.opI_mul, PF.opI_mod, PF.opI_fdiv, PF.ixT0, PF.ixT1, PF.cmp_eq, PF.cmp_ne, PF.cmp_lt, PF.cmp_le, PF.cmp_gt, PF.cmp_ge, PF.cmp_t2, PF.cmp_n2, PF.cmp_tt2, PF.cmp_nt2, PF.isInsT, PF.q_lo, PF.q_s1, PF.q_s2, PF.q_non, PF.q_bl, PF.q_int, PF.q_str, PF.q_gl, PF.q_bin, PF.q_bin1, PF.q_bin2, PF.q_kI, PF.q_kB, PF.q_kIm, PF.q_kFz, PF.q_neg, PF.q_neg1, PF.q_not, PF.q_not1, PF.q_cmp, PF.q_cmp1, PF.q_cmp2, PF.q_isN, PF.q_isN1, PF.q_and, PF.q_and1, PF.q_and2, PF.q_or, PF.q_or1, PF.q_or2, PF.q_ite, PF.q_ite1, PF.q_ite2, PF.q_tup, PF.q_tup1, PF.q_tup2, PF.q_lst, PF.q_lst1, PF.q_lst2, PF.q_ix, PF.q_ix1, PF.q_ix2, PF.q_call, PF.q_call1, PF.q_meth, PF.q_meth1, PF.q_meth2, PF.q_meth3, PF.q_fld, PF.q_fld1, PF.q_blt, PF.q_blt1, PF.q_isi, PF.q_isi0, PF.q_vs0, PF.q_vs1, PF.q_vs2, PF.q_vs3, PF.q_vb0, PF.q_vb1, PF.q_vb2, PF.q_vb3, PF.q_itE, PF.q_itE1, PF.q_it1, PF.q_it2, PF.q_it3, PF.q_asg, PF.q_asg0, PF.q_nx, PF.q_par, PF.q_par1, PF.q_ret, PF.q_ret1, PF.q_retN, PF.q_iff, PF.q_iff1, PF.q_iff2, PF.q_for, PF.q_for1, PF.q_fg0, PF.q_fg1, PF.q_fb, PF.q_f1, PF.q_f2, PF.q_rse, PF.q_es0, PF.q_es1, PF.q_cn, PF.q_cr, PF.q_rk1, PF.q_rk2, PF.q_see1, PF.q_see2, PF.q_see3, PF.q_fz1, PF.q_fz2, PF.q_out1, PF.q_out2, PF.q_out3, PF.q_op, PF.q_add, PF.q_sub, PF.q_isi1, PF.q_isi2, PF.q_isi3, PF.q_isi4, PF.q_isi5, PF.q_asg1, PF.q_asg2, PF.q_put1, PF.q_put2, PF.q_bnm, PF.q_bt0, PF.q_bt1, PF.q_bt2, PF.q_tg1, PF.q_tg2, PF.q_its1, PF.q_its2, PF.q_len1, PF.q_len2, PF.q_bint, PF.q_fld0, PF.q_ctx, PF.q_cgl, PF.q_cwf, PF.q_size, List.map_cons, List.map_nil, Nat.reduceSub, Nat.sub_self, List.replicate, List.append_nil, List.cons_append, List.nil_append, List.length_cons, List.length_nil, List.getElem?_cons_zero, List.getElem?_cons_succ, List.set_cons_zero, List.set_cons_succ, Nat.reduceAdd, Nat.reduceLT, Nat.reduceLeDiff, Int.cast_ofNat_Int, Int.reduceEq, Int.reduceLT, Int.reduceLE, decide_true, decide_false, if_true, Bool.false_eq_true, if_false, Bool.not_true, Bool.not_false, Bool.and_true, Bool.true_and, Bool.or_true, Bool.or_false, Bool.and_self, ite_true, ite_false, PF.g_nu, PF.g_pt, PF.g_n0, PF.g_n1, PF.g_p0, PF.g_p1, PF.g_pi, PF.g_pa, PF.g_pb, PF.g_fi, PF.g_ff, PF.g_ce, PF.g_cn, PF.g_pe, PF.g_pn, PF.s_lc, PF.s_lc1, PF.s_lc2, PF.s_lc3, PF.s_fI, PF.s_fI1, PF.s_fI2, PF.s_fI3, PF.s_fI4, PF.s_ec0, PF.s_ec1, PF.s_ec2, PF.s_ec3, PF.s_lg0, PF.s_lg1, PF.s_lg2, PF.s_lg3, PF.s_lg4, PF.s_w0, PF.s_w1, PF.s_fre, PF.s_fre1, PF.s_fre2, PF.s_fre3, PF.s_app, PF.s_app1, PF.s_app2, PF.s_app3, PF.s_pop, PF.s_pop1, PF.s_pop2, PF.s_whl, PF.s_wh1, PF.s_wh2, PF.s_wh3, PF.s_wh4, PF.s_nn, PF.s_nn1, PF.s_nnp, PF.s_nnn, PF.s_tol, PF.s_tol2, PF.s_tol3, PF.s_tup, PF.s_tup2, PF.s_len, PF.s_len2, PF.s_all, PF.at_pt, PF.at_pv, PF.g_s0, PF.g_s1, PF.g_sa, PF.s_sl, PF.s_sl1, PF.s_sl2, PF.s_sl3, PF.s_sl4, PF.s_sl5, PF.s_bn0, PF.s_bn1, PF.s_bn2, PF.s_bn3, PF.g_itn, PF.g_itp, PF.s_seti, PF.s_seti1, PF.s_seti2, PF.s_seti3, PF.s_seti4, PF.s_swp, PF.s_swp1, PF.s_swp2, PF.s_swp3, PF.s_sub, PF.s_sub1, PF.s_sub2, PF.s_sub3, PF.s_rev, PF.s_rev1, PF.s_rev2, PF.s_rev3, PF.s_isb, PF.s_isb1, PF.s_isb2, PF.s_isb3, PF.s_isb4, PF.g_catm, PF.g_catb, PF.g_cati, PF.g_cat2, PF.g_mapp, PF.g_map1, PF.g_mrev, PF.g_isib, PF.g_l0, PF.g_l1, PF.g_l2, PF.g_l3, PF.g_sm2, PF.g_sm3, PF.g_sm4, PF.g_r2, PF.g_r3, PF.g_r4, List.length_map, f22, b22, eS, e14, e15, e16, ej, ei, h4, h5, h6, h7, h8, h9, h10, h11]
theorem ldue {k : Nat} {m : Int} (hm : Sz m) {S : List Pt} (h : OkS m S) : callK Q (k + 3) 23 [.int m, .lst (S.map pt)] = .ok (.im (.bl (isS m S))) := by
  rw [call_f (f := f23) rfl (k + 2) _ rfl]
  by_cases h3 : (3 : Int) ≤ S.length
  · by_cases h6 : (S.length : Int) ≤ 6
    · have hs : smallI (S.length : Int) = true := g_sm _ (by omega)
      have hl0 : (0 : Int) < S.length := by omega
      simp -implicitDefEqProofs (maxSteps := 400000) (disch := (first | with_reducible assumption | (with_reducible apply PF.mulOk_of <;> (repeat' (first | with_reducible assumption | with_reducible (apply PyProof.Rows.bits_add) | with_reducible (apply PyProof.Rows.bits_sub) | with_reducible (apply PyProof.Rows.bits_mul) | with_reducible (apply PyProof.Rows.bits_neg) | with_reducible (apply PF.bits_div (by first | omega | decide +kernel)) | with_reducible (apply PF.bits_mod (by first | omega | decide +kernel)) | (with_reducible show _ + _ ≤ 134217728; decide +kernel) | exact Nat.le_refl _))) | ((with_reducible apply PF.lt_len); with_unfolding_all rfl) | omega | decide +kernel)) only [PF.opI_mul, PF.opI_mod, PF.opI_fdiv, PF.ixT0, PF.ixT1, PF.cmp_eq, PF.cmp_ne, PF.cmp_lt, PF.cmp_le, PF.cmp_gt, PF.cmp_ge, PF.cmp_t2, PF.cmp_n2, PF.cmp_tt2, PF.cmp_nt2, PF.isInsT, PF.q_lo, PF.q_s1, PF.q_s2, PF.q_non, PF.q_bl, PF.q_int, PF.q_str, PF.q_gl, PF.q_bin, PF.q_bin1, PF.q_bin2, PF.q_kI, PF.q_kB, PF.q_kIm, PF.q_kFz, PF.q_neg, PF.q_neg1, PF.q_not, PF.q_not1, PF.q_cmp, PF.q_cmp1, PF.q_cmp2, PF.q_isN, PF.q_isN1, PF.q_and, PF.q_and1, PF.q_and2, PF.q_or, PF.q_or1, PF.q_or2, PF.q_ite, PF.q_ite1, PF.q_ite2, PF.q_tup, PF.q_tup1, PF.q_tup2, PF.q_lst, PF.q_lst1, PF.q_lst2, PF.q_ix, PF.q_ix1, PF.q_ix2, PF.q_call, PF.q_call1, PF.q_meth, PF.q_meth1, PF.q_meth2, PF.q_meth3, PF.q_fld, PF.q_fld1, PF.q_blt, PF.q_blt1, PF.q_isi, PF.q_isi0, PF.q_vs0, PF.q_vs1, PF.q_vs2, PF.q_vs3, PF.q_vb0, PF.q_vb1, PF.q_vb2, PF.q_vb3, PF.q_itE, PF.q_itE1, PF.q_it1, PF.q_it2, PF.q_it3, PF.q_asg, PF.q_asg0, PF.q_nx, PF.q_par, PF.q_par1, PF.q_ret, PF.q_ret1, PF.q_retN, PF.q_iff, PF.q_iff1, PF.q_iff2, PF.q_for, PF.q_for1, PF.q_fg0, PF.q_fg1, PF.q_fb, PF.q_f1, PF.q_f2, PF.q_rse, PF.q_es0, PF.q_es1, PF.q_cn, PF.q_cr, PF.q_rk1, PF.q_rk2, PF.q_see1, PF.q_see2, PF.q_see3, PF.q_fz1, PF.q_fz2, PF.q_out1, PF.q_out2, PF.q_out3, PF.q_op, PF.q_add, PF.q_sub, PF.q_isi1, PF.q_isi2, PF.q_isi3, PF.q_isi4, PF.q_isi5, PF.q_asg1, PF.q_asg2, PF.q_put1, PF.q_put2, PF.q_bnm, PF.q_bt0, PF.q_bt1, PF.q_bt2, PF.q_tg1, PF.q_tg2, PF.q_its1, PF.q_its2, PF.q_len1, PF.q_len2, PF.q_bint, PF.q_fld0, PF.q_ctx, PF.q_cgl, PF.q_cwf, PF.q_size, List.map_cons, List.map_nil, Nat.reduceSub, Nat.sub_self, List.replicate, List.append_nil, List.cons_append, List.nil_append, List.length_cons, List.length_nil, List.getElem?_cons_zero, List.getElem?_cons_succ, List.set_cons_zero, List.set_cons_succ, Nat.reduceAdd, Nat.reduceLT, Nat.reduceLeDiff, Int.cast_ofNat_Int, Int.reduceEq, Int.reduceLT, Int.reduceLE, decide_true, decide_false, if_true, Bool.false_eq_true, if_false, Bool.not_true, Bool.not_false, Bool.and_true, Bool.true_and, Bool.or_true, Bool.or_false, Bool.and_self, ite_true, ite_false, PF.g_nu, PF.g_pt, PF.g_n0, PF.g_n1, PF.g_p0, PF.g_p1, PF.g_pi, PF.g_pa, PF.g_pb, PF.g_fi, PF.g_ff, PF.g_ce, PF.g_cn, PF.g_pe, PF.g_pn, PF.s_lc, PF.s_lc1, PF.s_lc2, PF.s_lc3, PF.s_fI, PF.s_fI1, PF.s_fI2, PF.s_fI3, PF.s_fI4, PF.s_ec0, PF.s_ec1, PF.s_ec2, PF.s_ec3, PF.s_lg0, PF.s_lg1, PF.s_lg2, PF.s_lg3, PF.s_lg4, PF.s_w0, PF.s_w1, PF.s_fre, PF.s_fre1, PF.s_fre2, PF.s_fre3, PF.s_app, PF.s_app1, PF.s_app2, PF.s_app3, PF.s_pop, PF.s_pop1, PF.s_pop2, PF.s_whl, PF.s_wh1, PF.s_wh2, PF.s_wh3, PF.s_wh4, PF.s_nn, PF.s_nn1, PF.s_nnp, PF.s_nnn, PF.s_tol, PF.s_tol2, PF.s_tol3, PF.s_tup, PF.s_tup2, PF.s_len, PF.s_len2, PF.s_all, PF.at_pt, PF.at_pv, PF.g_s0, PF.g_s1, PF.g_sa, PF.s_sl, PF.s_sl1, PF.s_sl2, PF.s_sl3, PF.s_sl4, PF.s_sl5, PF.s_bn0, PF.s_bn1, PF.s_bn2, PF.s_bn3, PF.g_itn, PF.g_itp, PF.s_seti, PF.s_seti1, PF.s_seti2, PF.s_seti3, PF.s_seti4, PF.s_swp, PF.s_swp1, PF.s_swp2, PF.s_swp3, PF.s_sub, PF.s_sub1, PF.s_sub2, PF.s_sub3, PF.s_rev, PF.s_rev1, PF.s_rev2, PF.s_rev3, PF.s_isb, PF.s_isb1, PF.s_isb2, PF.s_isb3, PF.s_isb4, PF.g_catm, PF.g_catb, PF.g_cati, PF.g_cat2, PF.g_mapp, PF.g_map1, PF.g_mrev, PF.g_isib, PF.g_l0, PF.g_l1, PF.g_l2, PF.g_l3, PF.g_sm2, PF.g_sm3, PF.g_sm4, PF.g_r2, PF.g_r3, PF.g_r4, List.length_map, f23, b23, h3, h6, hs, PF.r_ch, PF.r_ch1, PF.r_ch2, PF.r_ch3, PF.r_ch4, PF.r_l0, PF.r_l1, PF.r_l2, PF.r_l3, PF.r_t2, PF.r_cat1, PF.r_cat2, PF.r_lis, PF.cmp_mv, PF.cmp_nmv]
      rw [rng_map]
      refine at_any (F := fun k : Nat => Tr.int (k : Int)) (fun k => (List.range S.length).any fun j => !(decide (j = k)) && (!(decide (j = pv S.length k)) && !decide (hd m (gt S (pv S.length k)) (gt S k) (gt S j) = 1))) (fun e => ∃ x y, e = [.im (.int m), .im (.lst (S.map pt)), x, y]) (.im (.bl false)) (fun r => kEnd (kCont (Q.ctx (k + 2)) _ r)) ?_ ⟨_, _, rfl⟩ ?_ ?_
      · rintro j hj e ⟨x, y, rfl⟩
        have hj := List.mem_range.mp hj
        have a1 := at_pt hj
        have a2 := at_pv hj
        have inner := for_any (C := Q.ctx (k + 2)) (tg := .nm 3) (b := [.iff (.and (.cmp .ne (.lo 3) (.lo 2)) (.cmp .ne (.lo 3) (.bin .mod (.bin .sub (.lo 2) (.int 1)) (.blt .len [.lo 1])))) [.iff (.cmp .ne (.call 16 [.lo 0, .ix (.lo 1) (.bin .sub (.lo 2) (.int 1)), .ix (.lo 1) (.lo 2), .ix (.lo 1) (.lo 3)]) (.int 1)) [.ret (.bl false)] []] []]) (F := fun k : Nat => Tr.int (k : Int)) (P := fun i => !(decide (i = j)) && (!(decide (i = pv S.length j)) && !decide (hd m (gt S (pv S.length j)) (gt S j) (gt S i) = 1))) (r := .im (.bl false)) (I := fun e => ∃ y, e = [.im (.int m), .im (.lst (S.map pt)), .im (.int (j : Int)), y]) (S := List.range S.length) (by
          rintro i hi e ⟨y, rfl⟩
          have hi := List.mem_range.mp hi
          have a3 := at_pt hi
          have x := lhand (k := k) hm (h.1 _ (gt_mem (pv_lt hj))) (h.1 _ (gt_mem hj)) (h.1 _ (gt_mem hi))
          have pm := pv_mod hj
          by_cases q1 : i = j
          · have q1' : decide ((i : Int) = (j : Int)) = true := decide_eq_true (by omega)
            refine ⟨fun hp => by simp [q1] at hp, fun _ => ⟨_, ?_, ⟨.im (.int (i : Int)), rfl⟩⟩⟩
            simp -implicitDefEqProofs (maxSteps := 400000) (disch := (first | with_reducible assumption | (with_reducible apply PF.mulOk_of <;> (repeat' (first | with_reducible assumption | with_reducible (apply PyProof.Rows.bits_add) | with_reducible (apply PyProof.Rows.bits_sub) | with_reducible (apply PyProof.Rows.bits_mul) | with_reducible (apply PyProof.Rows.bits_neg) | with_reducible (apply PF.bits_div (by first | omega | decide +kernel)) | with_reducible (apply PF.bits_mod (by first | omega | decide +kernel)) | (with_reducible show _ + _ ≤ 134217728; decide +kernel) | exact Nat.le_refl _))) | ((with_reducible apply PF.lt_len); with_unfolding_all rfl) | omega | decide +kernel)) only [PF.opI_mul, PF.opI_mod, PF.opI_fdiv, PF.ixT0, PF.ixT1, PF.cmp_eq, PF.cmp_ne, PF.cmp_lt, PF.cmp_le, PF.cmp_gt, PF.cmp_ge, PF.cmp_t2, PF.cmp_n2, PF.cmp_tt2, PF.cmp_nt2, PF.isInsT, PF.q_lo, PF.q_s1, PF.q_s2, PF.q_non, PF.q_bl, PF.q_int, PF.q_str, PF.q_gl, PF.q_bin, PF.q_bin1, PF.q_bin2, PF.q_kI, PF.q_kB, PF.q_kIm, PF.q_kFz, PF.q_neg, PF.q_neg1, PF.q_not, PF.q_not1, PF.q_cmp, PF.q_cmp1, PF.q_cmp2, PF.q_isN, PF.q_isN1, PF.q_and, PF.q_and1, PF.q_and2, PF.q_or, PF.q_or1, PF.q_or2, PF.q_ite, PF.q_ite1, PF.q_ite2, PF.q_tup, PF.q_tup1, PF.q_tup2, PF.q_lst, PF.q_lst1, PF.q_lst2, PF.q_ix, PF.q_ix1, PF.q_ix2, PF.q_call, PF.q_call1, PF.q_meth, PF.q_meth1, PF.q_meth2, PF.q_meth3, PF.q_fld, PF.q_fld1, PF.q_blt, PF.q_blt1, PF.q_isi, PF.q_isi0, PF.q_vs0, PF.q_vs1, PF.q_vs2, PF.q_vs3, PF.q_vb0, PF.q_vb1, PF.q_vb2, PF.q_vb3, PF.q_itE, PF.q_itE1, PF.q_it1, PF.q_it2, PF.q_it3, PF.q_asg, PF.q_asg0, PF.q_nx, PF.q_par, PF.q_par1, PF.q_ret, PF.q_ret1, PF.q_retN, PF.q_iff, PF.q_iff1, PF.q_iff2, PF.q_for, PF.q_for1, PF.q_fg0, PF.q_fg1, PF.q_fb, PF.q_f1, PF.q_f2, PF.q_rse, PF.q_es0, PF.q_es1, PF.q_cn, PF.q_cr, PF.q_rk1, PF.q_rk2, PF.q_see1, PF.q_see2, PF.q_see3, PF.q_fz1, PF.q_fz2, PF.q_out1, PF.q_out2, PF.q_out3, PF.q_op, PF.q_add, PF.q_sub, PF.q_isi1, PF.q_isi2, PF.q_isi3, PF.q_isi4, PF.q_isi5, PF.q_asg1, PF.q_asg2, PF.q_put1, PF.q_put2, PF.q_bnm, PF.q_bt0, PF.q_bt1, PF.q_bt2, PF.q_tg1, PF.q_tg2, PF.q_its1, PF.q_its2, PF.q_len1, PF.q_len2, PF.q_bint, PF.q_fld0, PF.q_ctx, PF.q_cgl, PF.q_cwf, PF.q_size, List.map_cons, List.map_nil, Nat.reduceSub, Nat.sub_self, List.replicate, List.append_nil, List.cons_append, List.nil_append, List.length_cons, List.length_nil, List.getElem?_cons_zero, List.getElem?_cons_succ, List.set_cons_zero, List.set_cons_succ, Nat.reduceAdd, Nat.reduceLT, Nat.reduceLeDiff, Int.cast_ofNat_Int, Int.reduceEq, Int.reduceLT, Int.reduceLE, decide_true, decide_false, if_true, Bool.false_eq_true, if_false, Bool.not_true, Bool.not_false, Bool.and_true, Bool.true_and, Bool.or_true, Bool.or_false, Bool.and_self, ite_true, ite_false, PF.g_nu, PF.g_pt, PF.g_n0, PF.g_n1, PF.g_p0, PF.g_p1, PF.g_pi, PF.g_pa, PF.g_pb, PF.g_fi, PF.g_ff, PF.g_ce, PF.g_cn, PF.g_pe, PF.g_pn, PF.s_lc, PF.s_lc1, PF.s_lc2, PF.s_lc3, PF.s_fI, PF.s_fI1, PF.s_fI2, PF.s_fI3, PF.s_fI4, PF.s_ec0, PF.s_ec1, PF.s_ec2, PF.s_ec3, PF.s_lg0, PF.s_lg1, PF.s_lg2, PF.s_lg3, PF.s_lg4, PF.s_w0, PF.s_w1, PF.s_fre, PF.s_fre1, PF.s_fre2, PF.s_fre3, PF.s_app, PF.s_app1, PF.s_app2, PF.s_app3, PF.s_pop, PF.s_pop1, PF.s_pop2, PF.s_whl, PF.s_wh1, PF.s_wh2, PF.s_wh3, PF.s_wh4, PF.s_nn, PF.s_nn1, PF.s_nnp, PF.s_nnn, PF.s_tol, PF.s_tol2, PF.s_tol3, PF.s_tup, PF.s_tup2, PF.s_len, PF.s_len2, PF.s_all, PF.at_pt, PF.at_pv, PF.g_s0, PF.g_s1, PF.g_sa, PF.s_sl, PF.s_sl1, PF.s_sl2, PF.s_sl3, PF.s_sl4, PF.s_sl5, PF.s_bn0, PF.s_bn1, PF.s_bn2, PF.s_bn3, PF.g_itn, PF.g_itp, PF.s_seti, PF.s_seti1, PF.s_seti2, PF.s_seti3, PF.s_seti4, PF.s_swp, PF.s_swp1, PF.s_swp2, PF.s_swp3, PF.s_sub, PF.s_sub1, PF.s_sub2, PF.s_sub3, PF.s_rev, PF.s_rev1, PF.s_rev2, PF.s_rev3, PF.s_isb, PF.s_isb1, PF.s_isb2, PF.s_isb3, PF.s_isb4, PF.g_catm, PF.g_catb, PF.g_cati, PF.g_cat2, PF.g_mapp, PF.g_map1, PF.g_mrev, PF.g_isib, PF.g_l0, PF.g_l1, PF.g_l2, PF.g_l3, PF.g_sm2, PF.g_sm3, PF.g_sm4, PF.g_r2, PF.g_r3, PF.g_r4, List.length_map, q1']
          · have q1' : ¬ (i : Int) = (j : Int) := by omega
            by_cases q2 : i = pv S.length j
            · have q2' : decide ((i : Int) = ((pv S.length j : Nat) : Int)) = true := decide_eq_true (by omega)
              refine ⟨fun hp => by simp [q2] at hp, fun _ => ⟨_, ?_, ⟨.im (.int (i : Int)), rfl⟩⟩⟩
              simp -implicitDefEqProofs (maxSteps := 400000) (disch := (first | with_reducible assumption | (with_reducible apply PF.mulOk_of <;> (repeat' (first | with_reducible assumption | with_reducible (apply PyProof.Rows.bits_add) | with_reducible (apply PyProof.Rows.bits_sub) | with_reducible (apply PyProof.Rows.bits_mul) | with_reducible (apply PyProof.Rows.bits_neg) | with_reducible (apply PF.bits_div (by first | omega | decide +kernel)) | with_reducible (apply PF.bits_mod (by first | omega | decide +kernel)) | (with_reducible show _ + _ ≤ 134217728; decide +kernel) | exact Nat.le_refl _))) | ((with_reducible apply PF.lt_len); with_unfolding_all rfl) | omega | decide +kernel)) only [PF.opI_mul, PF.opI_mod, PF.opI_fdiv, PF.ixT0, PF.ixT1, PF.cmp_eq, PF.cmp_ne, PF.cmp_lt, PF.cmp_le, PF.cmp_gt, PF.cmp_ge, PF.cmp_t2, PF.cmp_n2, PF.cmp_tt2, PF.cmp_nt2, PF.isInsT, PF.q_lo, PF.q_s1, PF.q_s2, PF.q_non, PF.q_bl, PF.q_int, PF.q_str, PF.q_gl, PF.q_bin, PF.q_bin1, PF.q_bin2, PF.q_kI, PF.q_kB, PF.q_kIm, PF.q_kFz, PF.q_neg, PF.q_neg1, PF.q_not, PF.q_not1, PF.q_cmp, PF.q_cmp1, PF.q_cmp2, PF.q_isN, PF.q_isN1, PF.q_and, PF.q_and1, PF.q_and2, PF.q_or, PF.q_or1, PF.q_or2, PF.q_ite, PF.q_ite1, PF.q_ite2, PF.q_tup, PF.q_tup1, PF.q_tup2, PF.q_lst, PF.q_lst1, PF.q_lst2, PF.q_ix, PF.q_ix1, PF.q_ix2, PF.q_call, PF.q_call1, PF.q_meth, PF.q_meth1, PF.q_meth2, PF.q_meth3, PF.q_fld, PF.q_fld1, PF.q_blt, PF.q_blt1, PF.q_isi, PF.q_isi0, PF.q_vs0, PF.q_vs1, PF.q_vs2, PF.q_vs3, PF.q_vb0, PF.q_vb1, PF.q_vb2, PF.q_vb3, PF.q_itE, PF.q_itE1, PF.q_it1, PF.q_it2, PF.q_it3, PF.q_asg, PF.q_asg0, PF.q_nx, PF.q_par, PF.q_par1, PF.q_ret, PF.q_ret1, PF.q_retN, PF.q_iff, PF.q_iff1, PF.q_iff2, PF.q_for, PF.q_for1, PF.q_fg0, PF.q_fg1, PF.q_fb, PF.q_f1, PF.q_f2, PF.q_rse, PF.q_es0, PF.q_es1, PF.q_cn, PF.q_cr, PF.q_rk1, PF.q_rk2, PF.q_see1, PF.q_see2, PF.q_see3, PF.q_fz1, PF.q_fz2, PF.q_out1, PF.q_out2, PF.q_out3, PF.q_op, PF.q_add, PF.q_sub, PF.q_isi1, PF.q_isi2, PF.q_isi3, PF.q_isi4, PF.q_isi5, PF.q_asg1, PF.q_asg2, PF.q_put1, PF.q_put2, PF.q_bnm, PF.q_bt0, PF.q_bt1, PF.q_bt2, PF.q_tg1, PF.q_tg2, PF.q_its1, PF.q_its2, PF.q_len1, PF.q_len2, PF.q_bint, PF.q_fld0, PF.q_ctx, PF.q_cgl, PF.q_cwf, PF.q_size, List.map_cons, List.map_nil, Nat.reduceSub, Nat.sub_self, List.replicate, List.append_nil, List.cons_append, List.nil_append, List.length_cons, List.length_nil, List.getElem?_cons_zero, List.getElem?_cons_succ, List.set_cons_zero, List.set_cons_succ, Nat.reduceAdd, Nat.reduceLT, Nat.reduceLeDiff, Int.cast_ofNat_Int, Int.reduceEq, Int.reduceLT, Int.reduceLE, decide_true, decide_false, if_true, Bool.false_eq_true, if_false, Bool.not_true, Bool.not_false, Bool.and_true, Bool.true_and, Bool.or_true, Bool.or_false, Bool.and_self, ite_true, ite_false, PF.g_nu, PF.g_pt, PF.g_n0, PF.g_n1, PF.g_p0, PF.g_p1, PF.g_pi, PF.g_pa, PF.g_pb, PF.g_fi, PF.g_ff, PF.g_ce, PF.g_cn, PF.g_pe, PF.g_pn, PF.s_lc, PF.s_lc1, PF.s_lc2, PF.s_lc3, PF.s_fI, PF.s_fI1, PF.s_fI2, PF.s_fI3, PF.s_fI4, PF.s_ec0, PF.s_ec1, PF.s_ec2, PF.s_ec3, PF.s_lg0, PF.s_lg1, PF.s_lg2, PF.s_lg3, PF.s_lg4, PF.s_w0, PF.s_w1, PF.s_fre, PF.s_fre1, PF.s_fre2, PF.s_fre3, PF.s_app, PF.s_app1, PF.s_app2, PF.s_app3, PF.s_pop, PF.s_pop1, PF.s_pop2, PF.s_whl, PF.s_wh1, PF.s_wh2, PF.s_wh3, PF.s_wh4, PF.s_nn, PF.s_nn1, PF.s_nnp, PF.s_nnn, PF.s_tol, PF.s_tol2, PF.s_tol3, PF.s_tup, PF.s_tup2, PF.s_len, PF.s_len2, PF.s_all, PF.at_pt, PF.at_pv, PF.g_s0, PF.g_s1, PF.g_sa, PF.s_sl, PF.s_sl1, PF.s_sl2, PF.s_sl3, PF.s_sl4, PF.s_sl5, PF.s_bn0, PF.s_bn1, PF.s_bn2, PF.s_bn3, PF.g_itn, PF.g_itp, PF.s_seti, PF.s_seti1, PF.s_seti2, PF.s_seti3, PF.s_seti4, PF.s_swp, PF.s_swp1, PF.s_swp2, PF.s_swp3, PF.s_sub, PF.s_sub1, PF.s_sub2, PF.s_sub3, PF.s_rev, PF.s_rev1, PF.s_rev2, PF.s_rev3, PF.s_isb, PF.s_isb1, PF.s_isb2, PF.s_isb3, PF.s_isb4, PF.g_catm, PF.g_catb, PF.g_cati, PF.g_cat2, PF.g_mapp, PF.g_map1, PF.g_mrev, PF.g_isib, PF.g_l0, PF.g_l1, PF.g_l2, PF.g_l3, PF.g_sm2, PF.g_sm3, PF.g_sm4, PF.g_r2, PF.g_r3, PF.g_r4, List.length_map, q1', pm, q2']
            · have q2' : ¬ (i : Int) = ((pv S.length j : Nat) : Int) := by omega
              constructor
              · intro hp
                have hp : ¬ (hd m (gt S (pv S.length j)) (gt S j) (gt S i) = 1) := by simpa [q1, q2] using hp
                simp -implicitDefEqProofs (maxSteps := 400000) (disch := (first | with_reducible assumption | (with_reducible apply PF.mulOk_of <;> (repeat' (first | with_reducible assumption | with_reducible (apply PyProof.Rows.bits_add) | with_reducible (apply PyProof.Rows.bits_sub) | with_reducible (apply PyProof.Rows.bits_mul) | with_reducible (apply PyProof.Rows.bits_neg) | with_reducible (apply PF.bits_div (by first | omega | decide +kernel)) | with_reducible (apply PF.bits_mod (by first | omega | decide +kernel)) | (with_reducible show _ + _ ≤ 134217728; decide +kernel) | exact Nat.le_refl _))) | ((with_reducible apply PF.lt_len); with_unfolding_all rfl) | omega | decide +kernel)) only [PF.opI_mul, PF.opI_mod, PF.opI_fdiv, PF.ixT0, PF.ixT1, PF.cmp_eq, PF.cmp_ne, PF.cmp_lt, PF.cmp_le, PF.cmp_gt, PF.cmp_ge, PF.cmp_t2, PF.cmp_n2, PF.cmp_tt2, PF.cmp_nt2, PF.isInsT, PF.q_lo, PF.q_s1, PF.q_s2, PF.q_non, PF.q_bl, PF.q_int, PF.q_str, PF.q_gl, PF.q_bin, PF.q_bin1, PF.q_bin2, PF.q_kI, PF.q_kB, PF.q_kIm, PF.q_kFz, PF.q_neg, PF.q_neg1, PF.q_not, PF.q_not1, PF.q_cmp, PF.q_cmp1, PF.q_cmp2, PF.q_isN, PF.q_isN1, PF.q_and, PF.q_and1, PF.q_and2, PF.q_or, PF.q_or1, PF.q_or2, PF.q_ite, PF.q_ite1, PF.q_ite2, PF.q_tup, PF.q_tup1, PF.q_tup2, PF.q_lst, PF.q_lst1, PF.q_lst2, PF.q_ix, PF.q_ix1, PF.q_ix2, PF.q_call, PF.q_call1, PF.q_meth, PF.q_meth1, PF.q_meth2, PF.q_meth3, PF.q_fld, PF.q_fld1, PF.q_blt, PF.q_blt1, PF.q_isi, PF.q_isi0, PF.q_vs0, PF.q_vs1, PF.q_vs2, PF.q_vs3, PF.q_vb0, PF.q_vb1, PF.q_vb2, PF.q_vb3, PF.q_itE, PF.q_itE1, PF.q_it1, PF.q_it2, PF.q_it3, PF.q_asg, PF.q_asg0, PF.q_nx, PF.q_par, PF.q_par1, PF.q_ret, PF.q_ret1, PF.q_retN, PF.q_iff, PF.q_iff1, PF.q_iff2, PF.q_for, PF.q_for1, PF.q_fg0, PF.q_fg1, PF.q_fb, PF.q_f1, PF.q_f2, PF.q_rse, PF.q_es0, PF.q_es1, PF.q_cn, PF.q_cr, PF.q_rk1, PF.q_rk2, PF.q_see1, PF.q_see2, PF.q_see3, PF.q_fz1, PF.q_fz2, PF.q_out1, PF.q_out2, PF.q_out3, PF.q_op, PF.q_add, PF.q_sub, PF.q_isi1, PF.q_isi2, PF.q_isi3, PF.q_isi4, PF.q_isi5, PF.q_asg1, PF.q_asg2, PF.q_put1, PF.q_put2, PF.q_bnm, PF.q_bt0, PF.q_bt1, PF.q_bt2, PF.q_tg1, PF.q_tg2, PF.q_its1, PF.q_its2, PF.q_len1, PF.q_len2, PF.q_bint, PF.q_fld0, PF.q_ctx, PF.q_cgl, PF.q_cwf, PF.q_size, List.map_cons, List.map_nil, Nat.reduceSub, Nat.sub_self, List.replicate, List.append_nil, List.cons_append, List.nil_append, List.length_cons, List.length_nil, List.getElem?_cons_zero, List.getElem?_cons_succ, List.set_cons_zero, List.set_cons_succ, Nat.reduceAdd, Nat.reduceLT, Nat.reduceLeDiff, Int.cast_ofNat_Int, Int.reduceEq, Int.reduceLT, Int.reduceLE, decide_true, decide_false, if_true, Bool.false_eq_true, if_false, Bool.not_true, Bool.not_false, Bool.and_true, Bool.true_and, Bool.or_true, Bool.or_false, Bool.and_self, ite_true, ite_false, PF.g_nu, PF.g_pt, PF.g_n0, PF.g_n1, PF.g_p0, PF.g_p1, PF.g_pi, PF.g_pa, PF.g_pb, PF.g_fi, PF.g_ff, PF.g_ce, PF.g_cn, PF.g_pe, PF.g_pn, PF.s_lc, PF.s_lc1, PF.s_lc2, PF.s_lc3, PF.s_fI, PF.s_fI1, PF.s_fI2, PF.s_fI3, PF.s_fI4, PF.s_ec0, PF.s_ec1, PF.s_ec2, PF.s_ec3, PF.s_lg0, PF.s_lg1, PF.s_lg2, PF.s_lg3, PF.s_lg4, PF.s_w0, PF.s_w1, PF.s_fre, PF.s_fre1, PF.s_fre2, PF.s_fre3, PF.s_app, PF.s_app1, PF.s_app2, PF.s_app3, PF.s_pop, PF.s_pop1, PF.s_pop2, PF.s_whl, PF.s_wh1, PF.s_wh2, PF.s_wh3, PF.s_wh4, PF.s_nn, PF.s_nn1, PF.s_nnp, PF.s_nnn, PF.s_tol, PF.s_tol2, PF.s_tol3, PF.s_tup, PF.s_tup2, PF.s_len, PF.s_len2, PF.s_all, PF.at_pt, PF.at_pv, PF.g_s0, PF.g_s1, PF.g_sa, PF.s_sl, PF.s_sl1, PF.s_sl2, PF.s_sl3, PF.s_sl4, PF.s_sl5, PF.s_bn0, PF.s_bn1, PF.s_bn2, PF.s_bn3, PF.g_itn, PF.g_itp, PF.s_seti, PF.s_seti1, PF.s_seti2, PF.s_seti3, PF.s_seti4, PF.s_swp, PF.s_swp1, PF.s_swp2, PF.s_swp3, PF.s_sub, PF.s_sub1, PF.s_sub2, PF.s_sub3, PF.s_rev, PF.s_rev1, PF.s_rev2, PF.s_rev3, PF.s_isb, PF.s_isb1, PF.s_isb2, PF.s_isb3, PF.s_isb4, PF.g_catm, PF.g_catb, PF.g_cati, PF.g_cat2, PF.g_mapp, PF.g_map1, PF.g_mrev, PF.g_isib, PF.g_l0, PF.g_l1, PF.g_l2, PF.g_l3, PF.g_sm2, PF.g_sm3, PF.g_sm4, PF.g_r2, PF.g_r3, PF.g_r4, List.length_map, q1', pm, q2', a1, a2, a3, x, hp]
              · intro hp
                have hp : hd m (gt S (pv S.length j)) (gt S j) (gt S i) = 1 := by simpa [q1, q2] using hp
                rw [hp] at x
                refine ⟨_, ?_, ⟨.im (.int (i : Int)), rfl⟩⟩
                simp -implicitDefEqProofs (maxSteps := 400000) (disch := (first | with_reducible assumption | (with_reducible apply PF.mulOk_of <;> (repeat' (first | with_reducible assumption | with_reducible (apply PyProof.Rows.bits_add) | with_reducible (apply PyProof.Rows.bits_sub) | with_reducible (apply PyProof.Rows.bits_mul) | with_reducible (apply PyProof.Rows.bits_neg) | with_reducible (apply PF.bits_div (by first | omega | decide +kernel)) | with_reducible (apply PF.bits_mod (by first | omega | decide +kernel)) | (with_reducible show _ + _ ≤ 134217728; decide +kernel) | exact Nat.le_refl _))) | ((with_reducible apply PF.lt_len); with_unfolding_all rfl) | omega | decide +kernel)) only [PF.opI_mul, PF.opI_mod, PF.opI_fdiv, PF.ixT0, PF.ixT1, PF.cmp_eq, PF.cmp_ne, PF.cmp_lt, PF.cmp_le, PF.cmp_gt, PF.cmp_ge, PF.cmp_t2, PF.cmp_n2, PF.cmp_tt2, PF.cmp_nt2, PF.isInsT, PF.q_lo, PF.q_s1, PF.q_s2, PF.q_non, PF.q_bl, PF.q_int, PF.q_str, PF.q_gl, PF.q_bin, PF.q_bin1, PF.q_bin2, PF.q_kI, PF.q_kB, PF.q_kIm, PF.q_kFz, PF.q_neg, PF.q_neg1, PF.q_not, PF.q_not1, PF.q_cmp, PF.q_cmp1, PF.q_cmp2, PF.q_isN, PF.q_isN1, PF.q_and, PF.q_and1, PF.q_and2, PF.q_or, PF.q_or1, PF.q_or2, PF.q_ite, PF.q_ite1, PF.q_ite2, PF.q_tup, PF.q_tup1, PF.q_tup2, PF.q_lst, PF.q_lst1, PF.q_lst2, PF.q_ix, PF.q_ix1, PF.q_ix2, PF.q_call, PF.q_call1, PF.q_meth, PF.q_meth1, PF.q_meth2, PF.q_meth3, PF.q_fld, PF.q_fld1, PF.q_blt, PF.q_blt1, PF.q_isi, PF.q_isi0, PF.q_vs0, PF.q_vs1, PF.q_vs2, PF.q_vs3, PF.q_vb0, PF.q_vb1, PF.q_vb2, PF.q_vb3, PF.q_itE, PF.q_itE1, PF.q_it1, PF.q_it2, PF.q_it3, PF.q_asg, PF.q_asg0, PF.q_nx, PF.q_par, PF.q_par1, PF.q_ret, PF.q_ret1, PF.q_retN, PF.q_iff, PF.q_iff1, PF.q_iff2, PF.q_for, PF.q_for1, PF.q_fg0, PF.q_fg1, PF.q_fb, PF.q_f1, PF.q_f2, PF.q_rse, PF.q_es0, PF.q_es1, PF.q_cn, PF.q_cr, PF.q_rk1, PF.q_rk2, PF.q_see1, PF.q_see2, PF.q_see3, PF.q_fz1, PF.q_fz2, PF.q_out1, PF.q_out2, PF.q_out3, PF.q_op, PF.q_add, PF.q_sub, PF.q_isi1, PF.q_isi2, PF.q_isi3, PF.q_isi4, PF.q_isi5, PF.q_asg1, PF.q_asg2, PF.q_put1, PF.q_put2, PF.q_bnm, PF.q_bt0, PF.q_bt1, PF.q_bt2, PF.q_tg1, PF.q_tg2, PF.q_its1, PF.q_its2, PF.q_len1, PF.q_len2, PF.q_bint, PF.q_fld0, PF.q_ctx, PF.q_cgl, PF.q_cwf, PF.q_size, List.map_cons, List.map_nil, Nat.reduceSub, Nat.sub_self, List.replicate, List.append_nil, List.cons_append, List.nil_append, List.length_cons, List.length_nil, List.getElem?_cons_zero, List.getElem?_cons_succ, List.set_cons_zero, List.set_cons_succ, Nat.reduceAdd, Nat.reduceLT, Nat.reduceLeDiff, Int.cast_ofNat_Int, Int.reduceEq, Int.reduceLT, Int.reduceLE, decide_true, decide_false, if_true, Bool.false_eq_true, if_false, Bool.not_true, Bool.not_false, Bool.and_true, Bool.true_and, Bool.or_true, Bool.or_false, Bool.and_self, ite_true, ite_false, PF.g_nu, PF.g_pt, PF.g_n0, PF.g_n1, PF.g_p0, PF.g_p1, PF.g_pi, PF.g_pa, PF.g_pb, PF.g_fi, PF.g_ff, PF.g_ce, PF.g_cn, PF.g_pe, PF.g_pn, PF.s_lc, PF.s_lc1, PF.s_lc2, PF.s_lc3, PF.s_fI, PF.s_fI1, PF.s_fI2, PF.s_fI3, PF.s_fI4, PF.s_ec0, PF.s_ec1, PF.s_ec2, PF.s_ec3, PF.s_lg0, PF.s_lg1, PF.s_lg2, PF.s_lg3, PF.s_lg4, PF.s_w0, PF.s_w1, PF.s_fre, PF.s_fre1, PF.s_fre2, PF.s_fre3, PF.s_app, PF.s_app1, PF.s_app2, PF.s_app3, PF.s_pop, PF.s_pop1, PF.s_pop2, PF.s_whl, PF.s_wh1, PF.s_wh2, PF.s_wh3, PF.s_wh4, PF.s_nn, PF.s_nn1, PF.s_nnp, PF.s_nnn, PF.s_tol, PF.s_tol2, PF.s_tol3, PF.s_tup, PF.s_tup2, PF.s_len, PF.s_len2, PF.s_all, PF.at_pt, PF.at_pv, PF.g_s0, PF.g_s1, PF.g_sa, PF.s_sl, PF.s_sl1, PF.s_sl2, PF.s_sl3, PF.s_sl4, PF.s_sl5, PF.s_bn0, PF.s_bn1, PF.s_bn2, PF.s_bn3, PF.g_itn, PF.g_itp, PF.s_seti, PF.s_seti1, PF.s_seti2, PF.s_seti3, PF.s_seti4, PF.s_swp, PF.s_swp1, PF.s_swp2, PF.s_swp3, PF.s_sub, PF.s_sub1, PF.s_sub2, PF.s_sub3, PF.s_rev, PF.s_rev1, PF.s_rev2, PF.s_rev3, PF.s_isb, PF.s_isb1, PF.s_isb2, PF.s_isb3, PF.s_isb4, PF.g_catm, PF.g_catb, PF.g_cati, PF.g_cat2, PF.g_mapp, PF.g_map1, PF.g_mrev, PF.g_isib, PF.g_l0, PF.g_l1, PF.g_l2, PF.g_l3, PF.g_sm2, PF.g_sm3, PF.g_sm4, PF.g_r2, PF.g_r3, PF.g_r4, List.length_map, q1', pm, q2', a1, a2, a3, x]) [.im (.int m), .im (.lst (S.map pt)), .im (.int (j : Int)), y] ⟨_, rfl⟩
        constructor
        · intro hp
          have q := inner.1 hp
          rw [← rng_map] at q
          simp -implicitDefEqProofs (maxSteps := 400000) (disch := (first | with_reducible assumption | (with_reducible apply PF.mulOk_of <;> (repeat' (first | with_reducible assumption | with_reducible (apply PyProof.Rows.bits_add) | with_reducible (apply PyProof.Rows.bits_sub) | with_reducible (apply PyProof.Rows.bits_mul) | with_reducible (apply PyProof.Rows.bits_neg) | with_reducible (apply PF.bits_div (by first | omega | decide +kernel)) | with_reducible (apply PF.bits_mod (by first | omega | decide +kernel)) | (with_reducible show _ + _ ≤ 134217728; decide +kernel) | exact Nat.le_refl _))) | ((with_reducible apply PF.lt_len); with_unfolding_all rfl) | omega | decide +kernel)) only [PF.opI_mul, PF.opI_mod, PF.opI_fdiv, PF.ixT0, PF.ixT1, PF.cmp_eq, PF.cmp_ne, PF.cmp_lt, PF.cmp_le, PF.cmp_gt, PF.cmp_ge, PF.cmp_t2, PF.cmp_n2, PF.cmp_tt2, PF.cmp_nt2, PF.isInsT, PF.q_lo, PF.q_s1, PF.q_s2, PF.q_non, PF.q_bl, PF.q_int, PF.q_str, PF.q_gl, PF.q_bin, PF.q_bin1, PF.q_bin2, PF.q_kI, PF.q_kB, PF.q_kIm, PF.q_kFz, PF.q_neg, PF.q_neg1, PF.q_not, PF.q_not1, PF.q_cmp, PF.q_cmp1, PF.q_cmp2, PF.q_isN, PF.q_isN1, PF.q_and, PF.q_and1, PF.q_and2, PF.q_or, PF.q_or1, PF.q_or2, PF.q_ite, PF.q_ite1, PF.q_ite2, PF.q_tup, PF.q_tup1, PF.q_tup2, PF.q_lst, PF.q_lst1, PF.q_lst2, PF.q_ix, PF.q_ix1, PF.q_ix2, PF.q_call, PF.q_call1, PF.q_meth, PF.q_meth1, PF.q_meth2, PF.q_meth3, PF.q_fld, PF.q_fld1, PF.q_blt, PF.q_blt1, PF.q_isi, PF.q_isi0, PF.q_vs0, PF.q_vs1, PF.q_vs2, PF.q_vs3, PF.q_vb0, PF.q_vb1, PF.q_vb2, PF.q_vb3, PF.q_itE, PF.q_itE1, PF.q_it1, PF.q_it2, PF.q_it3, PF.q_asg, PF.q_asg0, PF.q_nx, PF.q_par, PF.q_par1, PF.q_ret, PF.q_ret1, PF.q_retN, PF.q_iff, PF.q_iff1, PF.q_iff2, PF.q_for, PF.q_for1, PF.q_fg0, PF.q_fg1, PF.q_fb, PF.q_f1, PF.q_f2, PF.q_rse, PF.q_es0, PF.q_es1, PF.q_cn, PF.q_cr, PF.q_rk1, PF.q_rk2, PF.q_see1, PF.q_see2, PF.q_see3, PF.q_fz1, PF.q_fz2, PF.q_out1, PF.q_out2, PF.q_out3, PF.q_op, PF.q_add, PF.q_sub, PF.q_isi1, PF.q_isi2, PF.q_isi3, PF.q_isi4, PF.q_isi5, PF.q_asg1, PF.q_asg2, PF.q_put1, PF.q_put2, PF.q_bnm, PF.q_bt0, PF.q_bt1, PF.q_bt2, PF.q_tg1, PF.q_tg2, PF.q_its1, PF.q_its2, PF.q_len1, PF.q_len2, PF.q_bint, PF.q_fld0, PF.q_ctx, PF.q_cgl, PF.q_cwf, PF.q_size, List.map_cons, List.map_nil, Nat.reduceSub, Nat.sub_self, List.replicate, List.append_nil, List.cons_append, List.nil_append, List.length_cons, List.length_nil, List.getElem?_cons_zero, List.getElem?_cons_succ, List.set_cons_zero, List.set_cons_succ, Nat.reduceAdd, Nat.reduceLT, Nat.reduceLeDiff, Int.cast_ofNat_Int, Int.reduceEq, Int.reduceLT, Int.reduceLE, decide_true, decide_false, if_true, Bool.false_eq_true, if_false, Bool.not_true, Bool.not_false, Bool.and_true, Bool.true_and, Bool.or_true, Bool.or_false, Bool.and_self, ite_true, ite_false, PF.g_nu, PF.g_pt, PF.g_n0, PF.g_n1, PF.g_p0, PF.g_p1, PF.g_pi, PF.g_pa, PF.g_pb, PF.g_fi, PF.g_ff, PF.g_ce, PF.g_cn, PF.g_pe, PF.g_pn, PF.s_lc, PF.s_lc1, PF.s_lc2, PF.s_lc3, PF.s_fI, PF.s_fI1, PF.s_fI2, PF.s_fI3, PF.s_fI4, PF.s_ec0, PF.s_ec1, PF.s_ec2, PF.s_ec3, PF.s_lg0, PF.s_lg1, PF.s_lg2, PF.s_lg3, PF.s_lg4, PF.s_w0, PF.s_w1, PF.s_fre, PF.s_fre1, PF.s_fre2, PF.s_fre3, PF.s_app, PF.s_app1, PF.s_app2, PF.s_app3, PF.s_pop, PF.s_pop1, PF.s_pop2, PF.s_whl, PF.s_wh1, PF.s_wh2, PF.s_wh3, PF.s_wh4, PF.s_nn, PF.s_nn1, PF.s_nnp, PF.s_nnn, PF.s_tol, PF.s_tol2, PF.s_tol3, PF.s_tup, PF.s_tup2, PF.s_len, PF.s_len2, PF.s_all, PF.at_pt, PF.at_pv, PF.g_s0, PF.g_s1, PF.g_sa, PF.s_sl, PF.s_sl1, PF.s_sl2, PF.s_sl3, PF.s_sl4, PF.s_sl5, PF.s_bn0, PF.s_bn1, PF.s_bn2, PF.s_bn3, PF.g_itn, PF.g_itp, PF.s_seti, PF.s_seti1, PF.s_seti2, PF.s_seti3, PF.s_seti4, PF.s_swp, PF.s_swp1, PF.s_swp2, PF.s_swp3, PF.s_sub, PF.s_sub1, PF.s_sub2, PF.s_sub3, PF.s_rev, PF.s_rev1, PF.s_rev2, PF.s_rev3, PF.s_isb, PF.s_isb1, PF.s_isb2, PF.s_isb3, PF.s_isb4, PF.g_catm, PF.g_catb, PF.g_cati, PF.g_cat2, PF.g_mapp, PF.g_map1, PF.g_mrev, PF.g_isib, PF.g_l0, PF.g_l1, PF.g_l2, PF.g_l3, PF.g_sm2, PF.g_sm3, PF.g_sm4, PF.g_r2, PF.g_r3, PF.g_r4, List.length_map, hs, q]
        · intro hp
          obtain ⟨e', q, y', rfl⟩ := inner.2 hp
          rw [← rng_map] at q
          refine ⟨_, ?_, ⟨.im (.int (j : Int)), y', rfl⟩⟩
          simp -implicitDefEqProofs (maxSteps := 400000) (disch := (first | with_reducible assumption | (with_reducible apply PF.mulOk_of <;> (repeat' (first | with_reducible assumption | with_reducible (apply PyProof.Rows.bits_add) | with_reducible (apply PyProof.Rows.bits_sub) | with_reducible (apply PyProof.Rows.bits_mul) | with_reducible (apply PyProof.Rows.bits_neg) | with_reducible (apply PF.bits_div (by first | omega | decide +kernel)) | with_reducible (apply PF.bits_mod (by first | omega | decide +kernel)) | (with_reducible show _ + _ ≤ 134217728; decide +kernel) | exact Nat.le_refl _))) | ((with_reducible apply PF.lt_len); with_unfolding_all rfl) | omega | decide +kernel)) only [PF.opI_mul, PF.opI_mod, PF.opI_fdiv, PF.ixT0, PF.ixT1, PF.cmp_eq, PF.cmp_ne, PF.cmp_lt, PF.cmp_le, PF.cmp_gt, PF.cmp_ge, PF.cmp_t2, PF.cmp_n2, PF.cmp_tt2, PF.cmp_nt2, PF.isInsT, PF.q_lo, PF.q_s1, PF.q_s2, PF.q_non, PF.q_bl, PF.q_int, PF.q_str, PF.q_gl, PF.q_bin, PF.q_bin1, PF.q_bin2, PF.q_kI, PF.q_kB, PF.q_kIm, PF.q_kFz, PF.q_neg, PF.q_neg1, PF.q_not, PF.q_not1, PF.q_cmp, PF.q_cmp1, PF.q_cmp2, PF.q_isN, PF.q_isN1, PF.q_and, PF.q_and1, PF.q_and2, PF.q_or, PF.q_or1, PF.q_or2, PF.q_ite, PF.q_ite1, PF.q_ite2, PF.q_tup, PF.q_tup1, PF.q_tup2, PF.q_lst, PF.q_lst1, PF.q_lst2, PF.q_ix, PF.q_ix1, PF.q_ix2, PF.q_call, PF.q_call1, PF.q_meth, PF.q_meth1, PF.q_meth2, PF.q_meth3, PF.q_fld, PF.q_fld1, PF.q_blt, PF.q_blt1, PF.q_isi, PF.q_isi0, PF.q_vs0, PF.q_vs1, PF.q_vs2, PF.q_vs3, PF.q_vb0, PF.q_vb1, PF.q_vb2, PF.q_vb3, PF.q_itE, PF.q_itE1, PF.q_it1, PF.q_it2, PF.q_it3, PF.q_asg, PF.q_asg0, PF.q_nx, PF.q_par, PF.q_par1, PF.q_ret, PF.q_ret1, PF.q_retN, PF.q_iff, PF.q_iff1, PF.q_iff2, PF.q_for, PF.q_for1, PF.q_fg0, PF.q_fg1, PF.q_fb, PF.q_f1, PF.q_f2, PF.q_rse, PF.q_es0, PF.q_es1, PF.q_cn, PF.q_cr, PF.q_rk1, PF.q_rk2, PF.q_see1, PF.q_see2, PF.q_see3, PF.q_fz1, PF.q_fz2, PF.q_out1, PF.q_out2, PF.q_out3, PF.q_op, PF.q_add, PF.q_sub, PF.q_isi1, PF.q_isi2, PF.q_isi3, PF.q_isi4, PF.q_isi5, PF.q_asg1, PF.q_asg2, PF.q_put1, PF.q_put2, PF.q_bnm, PF.q_bt0, PF.q_bt1, PF.q_bt2, PF.q_tg1, PF.q_tg2, PF.q_its1, PF.q_its2, PF.q_len1, PF.q_len2, PF.q_bint, PF.q_fld0, PF.q_ctx, PF.q_cgl, PF.q_cwf, PF.q_size, List.map_cons, List.map_nil, Nat.reduceSub, Nat.sub_self, List.replicate, List.append_nil, List.cons_append, List.nil_append, List.length_cons, List.length_nil, List.getElem?_cons_zero, List.getElem?_cons_succ, List.set_cons_zero, List.set_cons_succ, Nat.reduceAdd, Nat.reduceLT, Nat.reduceLeDiff, Int.cast_ofNat_Int, Int.reduceEq, Int.reduceLT, Int.reduceLE, decide_true, decide_false, if_true, Bool.false_eq_true, if_false, Bool.not_true, Bool.not_false, Bool.and_true, Bool.true_and, Bool.or_true, Bool.or_false, Bool.and_self, ite_true, ite_false, PF.g_nu, PF.g_pt, PF.g_n0, PF.g_n1, PF.g_p0, PF.g_p1, PF.g_pi, PF.g_pa, PF.g_pb, PF.g_fi, PF.g_ff, PF.g_ce, PF.g_cn, PF.g_pe, PF.g_pn, PF.s_lc, PF.s_lc1, PF.s_lc2, PF.s_lc3, PF.s_fI, PF.s_fI1, PF.s_fI2, PF.s_fI3, PF.s_fI4, PF.s_ec0, PF.s_ec1, PF.s_ec2, PF.s_ec3, PF.s_lg0, PF.s_lg1, PF.s_lg2, PF.s_lg3, PF.s_lg4, PF.s_w0, PF.s_w1, PF.s_fre, PF.s_fre1, PF.s_fre2, PF.s_fre3, PF.s_app, PF.s_app1, PF.s_app2, PF.s_app3, PF.s_pop, PF.s_pop1, PF.s_pop2, PF.s_whl, PF.s_wh1, PF.s_wh2, PF.s_wh3, PF.s_wh4, PF.s_nn, PF.s_nn1, PF.s_nnp, PF.s_nnn, PF.s_tol, PF.s_tol2, PF.s_tol3, PF.s_tup, PF.s_tup2, PF.s_len, PF.s_len2, PF.s_all, PF.at_pt, PF.at_pv, PF.g_s0, PF.g_s1, PF.g_sa, PF.s_sl, PF.s_sl1, PF.s_sl2, PF.s_sl3, PF.s_sl4, PF.s_sl5, PF.s_bn0, PF.s_bn1, PF.s_bn2, PF.s_bn3, PF.g_itn, PF.g_itp, PF.s_seti, PF.s_seti1, PF.s_seti2, PF.s_seti3, PF.s_seti4, PF.s_swp, PF.s_swp1, PF.s_swp2, PF.s_swp3, PF.s_sub, PF.s_sub1, PF.s_sub2, PF.s_sub3, PF.s_rev, PF.s_rev1, PF.s_rev2, PF.s_rev3, PF.s_isb, PF.s_isb1, PF.s_isb2, PF.s_isb3, PF.s_isb4, PF.g_catm, PF.g_catb, PF.g_cati, PF.g_cat2, PF.g_mapp, PF.g_map1, PF.g_mrev, PF.g_isib, PF.g_l0, PF.g_l1, PF.g_l2, PF.g_l3, PF.g_sm2, PF.g_sm3, PF.g_sm4, PF.g_r2, PF.g_r3, PF.g_r4, List.length_map, hs, q]
      · intro hp
        rw [isS_law (by omega) (by omega), hp]
        simp -implicitDefEqProofs (maxSteps := 400000) (disch := (first | with_reducible assumption | (with_reducible apply PF.mulOk_of <;> (repeat' (first | with_reducible assumption | with_reducible (apply PyProof.Rows.bits_add) | with_reducible (apply PyProof.Rows.bits_sub) | with_reducible (apply PyProof.Rows.bits_mul) | with_reducible (apply PyProof.Rows.bits_neg) | with_reducible (apply PF.bits_div (by first | omega | decide +kernel)) | with_reducible (apply PF.bits_mod (by first | omega | decide +kernel)) | (with_reducible show _ + _ ≤ 134217728; decide +kernel) | exact Nat.le_refl _))) | ((with_reducible apply PF.lt_len); with_unfolding_all rfl) | omega | decide +kernel)) only [PF.opI_mul, PF.opI_mod, PF.opI_fdiv, PF.ixT0, PF.ixT1, PF.cmp_eq, PF.cmp_ne, PF.cmp_lt, PF.cmp_le, PF.cmp_gt, PF.cmp_ge, PF.cmp_t2, PF.cmp_n2, PF.cmp_tt2, PF.cmp_nt2, PF.isInsT, PF.q_lo, PF.q_s1, PF.q_s2, PF.q_non, PF.q_bl, PF.q_int, PF.q_str, PF.q_gl, PF.q_bin, PF.q_bin1, PF.q_bin2, PF.q_kI, PF.q_kB, PF.q_kIm, PF.q_kFz, PF.q_neg, PF.q_neg1, PF.q_not, PF.q_not1, PF.q_cmp, PF.q_cmp1, PF.q_cmp2, PF.q_isN, PF.q_isN1, PF.q_and, PF.q_and1, PF.q_and2, PF.q_or, PF.q_or1, PF.q_or2, PF.q_ite, PF.q_ite1, PF.q_ite2, PF.q_tup, PF.q_tup1, PF.q_tup2, PF.q_lst, PF.q_lst1, PF.q_lst2, PF.q_ix, PF.q_ix1, PF.q_ix2, PF.q_call, PF.q_call1, PF.q_meth, PF.q_meth1, PF.q_meth2, PF.q_meth3, PF.q_fld, PF.q_fld1, PF.q_blt, PF.q_blt1, PF.q_isi, PF.q_isi0, PF.q_vs0, PF.q_vs1, PF.q_vs2, PF.q_vs3, PF.q_vb0, PF.q_vb1, PF.q_vb2, PF.q_vb3, PF.q_itE, PF.q_itE1, PF.q_it1, PF.q_it2, PF.q_it3, PF.q_asg, PF.q_asg0, PF.q_nx, PF.q_par, PF.q_par1, PF.q_ret, PF.q_ret1, PF.q_retN, PF.q_iff, PF.q_iff1, PF.q_iff2, PF.q_for, PF.q_for1, PF.q_fg0, PF.q_fg1, PF.q_fb, PF.q_f1, PF.q_f2, PF.q_rse, PF.q_es0, PF.q_es1, PF.q_cn, PF.q_cr, PF.q_rk1, PF.q_rk2, PF.q_see1, PF.q_see2, PF.q_see3, PF.q_fz1, PF.q_fz2, PF.q_out1, PF.q_out2, PF.q_out3, PF.q_op, PF.q_add, PF.q_sub, PF.q_isi1, PF.q_isi2, PF.q_isi3, PF.q_isi4, PF.q_isi5, PF.q_asg1, PF.q_asg2, PF.q_put1, PF.q_put2, PF.q_bnm, PF.q_bt0, PF.q_bt1, PF.q_bt2, PF.q_tg1, PF.q_tg2, PF.q_its1, PF.q_its2, PF.q_len1, PF.q_len2, PF.q_bint, PF.q_fld0, PF.q_ctx, PF.q_cgl, PF.q_cwf, PF.q_size, List.map_cons, List.map_nil, Nat.reduceSub, Nat.sub_self, List.replicate, List.append_nil, List.cons_append, List.nil_append, List.length_cons, List.length_nil, List.getElem?_cons_zero, List.getElem?_cons_succ, List.set_cons_zero, List.set_cons_succ, Nat.reduceAdd, Nat.reduceLT, Nat.reduceLeDiff, Int.cast_ofNat_Int, Int.reduceEq, Int.reduceLT, Int.reduceLE, decide_true, decide_false, if_true, Bool.false_eq_true, if_false, Bool.not_true, Bool.not_false, Bool.and_true, Bool.true_and, Bool.or_true, Bool.or_false, Bool.and_self, ite_true, ite_false, PF.g_nu, PF.g_pt, PF.g_n0, PF.g_n1, PF.g_p0, PF.g_p1, PF.g_pi, PF.g_pa, PF.g_pb, PF.g_fi, PF.g_ff, PF.g_ce, PF.g_cn, PF.g_pe, PF.g_pn, PF.s_lc, PF.s_lc1, PF.s_lc2, PF.s_lc3, PF.s_fI, PF.s_fI1, PF.s_fI2, PF.s_fI3, PF.s_fI4, PF.s_ec0, PF.s_ec1, PF.s_ec2, PF.s_ec3, PF.s_lg0, PF.s_lg1, PF.s_lg2, PF.s_lg3, PF.s_lg4, PF.s_w0, PF.s_w1, PF.s_fre, PF.s_fre1, PF.s_fre2, PF.s_fre3, PF.s_app, PF.s_app1, PF.s_app2, PF.s_app3, PF.s_pop, PF.s_pop1, PF.s_pop2, PF.s_whl, PF.s_wh1, PF.s_wh2, PF.s_wh3, PF.s_wh4, PF.s_nn, PF.s_nn1, PF.s_nnp, PF.s_nnn, PF.s_tol, PF.s_tol2, PF.s_tol3, PF.s_tup, PF.s_tup2, PF.s_len, PF.s_len2, PF.s_all, PF.at_pt, PF.at_pv, PF.g_s0, PF.g_s1, PF.g_sa, PF.s_sl, PF.s_sl1, PF.s_sl2, PF.s_sl3, PF.s_sl4, PF.s_sl5, PF.s_bn0, PF.s_bn1, PF.s_bn2, PF.s_bn3, PF.g_itn, PF.g_itp, PF.s_seti, PF.s_seti1, PF.s_seti2, PF.s_seti3, PF.s_seti4, PF.s_swp, PF.s_swp1, PF.s_swp2, PF.s_swp3, PF.s_sub, PF.s_sub1, PF.s_sub2, PF.s_sub3, PF.s_rev, PF.s_rev1, PF.s_rev2, PF.s_rev3, PF.s_isb, PF.s_isb1, PF.s_isb2, PF.s_isb3, PF.s_isb4, PF.g_catm, PF.g_catb, PF.g_cati, PF.g_cat2, PF.g_mapp, PF.g_map1, PF.g_mrev, PF.g_isib, PF.g_l0, PF.g_l1, PF.g_l2, PF.g_l3, PF.g_sm2, PF.g_sm3, PF.g_sm4, PF.g_r2, PF.g_r3, PF.g_r4, List.length_map]
      · rintro hp e ⟨x, y, rfl⟩
        rw [isS_law (by omega) (by omega), hp]
        simp -implicitDefEqProofs (maxSteps := 400000) (disch := (first | with_reducible assumption | (with_reducible apply PF.mulOk_of <;> (repeat' (first | with_reducible assumption | with_reducible (apply PyProof.Rows.bits_add) | with_reducible (apply PyProof.Rows.bits_sub) | with_reducible (apply PyProof.Rows.bits_mul) | with_reducible (apply PyProof.Rows.bits_neg) | with_reducible (apply PF.bits_div (by first | omega | decide +kernel)) | with_reducible (apply PF.bits_mod (by first | omega | decide +kernel)) | (with_reducible show _ + _ ≤ 134217728; decide +kernel) | exact Nat.le_refl _))) | ((with_reducible apply PF.lt_len); with_unfolding_all rfl) | omega | decide +kernel)) only [PF.opI_mul, PF.opI_mod, PF.opI_fdiv, PF.ixT0, PF.ixT1, PF.cmp_eq, PF.cmp_ne, PF.cmp_lt, PF.cmp_le, PF.cmp_gt, PF.cmp_ge, PF.cmp_t2, PF.cmp_n2, PF.cmp_tt2, PF.cmp_nt2, PF.isInsT, PF.q_lo, PF.q_s1, PF.q_s2, PF.q_non, PF.q_bl, PF.q_int, PF.q_str, PF.q_gl, PF.q_bin, PF.q_bin1, PF.q_bin2, PF.q_kI, PF.q_kB, PF.q_kIm, PF.q_kFz, PF.q_neg, PF.q_neg1, PF.q_not, PF.q_not1, PF.q_cmp, PF.q_cmp1, PF.q_cmp2, PF.q_isN, PF.q_isN1, PF.q_and, PF.q_and1, PF.q_and2, PF.q_or, PF.q_or1, PF.q_or2, PF.q_ite, PF.q_ite1, PF.q_ite2, PF.q_tup, PF.q_tup1, PF.q_tup2, PF.q_lst, PF.q_lst1, PF.q_lst2, PF.q_ix, PF.q_ix1, PF.q_ix2, PF.q_call, PF.q_call1, PF.q_meth, PF.q_meth1, PF.q_meth2, PF.q_meth3, PF.q_fld, PF.q_fld1, PF.q_blt, PF.q_blt1, PF.q_isi, PF.q_isi0, PF.q_vs0, PF.q_vs1, PF.q_vs2, PF.q_vs3, PF.q_vb0, PF.q_vb1, PF.q_vb2, PF.q_vb3, PF.q_itE, PF.q_itE1, PF.q_it1, PF.q_it2, PF.q_it3, PF.q_asg, PF.q_asg0, PF.q_nx, PF.q_par, PF.q_par1, PF.q_ret, PF.q_ret1, PF.q_retN, PF.q_iff, PF.q_iff1, PF.q_iff2, PF.q_for, PF.q_for1, PF.q_fg0, PF.q_fg1, PF.q_fb, PF.q_f1, PF.q_f2, PF.q_rse, PF.q_es0, PF.q_es1, PF.q_cn, PF.q_cr, PF.q_rk1, PF.q_rk2, PF.q_see1, PF.q_see2, PF.q_see3, PF.q_fz1, PF.q_fz2, PF.q_out1, PF.q_out2, PF.q_out3, PF.q_op, PF.q_add, PF.q_sub, PF.q_isi1, PF.q_isi2, PF.q_isi3, PF.q_isi4, PF.q_isi5, PF.q_asg1, PF.q_asg2, PF.q_put1, PF.q_put2, PF.q_bnm, PF.q_bt0, PF.q_bt1, PF.q_bt2, PF.q_tg1, PF.q_tg2, PF.q_its1, PF.q_its2, PF.q_len1, PF.q_len2, PF.q_bint, PF.q_fld0, PF.q_ctx, PF.q_cgl, PF.q_cwf, PF.q_size, List.map_cons, List.map_nil, Nat.reduceSub, Nat.sub_self, List.replicate, List.append_nil, List.cons_append, List.nil_append, List.length_cons, List.length_nil, List.getElem?_cons_zero, List.getElem?_cons_succ, List.set_cons_zero, List.set_cons_succ, Nat.reduceAdd, Nat.reduceLT, Nat.reduceLeDiff, Int.cast_ofNat_Int, Int.reduceEq, Int.reduceLT, Int.reduceLE, decide_true, decide_false, if_true, Bool.false_eq_true, if_false, Bool.not_true, Bool.not_false, Bool.and_true, Bool.true_and, Bool.or_true, Bool.or_false, Bool.and_self, ite_true, ite_false, PF.g_nu, PF.g_pt, PF.g_n0, PF.g_n1, PF.g_p0, PF.g_p1, PF.g_pi, PF.g_pa, PF.g_pb, PF.g_fi, PF.g_ff, PF.g_ce, PF.g_cn, PF.g_pe, PF.g_pn, PF.s_lc, PF.s_lc1, PF.s_lc2, PF.s_lc3, PF.s_fI, PF.s_fI1, PF.s_fI2, PF.s_fI3, PF.s_fI4, PF.s_ec0, PF.s_ec1, PF.s_ec2, PF.s_ec3, PF.s_lg0, PF.s_lg1, PF.s_lg2, PF.s_lg3, PF.s_lg4, PF.s_w0, PF.s_w1, PF.s_fre, PF.s_fre1, PF.s_fre2, PF.s_fre3, PF.s_app, PF.s_app1, PF.s_app2, PF.s_app3, PF.s_pop, PF.s_pop1, PF.s_pop2, PF.s_whl, PF.s_wh1, PF.s_wh2, PF.s_wh3, PF.s_wh4, PF.s_nn, PF.s_nn1, PF.s_nnp, PF.s_nnn, PF.s_tol, PF.s_tol2, PF.s_tol3, PF.s_tup, PF.s_tup2, PF.s_len, PF.s_len2, PF.s_all, PF.at_pt, PF.at_pv, PF.g_s0, PF.g_s1, PF.g_sa, PF.s_sl, PF.s_sl1, PF.s_sl2, PF.s_sl3, PF.s_sl4, PF.s_sl5, PF.s_bn0, PF.s_bn1, PF.s_bn2, PF.s_bn3, PF.g_itn, PF.g_itp, PF.s_seti, PF.s_seti1, PF.s_seti2, PF.s_seti3, PF.s_seti4, PF.s_swp, PF.s_swp1, PF.s_swp2, PF.s_swp3, PF.s_sub, PF.s_sub1, PF.s_sub2, PF.s_sub3, PF.s_rev, PF.s_rev1, PF.s_rev2, PF.s_rev3, PF.s_isb, PF.s_isb1, PF.s_isb2, PF.s_isb3, PF.s_isb4, PF.g_catm, PF.g_catb, PF.g_cati, PF.g_cat2, PF.g_mapp, PF.g_map1, PF.g_mrev, PF.g_isib, PF.g_l0, PF.g_l1, PF.g_l2, PF.g_l3, PF.g_sm2, PF.g_sm3, PF.g_sm4, PF.g_r2, PF.g_r3, PF.g_r4, List.length_map]
    · rw [isS_few (by omega)]
      simp -implicitDefEqProofs (maxSteps := 400000) (disch := (first | with_reducible assumption | (with_reducible apply PF.mulOk_of <;> (repeat' (first | with_reducible assumption | with_reducible (apply PyProof.Rows.bits_add) | with_reducible (apply PyProof.Rows.bits_sub) | with_reducible (apply PyProof.Rows.bits_mul) | with_reducible (apply PyProof.Rows.bits_neg) | with_reducible (apply PF.bits_div (by first | omega | decide +kernel)) | with_reducible (apply PF.bits_mod (by first | omega | decide +kernel)) | (with_reducible show _ + _ ≤ 134217728; decide +kernel) | exact Nat.le_refl _))) | ((with_reducible apply PF.lt_len); with_unfolding_all rfl) | omega | decide +kernel)) only [PF.opI_mul, PF.opI_mod, PF.opI_fdiv, PF.ixT0, PF.ixT1, PF.cmp_eq, PF.cmp_ne, PF.cmp_lt, PF.cmp_le, PF.cmp_gt, PF.cmp_ge, PF.cmp_t2, PF.cmp_n2, PF.cmp_tt2, PF.cmp_nt2, PF.isInsT, PF.q_lo, PF.q_s1, PF.q_s2, PF.q_non, PF.q_bl, PF.q_int, PF.q_str, PF.q_gl, PF.q_bin, PF.q_bin1, PF.q_bin2, PF.q_kI, PF.q_kB, PF.q_kIm, PF.q_kFz, PF.q_neg, PF.q_neg1, PF.q_not, PF.q_not1, PF.q_cmp, PF.q_cmp1, PF.q_cmp2, PF.q_isN, PF.q_isN1, PF.q_and, PF.q_and1, PF.q_and2, PF.q_or, PF.q_or1, PF.q_or2, PF.q_ite, PF.q_ite1, PF.q_ite2, PF.q_tup, PF.q_tup1, PF.q_tup2, PF.q_lst, PF.q_lst1, PF.q_lst2, PF.q_ix, PF.q_ix1, PF.q_ix2, PF.q_call, PF.q_call1, PF.q_meth, PF.q_meth1, PF.q_meth2, PF.q_meth3, PF.q_fld, PF.q_fld1, PF.q_blt, PF.q_blt1, PF.q_isi, PF.q_isi0, PF.q_vs0, PF.q_vs1, PF.q_vs2, PF.q_vs3, PF.q_vb0, PF.q_vb1, PF.q_vb2, PF.q_vb3, PF.q_itE, PF.q_itE1, PF.q_it1, PF.q_it2, PF.q_it3, PF.q_asg, PF.q_asg0, PF.q_nx, PF.q_par, PF.q_par1, PF.q_ret, PF.q_ret1, PF.q_retN, PF.q_iff, PF.q_iff1, PF.q_iff2, PF.q_for, PF.q_for1, PF.q_fg0, PF.q_fg1, PF.q_fb, PF.q_f1, PF.q_f2, PF.q_rse, PF.q_es0, PF.q_es1, PF.q_cn, PF.q_cr, PF.q_rk1, PF.q_rk2, PF.q_see1, PF.q_see2, PF.q_see3, PF.q_fz1, PF.q_fz2, PF.q_out1, PF.q_out2, PF.q_out3, PF.q_op, PF.q_add, PF.q_sub, PF.q_isi1, PF.q_isi2, PF.q_isi3, PF.q_isi4, PF.q_isi5, PF.q_asg1, PF.q_asg2, PF.q_put1, PF.q_put2, PF.q_bnm, PF.q_bt0, PF.q_bt1, PF.q_bt2, PF.q_tg1, PF.q_tg2, PF.q_its1, PF.q_its2, PF.q_len1, PF.q_len2, PF.q_bint, PF.q_fld0, PF.q_ctx, PF.q_cgl, PF.q_cwf, PF.q_size, List.map_cons, List.map_nil, Nat.reduceSub, Nat.sub_self, List.replicate, List.append_nil, List.cons_append, List.nil_append, List.length_cons, List.length_nil, List.getElem?_cons_zero, List.getElem?_cons_succ, List.set_cons_zero, List.set_cons_succ, Nat.reduceAdd, Nat.reduceLT, Nat.reduceLeDiff, Int.cast_ofNat_Int, Int.reduceEq, Int.reduceLT, Int.reduceLE, decide_true, decide_false, if_true, Bool.false_eq_true, if_false, Bool.not_true, Bool.not_false, Bool.and_true, Bool.true_and, Bool.or_true, Bool.or_false, Bool.and_self, ite_true, ite_false, PF.g_nu, PF.g_pt, PF.g_n0, PF.g_n1, PF.g_p0, PF.g_p1, PF.g_pi, PF.g_pa, PF.g_pb, PF.g_fi, PF.g_ff, PF.g_ce, PF.g_cn, PF.g_pe, PF.g_pn, PF.s_lc, PF.s_lc1, PF.s_lc2, PF.s_lc3, PF.s_fI, PF.s_fI1, PF.s_fI2, PF.s_fI3, PF.s_fI4, PF.s_ec0, PF.s_ec1, PF.s_ec2, PF.s_ec3, PF.s_lg0, PF.s_lg1, PF.s_lg2, PF.s_lg3, PF.s_lg4, PF.s_w0, PF.s_w1, PF.s_fre, PF.s_fre1, PF.s_fre2, PF.s_fre3, PF.s_app, PF.s_app1, PF.s_app2, PF.s_app3, PF.s_pop, PF.s_pop1, PF.s_pop2, PF.s_whl, PF.s_wh1, PF.s_wh2, PF.s_wh3, PF.s_wh4, PF.s_nn, PF.s_nn1, PF.s_nnp, PF.s_nnn, PF.s_tol, PF.s_tol2, PF.s_tol3, PF.s_tup, PF.s_tup2, PF.s_len, PF.s_len2, PF.s_all, PF.at_pt, PF.at_pv, PF.g_s0, PF.g_s1, PF.g_sa, PF.s_sl, PF.s_sl1, PF.s_sl2, PF.s_sl3, PF.s_sl4, PF.s_sl5, PF.s_bn0, PF.s_bn1, PF.s_bn2, PF.s_bn3, PF.g_itn, PF.g_itp, PF.s_seti, PF.s_seti1, PF.s_seti2, PF.s_seti3, PF.s_seti4, PF.s_swp, PF.s_swp1, PF.s_swp2, PF.s_swp3, PF.s_sub, PF.s_sub1, PF.s_sub2, PF.s_sub3, PF.s_rev, PF.s_rev1, PF.s_rev2, PF.s_rev3, PF.s_isb, PF.s_isb1, PF.s_isb2, PF.s_isb3, PF.s_isb4, PF.g_catm, PF.g_catb, PF.g_cati, PF.g_cat2, PF.g_mapp, PF.g_map1, PF.g_mrev, PF.g_isib, PF.g_l0, PF.g_l1, PF.g_l2, PF.g_l3, PF.g_sm2, PF.g_sm3, PF.g_sm4, PF.g_r2, PF.g_r3, PF.g_r4, List.length_map, f23, b23, h3, h6, PF.r_ch, PF.r_ch1, PF.r_ch2, PF.r_ch3, PF.r_ch4, PF.r_l0, PF.r_l1, PF.r_l2, PF.r_l3, PF.r_t2, PF.r_cat1, PF.r_cat2, PF.r_lis, PF.cmp_mv, PF.cmp_nmv]
  · rw [isS_few (by omega)]
    simp -implicitDefEqProofs (maxSteps := 400000) (disch := (first | with_reducible assumption | (with_reducible apply PF.mulOk_of <;> (repeat' (first | with_reducible assumption | with_reducible (apply PyProof.Rows.bits_add) | with_reducible (apply PyProof.Rows.bits_sub) | with_reducible (apply PyProof.Rows.bits_mul) | with_reducible (apply PyProof.Rows.bits_neg) | with_reducible (apply PF.bits_div (by first | omega | decide +kernel)) | with_reducible (apply PF.bits_mod (by first | omega | decide +kernel)) | (with_reducible show _ + _ ≤ 134217728; decide +kernel) | exact Nat.le_refl _))) | ((with_reducible apply PF.lt_len); with_unfolding_all rfl) | omega | decide +kernel)) only [PF.opI_mul, PF.opI_mod, PF.opI_fdiv, PF.ixT0, PF.ixT1, PF.cmp_eq, PF.cmp_ne, PF.cmp_lt, PF.cmp_le, PF.cmp_gt, PF.cmp_ge, PF.cmp_t2, PF.cmp_n2, PF.cmp_tt2, PF.cmp_nt2, PF.isInsT, PF.q_lo, PF.q_s1, PF.q_s2, PF.q_non, PF.q_bl, PF.q_int, PF.q_str, PF.q_gl, PF.q_bin, PF.q_bin1, PF.q_bin2, PF.q_kI, PF.q_kB, PF.q_kIm, PF.q_kFz, PF.q_neg, PF.q_neg1, PF.q_not, PF.q_not1, PF.q_cmp, PF.q_cmp1, PF.q_cmp2, PF.q_isN, PF.q_isN1, PF.q_and, PF.q_and1, PF.q_and2, PF.q_or, PF.q_or1, PF.q_or2, PF.q_ite, PF.q_ite1, PF.q_ite2, PF.q_tup, PF.q_tup1, PF.q_tup2, PF.q_lst, PF.q_lst1, PF.q_lst2, PF.q_ix, PF.q_ix1, PF.q_ix2, PF.q_call, PF.q_call1, PF.q_meth, PF.q_meth1, PF.q_meth2, PF.q_meth3, PF.q_fld, PF.q_fld1, PF.q_blt, PF.q_blt1, PF.q_isi, PF.q_isi0, PF.q_vs0, PF.q_vs1, PF.q_vs2, PF.q_vs3, PF.q_vb0, PF.q_vb1, PF.q_vb2, PF.q_vb3, PF.q_itE, PF.q_itE1, PF.q_it1, PF.q_it2, PF.q_it3, PF.q_asg, PF.q_asg0, PF.q_nx, PF.q_par, PF.q_par1, PF.q_ret, PF.q_ret1, PF.q_retN, PF.q_iff, PF.q_iff1, PF.q_iff2, PF.q_for, PF.q_for1, PF.q_fg0, PF.q_fg1, PF.q_fb, PF.q_f1, PF.q_f2, PF.q_rse, PF.q_es0, PF.q_es1, PF.q_cn, PF.q_cr, PF.q_rk1, PF.q_rk2, PF.q_see1, PF.q_see2, PF.q_see3, PF.q_fz1, PF.q_fz2, PF.q_out1, PF.q_out2, PF.q_out3, PF.q_op, PF.q_add, PF.q_sub, PF.q_isi1, PF.q_isi2, PF.q_isi3, PF.q_isi4, PF.q_isi5, PF.q_asg1, PF.q_asg2, PF.q_put1, PF.q_put2, PF.q_bnm, PF.q_bt0, PF.q_bt1, PF.q_bt2, PF.q_tg1, PF.q_tg2, PF.q_its1, PF.q_its2, PF.q_len1, PF.q_len2, PF.q_bint, PF.q_fld0, PF.q_ctx, PF.q_cgl, PF.q_cwf, PF.q_size, List.map_cons, List.map_nil, Nat.reduceSub, Nat.sub_self, List.replicate, List.append_nil, List.cons_append, List.nil_append, List.length_cons, List.length_nil, List.getElem?_cons_zero, List.getElem?_cons_succ, List.set_cons_zero, List.set_cons_succ, Nat.reduceAdd, Nat.reduceLT, Nat.reduceLeDiff, Int.cast_ofNat_Int, Int.reduceEq, Int.reduceLT, Int.reduceLE, decide_true, decide_false, if_true, Bool.false_eq_true, if_false, Bool.not_true, Bool.not_false, Bool.and_true, Bool.true_and, Bool.or_true, Bool.or_false, Bool.and_self, ite_true, ite_false, PF.g_nu, PF.g_pt, PF.g_n0, PF.g_n1, PF.g_p0, PF.g_p1, PF.g_pi, PF.g_pa, PF.g_pb, PF.g_fi, PF.g_ff, PF.g_ce, PF.g_cn, PF.g_pe, PF.g_pn, PF.s_lc, PF.s_lc1, PF.s_lc2, PF.s_lc3, PF.s_fI, PF.s_fI1, PF.s_fI2, PF.s_fI3, PF.s_fI4, PF.s_ec0, PF.s_ec1, PF.s_ec2, PF.s_ec3, PF.s_lg0, PF.s_lg1, PF.s_lg2, PF.s_lg3, PF.s_lg4, PF.s_w0, PF.s_w1, PF.s_fre, PF.s_fre1, PF.s_fre2, PF.s_fre3, PF.s_app, PF.s_app1, PF.s_app2, PF.s_app3, PF.s_pop, PF.s_pop1, PF.s_pop2, PF.s_whl, PF.s_wh1, PF.s_wh2, PF.s_wh3, PF.s_wh4, PF.s_nn, PF.s_nn1, PF.s_nnp, PF.s_nnn, PF.s_tol, PF.s_tol2, PF.s_tol3, PF.s_tup, PF.s_tup2, PF.s_len, PF.s_len2, PF.s_all, PF.at_pt, PF.at_pv, PF.g_s0, PF.g_s1, PF.g_sa, PF.s_sl, PF.s_sl1, PF.s_sl2, PF.s_sl3, PF.s_sl4, PF.s_sl5, PF.s_bn0, PF.s_bn1, PF.s_bn2, PF.s_bn3, PF.g_itn, PF.g_itp, PF.s_seti, PF.s_seti1, PF.s_seti2, PF.s_seti3, PF.s_seti4, PF.s_swp, PF.s_swp1, PF.s_swp2, PF.s_swp3, PF.s_sub, PF.s_sub1, PF.s_sub2, PF.s_sub3, PF.s_rev, PF.s_rev1, PF.s_rev2, PF.s_rev3, PF.s_isb, PF.s_isb1, PF.s_isb2, PF.s_isb3, PF.s_isb4, PF.g_catm, PF.g_catb, PF.g_cati, PF.g_cat2, PF.g_mapp, PF.g_map1, PF.g_mrev, PF.g_isib, PF.g_l0, PF.g_l1, PF.g_l2, PF.g_l3, PF.g_sm2, PF.g_sm3, PF.g_sm4, PF.g_r2, PF.g_r3, PF.g_r4, List.length_map, f23, b23, h3, PF.r_ch, PF.r_ch1, PF.r_ch2, PF.r_ch3, PF.r_ch4, PF.r_l0, PF.r_l1, PF.r_l2, PF.r_l3, PF.r_t2, PF.r_cat1, PF.r_cat2, PF.r_lis, PF.cmp_mv, PF.cmp_nmv]
def KT : Nat := 7
theorem top (ns : List Int) (_ : ns.length ≤ 63) (hb : ∀ z ∈ ns, intBits z ≤ 1048576) : callK Q (KT + 1) 24 [.lst (ns.map Tr.int)] = .ok (.im (.bl true)) := by
  obtain ⟨c0, e0, w0⟩ := cell hb 0 (by decide) (by decide)
  obtain ⟨c17, e17, w17⟩ := cell hb 17 (by decide) (by decide)
  have main : ∀ m, Sz m → ixE (.lst [.int 4, .int 6, .int 8, .int 10, .int 12]) (.int (c0 % 5)) = .ok (.int m) → callK Q (KT + 1) 24 [.lst (ns.map Tr.int)] = .ok (.im (.bl true)) := by
    intro m hm em
    obtain ⟨L, eL, oL, l2⟩ := llist hb hm
    obtain ⟨S, eS, hS, h3⟩ := lshape hb hm 1 (by decide) (by decide)
    obtain ⟨j, hj, ej⟩ := modN c17 (show 0 < L.length by omega)
    have l12 := oL.2
    have hj0 : (0 : Int) < L.length := by omega
    have f := frame (k := KT - 2) hm
    have d := ldue (k := KT - 3) hm oL
    have x1 := is_shape (k := KT - 5) hm oL
    have oR : OkS m (rot j L) := ⟨fun p hp => by
      rcases List.mem_append.mp hp with h | h
      · exact oL.1 p (List.mem_of_mem_drop h)
      · exact oL.1 p (List.mem_of_mem_take h), by rw [rot_len]; exact l12⟩
    have x2 := is_shape (k := KT - 5) hm oR
    rw [isS_rot hj] at x2
    unfold rot at x2
    have x3 := is_shape (k := KT - 5) hm (S := L.take 2) ⟨fun p hp => oL.1 p (List.mem_of_mem_take hp), by rw [List.length_take]; omega⟩
    rw [isS_few (by rw [List.length_take]; omega)] at x3
    have x4 := is_shape (k := KT - 5) hm (S := S) (OkS.of hS.2.1 hS.2.2.1 (by decide) (by have := hS.2.2.2; omega))
    rw [hS.1.isS h3 hS.2.2.2] at x4
    have cd := cut_dp (S := L) (k := j) (by omega)
    have ct := cut_tp (S := L) (k := j) (by omega)
    have c2 : cutT (L.map pt) none (some 2) = (L.take 2).map pt := cut_tp (S := L) (k := 2) (by omega)
    have z : PF.sizeOk ((L.drop j).length + (L.take j).length) = true := decide_eq_true (by rw [List.length_drop, List.length_take]; omega)
    rw [call_f (f := f24) rfl KT _ rfl]
    unfold KT at *
    simp -implicitDefEqProofs (maxSteps := 400000) (disch := (first | with_reducible assumption | (with_reducible apply PF.mulOk_of <;> (repeat' (first | with_reducible assumption | with_reducible (apply PyProof.Rows.bits_add) | with_reducible (apply PyProof.Rows.bits_sub) | with_reducible (apply PyProof.Rows.bits_mul) | with_reducible (apply PyProof.Rows.bits_neg) | with_reducible (apply PF.bits_div (by first | omega | decide +kernel)) | with_reducible (apply PF.bits_mod (by first | omega | decide +kernel)) | (with_reducible show _ + _ ≤ 134217728; decide +kernel) | exact Nat.le_refl _))) | ((with_reducible apply PF.lt_len); with_unfolding_all rfl) | omega | decide +kernel)) only [PF.opI_mul, PF.opI_mod, PF.opI_fdiv, PF.ixT0, PF.ixT1, PF.cmp_eq, PF.cmp_ne, PF.cmp_lt, PF.cmp_le, PF.cmp_gt, PF.cmp_ge, PF.cmp_t2, PF.cmp_n2, PF.cmp_tt2, PF.cmp_nt2, PF.isInsT, PF.q_lo, PF.q_s1, PF.q_s2, PF.q_non, PF.q_bl, PF.q_int, PF.q_str, PF.q_gl, PF.q_bin, PF.q_bin1, PF.q_bin2, PF.q_kI, PF.q_kB, PF.q_kIm, PF.q_kFz, PF.q_neg, PF.q_neg1, PF.q_not, PF.q_not1, PF.q_cmp, PF.q_cmp1, PF.q_cmp2, PF.q_isN, PF.q_isN1, PF.q_and, PF.q_and1, PF.q_and2, PF.q_or, PF.q_or1, PF.q_or2, PF.q_ite, PF.q_ite1, PF.q_ite2, PF.q_tup, PF.q_tup1, PF.q_tup2, PF.q_lst, PF.q_lst1, PF.q_lst2, PF.q_ix, PF.q_ix1, PF.q_ix2, PF.q_call, PF.q_call1, PF.q_meth, PF.q_meth1, PF.q_meth2, PF.q_meth3, PF.q_fld, PF.q_fld1, PF.q_blt, PF.q_blt1, PF.q_isi, PF.q_isi0, PF.q_vs0, PF.q_vs1, PF.q_vs2, PF.q_vs3, PF.q_vb0, PF.q_vb1, PF.q_vb2, PF.q_vb3, PF.q_itE, PF.q_itE1, PF.q_it1, PF.q_it2, PF.q_it3, PF.q_asg, PF.q_asg0, PF.q_nx, PF.q_par, PF.q_par1, PF.q_ret, PF.q_ret1, PF.q_retN, PF.q_iff, PF.q_iff1, PF.q_iff2, PF.q_for, PF.q_for1, PF.q_fg0, PF.q_fg1, PF.q_fb, PF.q_f1, PF.q_f2, PF.q_rse, PF.q_es0, PF.q_es1, PF.q_cn, PF.q_cr, PF.q_rk1, PF.q_rk2, PF.q_see1, PF.q_see2, PF.q_see3, PF.q_fz1, PF.q_fz2, PF.q_out1, PF.q_out2, PF.q_out3, PF.q_op, PF.q_add, PF.q_sub, PF.q_isi1, PF.q_isi2, PF.q_isi3, PF.q_isi4, PF.q_isi5, PF.q_asg1, PF.q_asg2, PF.q_put1, PF.q_put2, PF.q_bnm, PF.q_bt0, PF.q_bt1, PF.q_bt2, PF.q_tg1, PF.q_tg2, PF.q_its1, PF.q_its2, PF.q_len1, PF.q_len2, PF.q_bint, PF.q_fld0, PF.q_ctx, PF.q_cgl, PF.q_cwf, PF.q_size, List.map_cons, List.map_nil, Nat.reduceSub, Nat.sub_self, List.replicate, List.append_nil, List.cons_append, List.nil_append, List.length_cons, List.length_nil, List.getElem?_cons_zero, List.getElem?_cons_succ, List.set_cons_zero, List.set_cons_succ, Nat.reduceAdd, Nat.reduceLT, Nat.reduceLeDiff, Int.cast_ofNat_Int, Int.reduceEq, Int.reduceLT, Int.reduceLE, decide_true, decide_false, if_true, Bool.false_eq_true, if_false, Bool.not_true, Bool.not_false, Bool.and_true, Bool.true_and, Bool.or_true, Bool.or_false, Bool.and_self, ite_true, ite_false, PF.g_nu, PF.g_pt, PF.g_n0, PF.g_n1, PF.g_p0, PF.g_p1, PF.g_pi, PF.g_pa, PF.g_pb, PF.g_fi, PF.g_ff, PF.g_ce, PF.g_cn, PF.g_pe, PF.g_pn, PF.s_lc, PF.s_lc1, PF.s_lc2, PF.s_lc3, PF.s_fI, PF.s_fI1, PF.s_fI2, PF.s_fI3, PF.s_fI4, PF.s_ec0, PF.s_ec1, PF.s_ec2, PF.s_ec3, PF.s_lg0, PF.s_lg1, PF.s_lg2, PF.s_lg3, PF.s_lg4, PF.s_w0, PF.s_w1, PF.s_fre, PF.s_fre1, PF.s_fre2, PF.s_fre3, PF.s_app, PF.s_app1, PF.s_app2, PF.s_app3, PF.s_pop, PF.s_pop1, PF.s_pop2, PF.s_whl, PF.s_wh1, PF.s_wh2, PF.s_wh3, PF.s_wh4, PF.s_nn, PF.s_nn1, PF.s_nnp, PF.s_nnn, PF.s_tol, PF.s_tol2, PF.s_tol3, PF.s_tup, PF.s_tup2, PF.s_len, PF.s_len2, PF.s_all, PF.at_pt, PF.at_pv, PF.g_s0, PF.g_s1, PF.g_sa, PF.s_sl, PF.s_sl1, PF.s_sl2, PF.s_sl3, PF.s_sl4, PF.s_sl5, PF.s_bn0, PF.s_bn1, PF.s_bn2, PF.s_bn3, PF.g_itn, PF.g_itp, PF.s_seti, PF.s_seti1, PF.s_seti2, PF.s_seti3, PF.s_seti4, PF.s_swp, PF.s_swp1, PF.s_swp2, PF.s_swp3, PF.s_sub, PF.s_sub1, PF.s_sub2, PF.s_sub3, PF.s_rev, PF.s_rev1, PF.s_rev2, PF.s_rev3, PF.s_isb, PF.s_isb1, PF.s_isb2, PF.s_isb3, PF.s_isb4, PF.g_catm, PF.g_catb, PF.g_cati, PF.g_cat2, PF.g_mapp, PF.g_map1, PF.g_mrev, PF.g_isib, PF.g_l0, PF.g_l1, PF.g_l2, PF.g_l3, PF.g_sm2, PF.g_sm3, PF.g_sm4, PF.g_r2, PF.g_r3, PF.g_r4, List.length_map, f24, b24, e0, em, eL, d, e17, ej, cd, ct, z, f, x1, x2, PF.g_cbn, PF.g_self1, c2, x3, eS, x4]
  have r0 := Int.emod_nonneg c0 (show (5 : Int) ≠ 0 by decide)
  have r1 := Int.emod_lt_of_pos c0 (show (0 : Int) < 5 by decide)
  have : c0 % 5 = 0 ∨ c0 % 5 = 1 ∨ c0 % 5 = 2 ∨ c0 % 5 = 3 ∨ c0 % 5 = 4 := by omega
  rcases this with h | h | h | h | h
  · exact main 4 (.inl rfl) (by rw [h]; rfl)
  · exact main 6 (.inr (.inl rfl)) (by rw [h]; rfl)
  · exact main 8 (.inr (.inr (.inl rfl))) (by rw [h]; rfl)
  · exact main 10 (.inr (.inr (.inr (.inl rfl)))) (by rw [h]; rfl)
  · exact main 12 (.inr (.inr (.inr (.inr rfl)))) (by rw [h]; rfl)
end Zk10

open PySem PySem.W PyProof.Rows
set_option maxRecDepth 100000 in
set_option maxHeartbeats 0 in
theorem PySem.Challenge.cw_inflate_k10_what_is_a_shape_holds : PySem.Challenge.rw_inflate_k10_what_is_a_shape.Holds := by
  w_on; o_law; k_head; (case hw => w_witness2)
  k_fill
  refine L2.walk_ofB (l := PySem.Challenge.rw_inflate_k10_what_is_a_shape) (n := 63) (k := Zk10.KT + 1) (x := "_law_script") (CX := fun w => L2.CX PySem.Challenge.pw_inflate_k10_what_is_a_shape w) (sp := fun w => PF.spLaw _) rfl (by decide) rfl ⟨rfl, by decide, by decide⟩ (fun w h Y => PySem.W.kIn_of Y) ?F (fun _ _ a ns hl hb _ hS => ⟨a, ns, rfl, hS, hl, hb, fun _ => rfl⟩) (fun _ _ _ _ _ h => PF.noCX h)
  case F =>
    intro w mg fa h KX G hmg
    refine' Zk10.facts KX G hmg ?fx_xC0 ?fx_xI0 ?fx_iI0 ?fx_lI0 ?fx_cI0 ?fx_kI0 ?fx_pg0 ?fx_hd0 ?fx_po0 ?fx_sa0 ?fx_mk0 ?fx_kC0 ?fx_nf0_0 ?fx_x0 ?fx_l0 ?fx_c0 ?fx_k0_ ?fx_x1 ?fx_l1 ?fx_c1 ?fx_k1_ ?fx_x2 ?fx_l2 ?fx_c2 ?fx_k2_ ?fx_x3 ?fx_i3 ?fx_l3 ?fx_c3 ?fx_k3_ ?fx_x4 ?fx_i4 ?fx_l4 ?fx_c4 ?fx_k4_ ?fx_x5 ?fx_i5 ?fx_l5 ?fx_c5 ?fx_k5_ ?fx_x6 ?fx_i6 ?fx_l6 ?fx_c6 ?fx_k6_ ?fx_x7 ?fx_l7 ?fx_c7 ?fx_k7_ ?fx_x8 ?fx_l8 ?fx_c8 ?fx_k8_ ?fx_x9 ?fx_l9 ?fx_c9 ?fx_k9_ ?fx_x10 ?fx_l10 ?fx_c10 ?fx_k10_ ?fx_x11 ?fx_l11 ?fx_c11 ?fx_k11_ ?fx_x12 ?fx_l12 ?fx_c12 ?fx_k12_ ?fx_x13 ?fx_l13 ?fx_c13 ?fx_k13_ ?fx_x14 ?fx_l14 ?fx_c14 ?fx_k14_ ?fx_x15 ?fx_l15 ?fx_c15 ?fx_k15_ ?fx_x16 ?fx_l16 ?fx_c16 ?fx_k16_ ?fx_x17 ?fx_l17 ?fx_c17 ?fx_k17_ ?fx_x18 ?fx_l18 ?fx_c18 ?fx_k18_ ?fx_x19 ?fx_l19 ?fx_c19 ?fx_k19_ ?fx_x20 ?fx_l20 ?fx_c20 ?fx_k20_ ?fx_x21 ?fx_l21 ?fx_c21 ?fx_k21_ ?fx_x22 ?fx_l22 ?fx_c22 ?fx_k22_ ?fx_x23 ?fx_l23 ?fx_c23 ?fx_k23_ ?fx_x24 ?fx_l24 ?fx_c24 ?fx_k24_ ?fx_lq1 ?fx_g0 ?fx_lq8 ?fx_lq11 ?fx_lq14 ?fx_lq17 ?fx_lq20 ?fx_lq7 ?fx_g1 ?fx_lq23 ?fx_g2 ?fx_xE0 ?fx_eE0 ?fx_kE0 ?fx_bE0 ?fx_tE0 ?fx_z0 ?fx_z1 ?fx_z2 ?fx_z3 ?fx_z4 ?fx_z5 ?fx_z6 ?fx_z7 ?fx_z8 ?fx_z9 ?fx_z10 ?fx_z11 ?fx_z12 ?fx_z13 Zk10.KT Zk10.top
    (case fx_xC0 => k_is)
    (case fx_xI0 => k_is)
    (case fx_iI0 => k_is)
    (case fx_lI0 => k_is)
    (case fx_cI0 => k_is)
    (case fx_kI0 => k_is)
    (case fx_pg0 => k_is)
    (case fx_hd0 => k_is)
    (case fx_po0 => k_is)
    (case fx_sa0 => k_is)
    (case fx_mk0 => k_is)
    (case fx_kC0 => k_is)
    (case fx_nf0_0 => k_is)
    (case fx_x0 => k_is)
    (case fx_l0 => k_is)
    (case fx_c0 => k_is)
    (case fx_k0_ => k_is)
    (case fx_x1 => k_is)
    (case fx_l1 => k_is)
    (case fx_c1 => k_is)
    (case fx_k1_ => k_is)
    (case fx_x2 => k_is)
    (case fx_l2 => k_is)
    (case fx_c2 => k_is)
    (case fx_k2_ => k_is)
    (case fx_x3 => k_is)
    (case fx_i3 => k_is)
    (case fx_l3 => k_is)
    (case fx_c3 => k_is)
    (case fx_k3_ => k_is)
    (case fx_x4 => k_is)
    (case fx_i4 => k_is)
    (case fx_l4 => k_is)
    (case fx_c4 => k_is)
    (case fx_k4_ => k_is)
    (case fx_x5 => k_is)
    (case fx_i5 => k_is)
    (case fx_l5 => k_is)
    (case fx_c5 => k_is)
    (case fx_k5_ => k_is)
    (case fx_x6 => k_is)
    (case fx_i6 => k_is)
    (case fx_l6 => k_is)
    (case fx_c6 => k_is)
    (case fx_k6_ => k_is)
    (case fx_x7 => k_is)
    (case fx_l7 => k_is)
    (case fx_c7 => k_is)
    (case fx_k7_ => k_is)
    (case fx_x8 => k_is)
    (case fx_l8 => k_is)
    (case fx_c8 => k_is)
    (case fx_k8_ => k_is)
    (case fx_x9 => k_is)
    (case fx_l9 => k_is)
    (case fx_c9 => k_is)
    (case fx_k9_ => k_is)
    (case fx_x10 => k_is)
    (case fx_l10 => k_is)
    (case fx_c10 => k_is)
    (case fx_k10_ => k_is)
    (case fx_x11 => k_is)
    (case fx_l11 => k_is)
    (case fx_c11 => k_is)
    (case fx_k11_ => k_is)
    (case fx_x12 => k_is)
    (case fx_l12 => k_is)
    (case fx_c12 => k_is)
    (case fx_k12_ => k_is)
    (case fx_x13 => k_is)
    (case fx_l13 => k_is)
    (case fx_c13 => k_is)
    (case fx_k13_ => k_is)
    (case fx_x14 => k_is)
    (case fx_l14 => k_is)
    (case fx_c14 => k_is)
    (case fx_k14_ => k_is)
    (case fx_x15 => k_is)
    (case fx_l15 => k_is)
    (case fx_c15 => k_is)
    (case fx_k15_ => k_is)
    (case fx_x16 => k_is)
    (case fx_l16 => k_is)
    (case fx_c16 => k_is)
    (case fx_k16_ => k_is)
    (case fx_x17 => k_is)
    (case fx_l17 => k_is)
    (case fx_c17 => k_is)
    (case fx_k17_ => k_is)
    (case fx_x18 => k_is)
    (case fx_l18 => k_is)
    (case fx_c18 => k_is)
    (case fx_k18_ => k_is)
    (case fx_x19 => k_is)
    (case fx_l19 => k_is)
    (case fx_c19 => k_is)
    (case fx_k19_ => k_is)
    (case fx_x20 => k_is)
    (case fx_l20 => k_is)
    (case fx_c20 => k_is)
    (case fx_k20_ => k_is)
    (case fx_x21 => k_is)
    (case fx_l21 => k_is)
    (case fx_c21 => k_is)
    (case fx_k21_ => k_is)
    (case fx_x22 => k_is)
    (case fx_l22 => k_is)
    (case fx_c22 => k_is)
    (case fx_k22_ => k_is)
    (case fx_x23 => k_is)
    (case fx_l23 => k_is)
    (case fx_c23 => k_is)
    (case fx_k23_ => k_is)
    (case fx_x24 => k_is)
    (case fx_l24 => k_is)
    (case fx_c24 => k_is)
    (case fx_k24_ => k_is)
    (case fx_g0 => k_is)
    (case fx_g1 => k_is)
    (case fx_g2 => k_is)
    (case fx_xE0 => k_is)
    (case fx_eE0 => first | k_is | k_exc)
    (case fx_kE0 => k_is)
    (case fx_bE0 => k_is)
    (case fx_tE0 => k_is)
    (case fx_z0 => k_is)
    (case fx_z1 => k_is)
    (case fx_z2 => k_is)
    (case fx_z3 => k_is)
    (case fx_z4 => k_is)
    (case fx_z5 => k_is)
    (case fx_z6 => k_is)
    (case fx_z7 => k_is)
    (case fx_z8 => k_is)
    (case fx_z9 => k_is)
    (case fx_z10 => k_is)
    (case fx_z11 => k_is)
    (case fx_z12 => k_is)
    (case fx_z13 => k_is)
    (case fx_lq1 => k_is)
    (case fx_lq7 => k_is)
    (case fx_lq8 => k_is)
    (case fx_lq11 => k_is)
    (case fx_lq14 => k_is)
    (case fx_lq17 => k_is)
    (case fx_lq20 => k_is)
    (case fx_lq23 => k_is)
