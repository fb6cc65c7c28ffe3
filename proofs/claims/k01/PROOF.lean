import PyProof.Rows.All
import HandS.ForMost
import HandS.ExcIs
import HandS.ForExc
import HandS.Wide
import KE.DataMinMax
import HandS.TupAny
import HandS.IsInst
import HandS.AnyAll
import HandS.Style
import HandS.EndBits
import KE.RegKIsAll
import KE.RegKTryMore
import PySem.Challenge.RW_inflate_k01_a_frame
set_option Elab.async false
set_option linter.all false
set_option maxRecDepth 100000
namespace PF
open PySem PySem.Spec PyProof.Rows L2

/-! ### trees -/
inductive Tr where
  | non | bl (b : Bool) | int (i : Int) | str (x : Str) | tup (xs : List Tr) | lst (xs : List Tr) | ins (c : Nat) (fs : List Tr) | dct (ks : List Int) (vs : List Tr) | raw (a : Addr) | err (c : Nat) | hd
/-- outcomes -/
inductive Oc (α : Type) where
  | ok (a : α) | ex (c : Nat) | no
@[inline] def Oc.bind {α β : Type} : Oc α → (α → Oc β) → Oc β
  | .ok a, f => f a
  | .ex c, _ => .ex c
  | .no, _ => .no
instance : Monad Oc where
  pure := .ok
  bind := Oc.bind
@[simp] theorem Oc.ok_bind {α β : Type} (a : α) (f : α → Oc β) : (Oc.ok a >>= f) = f a := rfl
@[simp] theorem Oc.ex_bind {α β : Type} (c : Nat) (f : α → Oc β) : (Oc.ex c >>= f) = Oc.ex c := rfl
@[simp] theorem Oc.no_bind {α β : Type} (f : α → Oc β) : (Oc.no >>= f) = Oc.no := rfl
@[simp] theorem Oc.pure_eq {α : Type} (a : α) : (pure a : Oc α) = Oc.ok a := rfl
/-- results: a value; a new list of one's own; a list that stands at a name -/
inductive Rs where
  | im (t : Tr) | ow (xs : List Tr) | br (xs : List Tr)
def Rs.fz : Rs → Oc Tr
  | .im t => .ok t
  | .ow xs => .ok (.lst xs)
  | .br _ => .no
inductive Sl where
  | un | im (t : Tr) | ow (xs : List Tr)

structure Uni where
  K : PySem.W.Frag
  w : World
  cls : Nat → Addr
  flds : Nat → List Str
  exc : Nat → Addr

/-- a written dict with int keys -/
inductive IntE : List DictEntry → List Int → List V → Prop
  | nil : IntE [] [] []
  | cons {k : Int} {t : Tok} {u : Value} {v : V} {es : List DictEntry} {ks : List Int} {vs : List V} : RelV v u → IntE es ks vs → IntE (⟨hashInt k, .int k t, u⟩ :: es) (k :: ks) (v :: vs)
def KDi (U : Uni) (a : Addr) (ks : List Int) (vs : List V) : Prop := ∃ es n, U.K.lookup a = some ⟨.type "dict", none, .dict es n, #[]⟩ ∧ IntE es.toList ks vs

/-- what is known of a caught error at a, its class at D -/
def errP (a D : Addr) : Heap → Prop := fun h => ∃ oe, PySem.W.InstAt h a oe D none
mutual
inductive Rep (U : Uni) (G : Hp) : V → Tr → Prop
  | non : Rep U G .non .non
  | bl (b : Bool) : Rep U G (.bl b) (.bl b)
  | int (i : Int) : Rep U G (.int i) (.int i)
  | str (x : Str) : Rep U G (.str x) (.str x)
  | tup {a : Addr} {vs : List V} {ts : List Tr} : SqT U.K G a vs → RepL U G vs ts → Rep U G (.ref a) (.tup ts)
  | lst {a : Addr} {vs : List V} {ts : List Tr} : SqL U.K G a vs → RepL U G vs ts → Rep U G (.ref a) (.lst ts)
  | ins {a dx : Addr} {c : Nat} {vs : List V} {ts : List Tr} : G a = some (.ins (U.cls c) dx ((U.flds c).zip vs)) → vs.length = (U.flds c).length → RepL U G vs ts → Rep U G (.ref a) (.ins c ts)
  | raw (a : Addr) : Rep U G (.ref a) (.raw a)
  | err {a : Addr} {c : Nat} : G a = some (.ext (errP a (U.exc c))) → Rep U G (.ref a) (.err c)
  | hd {a : Addr} {kvs : List (Key × V)} : G a = some (.dK kvs) → Rep U G (.ref a) .hd
  | dct {a : Addr} {ks : List Int} {vs : List V} {ts : List Tr} : KDi U a ks vs → ks.length = vs.length → RepL U G vs ts → Rep U G (.ref a) (.dct ks ts)
inductive RepL (U : Uni) (G : Hp) : List V → List Tr → Prop
  | nil : RepL U G [] []
  | cons {v : V} {vs : List V} {t : Tr} {ts : List Tr} : Rep U G v t → RepL U G vs ts → RepL U G (v :: vs) (t :: ts)
end

theorem sqT_mono {K : PySem.W.Frag} {G G' : Hp} (g : Same G G') {a : Addr} {xs : List V} (h : SqT K G a xs) : SqT K G' a xs := by
  rcases h with (h | ⟨o, h⟩) | h
  · exact .inl (.inl (g _ _ h))
  · exact .inl (.inr ⟨o, g _ _ h⟩)
  · exact .inr h
theorem rd_mono {G G' : Hp} (g : Same G G') {a : Addr} {o : HO} (h : Rd G a o) : Rd G' a o := by
  rcases h with h | ⟨o, h⟩
  · exact .inl (g _ _ h)
  · exact .inr ⟨o, g _ _ h⟩
theorem sqL_mono {K : PySem.W.Frag} {G G' : Hp} (g : Same G G') {a : Addr} {xs : List V} (h : SqL K G a xs) : SqL K G' a xs := g.seq h
mutual
theorem Rep.mono {U : Uni} {G G' : Hp} (g : Same G G') : ∀ {v : V} {t : Tr}, Rep U G v t → Rep U G' v t
  | _, _, .non => .non
  | _, _, .bl b => .bl b
  | _, _, .int i => .int i
  | _, _, .str x => .str x
  | _, _, .raw a => .raw a
  | _, _, .err h => .err (g _ _ h)
  | _, _, .hd h => .hd (g _ _ h)
  | _, _, .tup h r => .tup (sqT_mono g h) (RepL.mono g r)
  | _, _, .lst h r => .lst (sqL_mono g h) (RepL.mono g r)
  | _, _, .ins h l r => .ins (g _ _ h) l (RepL.mono g r)
  | _, _, .dct h l r => .dct h l (RepL.mono g r)
theorem RepL.mono {U : Uni} {G G' : Hp} (g : Same G G') : ∀ {vs : List V} {ts : List Tr}, RepL U G vs ts → RepL U G' vs ts
  | _, _, .nil => .nil
  | _, _, .cons h r => .cons (Rep.mono g h) (RepL.mono g r)
end
theorem RepL.length {U : Uni} {G : Hp} : ∀ {vs : List V} {ts : List Tr}, RepL U G vs ts → vs.length = ts.length
  | _, _, .nil => rfl
  | _, _, .cons _ r => by rw [List.length_cons, List.length_cons, RepL.length r]
theorem RepL.get {U : Uni} {G : Hp} : ∀ {vs : List V} {ts : List Tr} {i : Nat} {t : Tr}, RepL U G vs ts → ts[i]? = some t → ∃ v, vs[i]? = some v ∧ Rep U G v t
  | _, _, _, _, .nil, h => by simp at h
  | _, _, 0, _, .cons r _, h => by simp at h; subst h; exact ⟨_, rfl, r⟩
  | _, _, i + 1, _, .cons _ r, h => by
    obtain ⟨v, h1, h2⟩ := RepL.get (i := i) r (by simpa using h)
    exact ⟨v, by simpa using h1, h2⟩
theorem RepL.get' {U : Uni} {G : Hp} : ∀ {vs : List V} {ts : List Tr} {i : Nat} {v : V}, RepL U G vs ts → vs[i]? = some v → ∃ t, ts[i]? = some t ∧ Rep U G v t
  | _, _, _, _, .nil, h => by simp at h
  | _, _, 0, _, .cons r _, h => by simp at h; subst h; exact ⟨_, rfl, r⟩
  | _, _, i + 1, _, .cons _ r, h => by
    obtain ⟨v, h1, h2⟩ := RepL.get' (i := i) r (by simpa using h)
    exact ⟨v, by simpa using h1, h2⟩
theorem RepL.append {U : Uni} {G : Hp} : ∀ {vs ws : List V} {ts us : List Tr}, RepL U G vs ts → RepL U G ws us → RepL U G (vs ++ ws) (ts ++ us)
  | _, _, _, _, .nil, s => s
  | _, _, _, _, .cons r t, s => .cons r (RepL.append t s)
theorem RepL.take {U : Uni} {G : Hp} : ∀ {vs : List V} {ts : List Tr} (n : Nat), RepL U G vs ts → RepL U G (vs.take n) (ts.take n)
  | _, _, 0, _ => .nil
  | _, _, _ + 1, .nil => .nil
  | _, _, n + 1, .cons r t => .cons r (RepL.take n t)
theorem RepL.drop {U : Uni} {G : Hp} : ∀ {vs : List V} {ts : List Tr} (n : Nat), RepL U G vs ts → RepL U G (vs.drop n) (ts.drop n)
  | _, _, 0, r => r
  | _, _, _ + 1, .nil => .nil
  | _, _, n + 1, .cons _ t => RepL.drop n t
theorem RepL.set {U : Uni} {G : Hp} {v : V} {t : Tr} (r : Rep U G v t) : ∀ {vs : List V} {ts : List Tr} (n : Nat), RepL U G vs ts → RepL U G (vs.set n v) (ts.set n t)
  | _, _, _, .nil => .nil
  | _, _, 0, .cons _ t => .cons r t
  | _, _, n + 1, .cons q t => .cons q (RepL.set r n t)
theorem RepL.reverse {U : Uni} {G : Hp} : ∀ {vs : List V} {ts : List Tr}, RepL U G vs ts → RepL U G vs.reverse ts.reverse
  | _, _, .nil => .nil
  | _, _, .cons r t => by
    rw [List.reverse_cons, List.reverse_cons]
    exact RepL.append (RepL.reverse t) (.cons r .nil)
theorem RepL.cut {U : Uni} {G : Hp} {vs : List V} {ts : List Tr} (r : RepL U G vs ts) (lo hi : Option Int) : RepL U G (cutV vs lo hi) ((ts.drop (HT.sIx ts.length 0 lo)).take (HT.sIx ts.length ts.length hi - HT.sIx ts.length 0 lo)) := by
  unfold cutV
  rw [r.length]
  exact (r.drop _).take _

/-! ### data of trees -/
mutual
def Tr.toD : Tr → Option PyData
  | .non => some .none
  | .bl b => some (.bool b)
  | .int i => some (.int i)
  | .str x => if PyData.strOk x then some (.str x) else none
  | .tup xs => (Tr.toDs xs).map .tuple
  | .lst xs => (Tr.toDs xs).map .list
  | .ins _ _ => none
  | .dct _ _ => none
  | .raw _ => none
  | .err _ => none
  | .hd => none
def Tr.toDs : List Tr → Option (List PyData)
  | [] => some []
  | t :: ts => (Tr.toD t).bind fun d => (Tr.toDs ts).map fun ds => d :: ds
end
mutual
theorem Rep.dp {U : Uni} {G H : Hp} (g : Same G H) : ∀ {t : Tr} {v : V} {d : PyData}, Rep U G v t → t.toD = some d → Dp U.K H v d
  | _, _, _, .non, h => by simp only [Tr.toD, Option.some.injEq] at h; subst h; exact .non
  | _, _, _, .bl b, h => by simp only [Tr.toD, Option.some.injEq] at h; subst h; exact .bl b
  | _, _, _, .int i, h => by simp only [Tr.toD, Option.some.injEq] at h; subst h; exact .int i
  | _, _, _, .str x, h => by
    simp only [Tr.toD] at h
    split at h
    · cases h; exact .str x
    · cases h
  | _, _, _, .tup hs r, h => by
    simp only [Tr.toD, Option.map_eq_some_iff] at h
    obtain ⟨ds, h1, rfl⟩ := h
    exact .tup (sqT_mono g hs) (RepL.dp g r h1)
  | _, _, _, .lst hs r, h => by
    simp only [Tr.toD, Option.map_eq_some_iff] at h
    obtain ⟨ds, h1, rfl⟩ := h
    exact .lst (sqL_mono g hs) (RepL.dp g r h1)
  | _, _, _, .ins _ _ _, h => by simp only [Tr.toD] at h; cases h
  | _, _, _, .dct _ _ _, h => by simp only [Tr.toD] at h; cases h
  | _, _, _, .raw _, h => by simp only [Tr.toD] at h; cases h
  | _, _, _, .err _, h => by simp only [Tr.toD] at h; cases h
  | _, _, _, .hd _, h => by simp only [Tr.toD] at h; cases h
theorem RepL.dp {U : Uni} {G H : Hp} (g : Same G H) : ∀ {ts : List Tr} {vs : List V} {ds : List PyData}, RepL U G vs ts → Tr.toDs ts = some ds → DpAll U.K H vs ds
  | _, _, _, .nil, h => by simp only [Tr.toDs, Option.some.injEq] at h; subst h; exact .nil
  | _, _, _, .cons r rr, h => by
    simp only [Tr.toDs, Option.bind_eq_some_iff, Option.map_eq_some_iff] at h
    obtain ⟨d, h1, ds, h2, rfl⟩ := h
    exact .cons (Rep.dp g r h1) (RepL.dp g rr h2)
end
/-- a == b -/
def Tr.eq (a b : Tr) : Oc Bool :=
  match a.toD, b.toD with
  | some d, some e => if SeqAt.shaped d && SeqAt.shaped e then .ok (PyData.eqv d e) else .no
  | _, _ => .no

/-! ### growing -/
structure Grow (G H G' H' : Hp) : Prop where
  gg : Same G G'
  gh : Same G' H'
  keep : ∀ a o, G a = none → H a = some o → H' a = some o
  new : ∀ a, G a = none → H a ≠ none → G' a = none
theorem Grow.refl {G H : Hp} (s : Same G H) : Grow G H G H := ⟨Same.refl _, s, fun _ _ _ h => h, fun _ h _ => h⟩
theorem Grow.same {G H G1 H1 : Hp} (s : Same G H) (a : Grow G H G1 H1) : Same H H1 := fun x o h => by
  cases e : G x with
  | none => exact a.keep x o e h
  | some u =>
    have e2 := s x u e
    rw [h] at e2
    cases e2
    exact a.gh x o (a.gg x o e)
theorem Grow.trans {G H G1 H1 G2 H2 : Hp} (a : Grow G H G1 H1) (b : Grow G1 H1 G2 H2) : Grow G H G2 H2 where
  gg := a.gg.trans b.gg
  gh := b.gh
  keep := fun x o hg hh => b.keep x o (a.new x hg (by rw [hh]; simp)) (a.keep x o hg hh)
  new := fun x hg hh => by
    cases e : H x with
    | none => exact absurd e hh
    | some o => exact b.new x (a.new x hg hh) (by rw [a.keep x o hg e]; simp)
/-- nothing goes -/
theorem Grow.there {G H G' H' : Hp} (s : Same G H) (g : Grow G H G' H') {a : Addr} (h : H' a = none) : H a = none := by
  cases e : H a with
  | none => rfl
  | some o =>
    cases e2 : G a with
    | none => rw [g.keep a o e2 e] at h; cases h
    | some o' => rw [g.gh a o' (g.gg a o' e2)] at h; cases h
/-- a new object, ghosted -/
theorem Grow.made {G H : Hp} (s : Same G H) {p : Addr} {o : HO} (hp : H p = none) : Grow G H (upd G p o) (upd H p o) where
  gg := fun b u e => by
    have : b ≠ p := fun z => by subst z; rw [s _ _ e] at hp; cases hp
    rw [upd_ne this]; exact e
  gh := fun b u e => by
    by_cases z : b = p
    · subst z; rw [upd_same] at e; rw [upd_same]; exact e
    · rw [upd_ne z] at e; rw [upd_ne z]; exact s _ _ e
  keep := fun a o _ h => by
    have : a ≠ p := fun z => by subst z; rw [h] at hp; cases hp
    rw [upd_ne this]; exact h
  new := fun a hg hh => by
    have : a ≠ p := fun z => by subst z; exact hh hp
    rw [upd_ne this]; exact hg
/-- a new object, not ghosted -/
theorem Grow.made0 {G H : Hp} (s : Same G H) {p : Addr} {o : HO} (hp : H p = none) : Grow G H G (upd H p o) where
  gg := Same.refl _
  gh := fun b u e => by
    have : b ≠ p := fun z => by subst z; rw [s _ _ e] at hp; cases hp
    rw [upd_ne this]; exact s _ _ e
  keep := fun a o _ h => by
    have : a ≠ p := fun z => by subst z; rw [h] at hp; cases hp
    rw [upd_ne this]; exact h
  new := fun a hg _ => hg
/-- ghost what stands new -/
theorem Grow.ghost {G H G' H' : Hp} (g : Grow G H G' H') {p : Addr} {o : HO} (h0 : H p = none) (h2 : H' p = some o) (h1 : G' p = none) : Grow G H (upd G' p o) H' where
  gg := fun b u e => by
    have : b ≠ p := fun z => by subst z; rw [g.gg _ _ e] at h1; cases h1
    rw [upd_ne this]; exact g.gg _ _ e
  gh := fun b u e => by
    by_cases z : b = p
    · subst z; rw [upd_same] at e; rw [h2]; exact e
    · rw [upd_ne z] at e; exact g.gh _ _ e
  keep := g.keep
  new := fun a hg hh => by
    have : a ≠ p := fun z => by subst z; exact hh h0
    rw [upd_ne this]; exact g.new a hg hh
theorem ghost_same {G : Hp} {p : Addr} {o : HO} (h : G p = none) : Same G (upd G p o) := fun b u e => by
  have : b ≠ p := fun z => by subst z; rw [e] at h; cases h
  rw [upd_ne this]; exact e

/-- what a result is: from H on -/
def RsOk (U : Uni) (B G' H' H : Hp) (v : V) : Rs → Prop
  | .im t => Rep U G' v t
  | .ow xs => ∃ p vs, v = .ref p ∧ H p = none ∧ G' p = none ∧ H' p = some (.lst vs) ∧ RepL U G' vs xs
  | .br xs => ∃ p vs, v = .ref p ∧ B p = none ∧ G' p = none ∧ H' p = some (.lst vs) ∧ RepL U G' vs xs
theorem RsOk.later {U : Uni} {B G H G1 H1 G2 H2 : Hp} {v : V} {r : Rs} (s : Same G H) (g1 : Grow G H G1 H1) (g : Grow G1 H1 G2 H2) (h : RsOk U B G1 H1 H v r) : RsOk U B G2 H2 H v r := by
  cases r with
  | im t => exact Rep.mono g.gg h
  | ow xs =>
    obtain ⟨p, vs, e, hp, hg, hh, r⟩ := h
    exact ⟨p, vs, e, hp, g.new p hg (by rw [hh]; simp), g.keep p _ hg hh, r.mono g.gg⟩
  | br xs =>
    obtain ⟨p, vs, e, hp, hg, hh, r⟩ := h
    exact ⟨p, vs, e, hp, g.new p hg (by rw [hh]; simp), g.keep p _ hg hh, r.mono g.gg⟩
/-- seen from an earlier heap -/
theorem RsOk.from {U : Uni} {B G H G1 H1 G2 H2 : Hp} {v : V} {r : Rs} (s : Same G H) (g1 : Grow G H G1 H1) (h : RsOk U B G2 H2 H1 v r) : RsOk U B G2 H2 H v r := by
  cases r with
  | im t => exact h
  | ow xs =>
    obtain ⟨p, vs, e, hp, hg, hh, r⟩ := h
    exact ⟨p, vs, e, g1.there s hp, hg, hh, r⟩
  | br xs => exact h

/-! ### the slots -/
def SlOk (U : Uni) (B G H : Hp) (x : Option (Option V)) : Sl → Prop
  | .un => True
  | .im t => ∃ v, x = some (some v) ∧ Rep U G v t
  | .ow xs => ∃ p vs, x = some (some (.ref p)) ∧ B p = none ∧ G p = none ∧ H p = some (.lst vs) ∧ RepL U G vs xs
structure EnvOk (U : Uni) (B G H : Hp) (env : List Sl) (σ : L2.St) : Prop where
  sub : Same G H
  old : ∀ a, H a = none → B a = none
  len : σ.length = env.length
  rep : ∀ (i : Nat) (s : Sl), env[i]? = some s → SlOk U B G H σ[i]? s
  sep : ∀ (i j : Nat) (xs ys : List Tr) (p : Addr), env[i]? = some (.ow xs) → env[j]? = some (.ow ys) → σ[i]? = some (some (V.ref p)) → σ[j]? = some (some (V.ref p)) → i = j
theorem SlOk.later {U : Uni} {B G H G1 H1 : Hp} {x : Option (Option V)} {s : Sl} (g : Grow G H G1 H1) (h : SlOk U B G H x s) : SlOk U B G1 H1 x s := by
  cases s with
  | un => trivial
  | im t => obtain ⟨v, e, r⟩ := h; exact ⟨v, e, r.mono g.gg⟩
  | ow xs =>
    obtain ⟨p, vs, e, b, hg, hh, r⟩ := h
    exact ⟨p, vs, e, b, g.new p hg (by rw [hh]; simp), g.keep p _ hg hh, r.mono g.gg⟩
theorem EnvOk.later {U : Uni} {B G H G1 H1 : Hp} {env : List Sl} {σ : L2.St} (h : EnvOk U B G H env σ) (g : Grow G H G1 H1) : EnvOk U B G1 H1 env σ :=
  ⟨g.gh, fun a e => h.old a (g.there h.sub e), h.len, fun i s e => (h.rep i s e).later g, h.sep⟩

/-! ### readings -/
def Post (U : Uni) (W : WX) (B : Hp) (o : Oc Rs) (G H : Hp) (σ : L2.St) (Q : VK) : Prop :=
  match o with
  | .no => False
  | .ex c => ∀ G' H', Grow G H G' H' → W (.ref (U.exc c)) none σ H'
  | .ok r => ∀ v G' H', Grow G H G' H' → RsOk U B G' H' H v r → Q v H'
def PostT (U : Uni) (W : WX) (o : Oc Tr) (G H : Hp) (σ : L2.St) (Q : V → Hp → Hp → Prop) : Prop :=
  match o with
  | .no => False
  | .ex c => ∀ G' H', Grow G H G' H' → W (.ref (U.exc c)) none σ H'
  | .ok t => ∀ v G' H', Grow G H G' H' → Rep U G' v t → Q v G' H'
def tR (U : Uni) (W : WX) (B : Hp) (r : List Sl → Oc Rs) : TE := fun σ H Q => ∃ G env, EnvOk U B G H env σ ∧ Post U W B (r env) G H σ Q
def tTr (U : Uni) (W : WX) (B : Hp) (r : List Sl → Oc Tr) : TE := fun σ H Q => ∃ G env, EnvOk U B G H env σ ∧ PostT U W (r env) G H σ fun v G' H' => Q v H'
def tBo (U : Uni) (W : WX) (B : Hp) (r : List Sl → Oc Bool) : TT := fun σ H Q => ∃ G env, EnvOk U B G H env σ ∧
  match r env with
  | .no => False
  | .ex c => ∀ G' H', Grow G H G' H' → W (.ref (U.exc c)) none σ H'
  | .ok b => ∀ G' H', Grow G H G' H' → Q b H'
def PostL (U : Uni) (W : WX) (o : Oc (List Tr)) (G H : Hp) (σ : L2.St) (Q : List V → Hp → Prop) : Prop :=
  match o with
  | .no => False
  | .ex c => ∀ G' H', Grow G H G' H' → W (.ref (U.exc c)) none σ H'
  | .ok ts => ∀ vs G' H', Grow G H G' H' → RepL U G' vs ts → Q vs H'
def tAr (U : Uni) (W : WX) (B : Hp) (r : List Sl → Oc (List Tr)) : TA := fun σ H Q => ∃ G env, EnvOk U B G H env σ ∧ PostL U W (r env) G H σ Q

theorem PE.weak {X : Cx} {e : Expr} {t t' : TE} (h : PE X e t) (hw : ∀ σ H Q, t' σ H Q → t σ H Q) : PE X e t' := ⟨fun pins s σ H Q I q => h.run pins s σ H Q I (hw _ _ _ q)⟩
theorem PT.weak {X : Cx} {e : Expr} {t t' : TT} (h : PT X e t) (hw : ∀ σ H Q, t' σ H Q → t σ H Q) : PT X e t' := ⟨fun pins s σ H Q I q => h.run pins s σ H Q I (hw _ _ _ q)⟩
theorem PW.weak {X : Cx} {e : Expr} {t t' : TT} (h : PW X e t) (hw : ∀ σ H Q, t' σ H Q → t σ H Q) : PW X e t' := ⟨fun whole pins s σ H Q I q => h.run whole pins s σ H Q I (hw _ _ _ q)⟩
theorem PA.weak {X : Cx} {es : List Expr} {t t' : TA} (h : PA X es t) (hw : ∀ σ H Q, t' σ H Q → t σ H Q) : PA X es t' := ⟨fun pos pins s σ H Q I q => h.run pos pins s σ H Q I (hw _ _ _ q)⟩
theorem PS.weak {X : Cx} {st : Stmt} {t t' : TS} (h : PS X st t) (hw : ∀ D σ H, t' D σ H → t D σ H) : PS X st t' := ⟨fun pins s σ H D I q => h.run pins s σ H D I (hw _ _ _ q)⟩
theorem PSs.weak {X : Cx} {st : List Stmt} {t t' : TS} (h : PSs X st t) (hw : ∀ D σ H, t' D σ H → t D σ H) : PSs X st t' := ⟨fun pins s σ H D I q => h.run pins s σ H D I (hw _ _ _ q)⟩

section
variable {U : Uni} {W : WX} {B : Hp}
/-- freezing -/
theorem tR_fz {r : List Sl → Oc Rs} {σ : L2.St} {H : Hp} {Q : VK} (h : tTr U W B (fun env => r env >>= Rs.fz) σ H Q) : tR U W B r σ H Q := by
  obtain ⟨G, env, I, h⟩ := h
  refine ⟨G, env, I, ?_⟩
  unfold Post
  have h : PostT U W (r env >>= Rs.fz) G H σ fun v G' H' => Q v H' := h
  cases e : r env with
  | no => rw [e] at h; exact h
  | ex c => rw [e] at h; exact h
  | ok x =>
    rw [e] at h
    intro v G' H' g k
    cases x with
    | im t => exact h v G' H' g k
    | ow xs =>
      obtain ⟨p, vs, rfl, hp, hg, hh, rr⟩ := k
      exact h _ _ _ (g.ghost hp hh hg) (.lst (.inl (.inl upd_same)) (rr.mono (ghost_same hg)))
    | br xs => exact False.elim h
theorem pe_fz {X : Cx} {e : Expr} {r : List Sl → Oc Rs} (h : PE X e (tR U W B r)) : PE X e (tTr U W B fun env => r env >>= Rs.fz) := PE.weak h fun _ _ _ q => tR_fz q
/-- a frozen reading, then more -/
theorem tTr_bind {r : List Sl → Oc Tr} {G H : Hp} {env : List Sl} {σ : L2.St} {Q : VK} (I : EnvOk U B G H env σ)
    (h : PostT U W (r env) G H σ fun v G' H' => Q v H') : tTr U W B r σ H Q := ⟨G, env, I, h⟩
end
end PF

namespace PF
open PySem PySem.Spec PyProof.Rows L2

/-! ### a small syntax -/
inductive Op where | add | sub | mul | fdiv | mod | pow | band | shr
  deriving DecidableEq
inductive CO where | eq | ne | lt | le | gt | ge
  deriving DecidableEq
inductive Bl where | len | abs | int | max2 | min2 | list | tuple | sum | min1 | max1 | all | any
  deriving DecidableEq
inductive Ty where | int | bool | tuple | list | str
  deriving DecidableEq
inductive Tg where | nm (i : Nat) | tp (is : List Nat)
mutual
inductive Ex where
  | lo (i : Nat) | non | bl (b : Bool) | int (i : Int) | str (x : Str) | gl (g : Nat)
  | bin (o : Op) (a b : Ex) | neg (a : Ex) | not (a : Ex)
  | cmp (o : CO) (a b : Ex) | isN (a : Ex) | notN (a : Ex) | isin (neg : Bool) (a b : Ex)
  | chain (o o' : CO) (a b c : Ex)
  | rev (a : Ex) | isB (n b : Bool) (a : Ex)
  | and (a b : Ex) | or (a b : Ex) | ite (c a b : Ex)
  | tup (es : List Ex) | lst (es : List Ex)
  | ix (a b : Ex) | sl (a lo hi : Ex)
  | call (f : Nat) (es : List Ex) | meth (f c : Nat) (o : Ex) (es : List Ex) | fld (c j : Nat) (o : Ex)
  | blt (b : Bl) (es : List Ex)
  | isi (a : Ex) (t : Ty)
  | isx (a : Ex) (tb : List (Nat × Bool)) | isxs (a : Ex) (tbs : List (List (Nat × Bool)))
  | dsp (kvs : List (Int × Int))
  | lc (tg : Tg) (it : Ii) (cs : List Ex) (e : Ex) (own : List Nat)
inductive Ii where
  | ex (e : Ex) | rng1 (a : Ex) | rng2 (a b : Ex)
end
inductive Sm where
  | asg (tg : Tg) (e : Ex) | par (i j : Nat) (a b : Ex) | fre (i : Nat) | app (i : Nat) (e : Ex) | seti (i : Nat) (k e : Ex)
  | ret (e : Ex) | retN | iff (c : Ex) (a b : List Sm) | for_ (tg : Tg) (it : Ii) (b : List Sm) | whl (c : Ex) (b : List Sm)
  | pop (i : Nat) (e : Ex) | rvs (i : Nat) | clr (i : Nat) | swp (i : Nat) (k1 k2 e : Ex)
  | rse (c : Nat) | expr (e : Ex) | brk | cnt | pass
  | trk (b : Sm) (i k : Nat) (tb : List (Nat × Bool))

structure Ctx where
  call : Nat → List Tr → Oc Rs
  gl : Nat → Tr
  wf : Nat

/-! ### what it means -/
def isNonT : Tr → Bool
  | .non => true
  | _ => false
def Oc.noex {α : Type} : Oc α → Oc α
  | .ok a => .ok a
  | _ => .no
def Rs.see : Rs → Tr
  | .im t => t
  | .ow xs => .lst xs
  | .br xs => .lst xs
def oInt : Tr → Oc Int
  | .int i => .ok i
  | _ => .no
def oBool : Tr → Oc Bool
  | .bl b => .ok b
  | _ => .no
def mulOk (i j : Int) : Bool := decide (Builtin.Int.intBits i + Builtin.Int.intBits j ≤ 134217728)
def sizeOk (n : Nat) : Bool := decide (n ≤ 16777216)
def opI : Op → Int → Int → Oc Int
  | .add, i, j => .ok (i + j)
  | .sub, i, j => .ok (i - j)
  | .mul, i, j => if mulOk i j then .ok (i * j) else .no
  | .fdiv, i, j => if decide (0 < j) && decide (j.natAbs.log2 < 9000) then .ok (i / j) else .no
  | .mod, i, j => if decide (0 < j) then .ok (i % j) else .no
  | .pow, i, j => if decide (0 ≤ j) && decide (j ≤ 1000000) && decide (i.natAbs < 2 ^ 64) then .ok (i ^ j.toNat) else .no
  | .band, i, j => .ok (Builtin.bitAnd i j)
  | .shr, i, j => if decide (0 ≤ j) then .ok (i / 2 ^ j.toNat) else .no
def opE (o : Op) (a b : Rs) : Oc Rs :=
  match a.see, b.see with
  | .int i, .int j => (opI o i j) >>= fun k => .ok (.im (.int k))
  | .lst xs, .lst ys => if o = .add && sizeOk (xs.length + ys.length) then .ok (.ow (xs ++ ys)) else .no
  | .tup xs, .tup ys => if o = .add && sizeOk (xs.length + ys.length) && !xs.isEmpty then .ok (.im (.tup (xs ++ ys))) else .no
  | _, _ => .no
def cmpI : CO → Int → Int → Bool
  | .eq, i, j => decide (i = j)
  | .ne, i, j => !decide (i = j)
  | .lt, i, j => decide (i < j)
  | .le, i, j => decide (i ≤ j)
  | .gt, i, j => decide (j < i)
  | .ge, i, j => decide (j ≤ i)
def cmpE (o : CO) (a b : Tr) : Oc Bool :=
  match o with
  | .eq => a.eq b
  | .ne => (a.eq b) >>= fun x => .ok (!x)
  | _ => match a, b with
    | .int i, .int j => .ok (cmpI o i j)
    | _, _ => .no
def ixE (a b : Tr) : Oc Tr :=
  match a, b with
  | .tup xs, .int i => match atI xs i with
    | some t => .ok t
    | none => .no
  | .lst xs, .int i => match atI xs i with
    | some t => .ok t
    | none => .no
  | .dct ks vs, .int i => match (ks.zip vs).lookup i with
    | some t => .ok t
    | none => .no
  | _, _ => .no
def cutT (xs : List Tr) (lo hi : Option Int) : List Tr := (xs.drop (HT.sIx xs.length 0 lo)).take (HT.sIx xs.length xs.length hi - HT.sIx xs.length 0 lo)
def oPart : Tr → Oc (Option Int)
  | .non => .ok none
  | .int i => .ok (some i)
  | _ => .no
def slE (a : Tr) (lo hi : Option Int) : Oc Rs :=
  match a with
  | .lst xs => .ok (.ow (cutT xs lo hi))
  | .tup xs => .ok (.im (.tup (cutT xs lo hi)))
  | _ => .no
def revE : Tr → Oc Rs
  | .lst xs => .ok (.ow xs.reverse)
  | _ => .no
def isBE (n b : Bool) : Tr → Oc Rs
  | .bl k => .ok (.im (.bl (if n then !decide (k = b) else decide (k = b))))
  | _ => .no
def fldE (c j : Nat) : Tr → Oc Tr
  | .ins c' fs => if c = c' then match fs[j]? with
      | some t => .ok t
      | none => .no
    else .no
  | _ => .no
def asInts : List Tr → Oc (List Int)
  | [] => .ok []
  | t :: ts => oInt t >>= fun i => asInts ts >>= fun is => .ok (i :: is)
def asBools : List Tr → Oc (List Bool)
  | [] => .ok []
  | t :: ts => oBool t >>= fun i => asBools ts >>= fun is => .ok (i :: is)
def minL : List Int → Int
  | [] => 0
  | [x] => x
  | x :: xs => min x (minL xs)
def maxL : List Int → Int
  | [] => 0
  | [x] => x
  | x :: xs => max x (maxL xs)
def itemsOf : Tr → Oc (List Tr)
  | .lst xs => .ok xs
  | .tup xs => .ok xs
  | _ => .no
/-- a < b of plain data that are alike -/
def ltE (a b : Tr) : Oc Bool :=
  match a.toD, b.toD with
  | some d, some e => if PySem.W.alike d e && PySem.W.alike e d && (PySem.W.alike d d && PySem.W.alike e e) && (decide (d.depth ≤ 32) && decide (e.depth ≤ 32)) then .ok (PySem.W.dataLt d e) else .no
  | _, _ => .no
def bltE (b : Bl) (rs : List Rs) : Oc Rs :=
  match b, rs.map Rs.see with
  | .len, [t] => itemsOf t >>= fun xs => .ok (.im (.int (xs.length : Int)))
  | .abs, [.int i] => .ok (.im (.int (if i < 0 then -i else i)))
  | .int, [.int i] => .ok (.im (.int i))
  | .int, [.bl b] => .ok (.im (.int (if b then 1 else 0)))
  | .max2, [.int i, .int j] => .ok (.im (.int (if j > i then j else i)))
  | .min2, [.int i, .int j] => .ok (.im (.int (if j < i then j else i)))
  | .list, [t] => itemsOf t >>= fun xs => .ok (.ow xs)
  | .tuple, [t] => itemsOf t >>= fun xs => .ok (.im (.tup xs))
  | .sum, [.lst xs] => asInts xs >>= fun is => .ok (.im (.int is.sum))
  | .min1, [.lst xs] => asInts xs >>= fun is => if is.isEmpty then .no else .ok (.im (.int (minL is)))
  | .max1, [.lst xs] => asInts xs >>= fun is => if is.isEmpty then .no else .ok (.im (.int (maxL is)))
  | .all, [.lst xs] => asBools xs >>= fun is => .ok (.im (.bl (is.all id)))
  | .any, [.lst xs] => asBools xs >>= fun is => .ok (.im (.bl (is.any id)))
  | .min2, [.tup xs, .tup ys] => ltE (.tup ys) (.tup xs) >>= fun k => .ok (.im (if k = true then .tup ys else .tup xs))
  | .max2, [.tup xs, .tup ys] => ltE (.tup xs) (.tup ys) >>= fun k => .ok (.im (if k = true then .tup ys else .tup xs))
  | _, _ => .no
def isiE : Ty → Tr → Oc Bool
  | .int, .int _ => .ok true
  | .int, .bl _ => .ok true
  | .bool, .bl _ => .ok true
  | .tuple, .tup _ => .ok true
  | .list, .lst _ => .ok true
  | .str, .str _ => .ok true
  | _, .ins _ _ => .no
  | _, .dct _ _ => .no
  | _, .raw _ => .no
  | _, .err _ => .no
  | _, _ => .ok false
/-- isinstance of a caught error, of None; tb: the classes of errors -/
def isxE (tb : List (Nat × Bool)) : Tr → Oc Bool
  | .err c => match tb.lookup c with
    | some b => .ok b
    | none => .no
  | .non => .ok false
  | _ => .no
def isxsE : List (List (Nat × Bool)) → Tr → Oc Bool
  | [], _ => .ok false
  | tb :: tbs, t => isxE tb t >>= fun b => isxsE tbs t >>= fun b' => .ok (b || b')
def Tr.flat : Tr → Bool
  | .non => true | .bl _ => true | .int _ => true | .str _ => true | _ => false
def eqFlat : Tr → Tr → Bool
  | .non, .non => true
  | .bl a, .bl b => a == b
  | .bl a, .int j => (if a then 1 else 0) == j
  | .int i, .bl b => i == (if b then 1 else 0)
  | .int i, .int j => i == j
  | .str x, .str y => x == y
  | _, _ => false
/-- x in xs, plain data -/
def isinD (neg : Bool) (a b : Tr) : Oc Bool :=
  match a.toD, b.toD with
  | some d, some (.list ds) => if d.canLay0 && PyData.canLayAll0 ds && decide (d.depth ≤ 32) then .ok (if neg then !(ds.any fun y => PyData.eqv y d) else ds.any fun y => PyData.eqv y d) else .no
  | some d, some (.tuple ds) => if d.canLay0 && PyData.canLayAll0 ds && decide (d.depth ≤ 32) then .ok (if neg then !(ds.any fun y => PyData.eqv y d) else ds.any fun y => PyData.eqv y d) else .no
  | _, _ => .no
def isinE (neg : Bool) (a b : Tr) : Oc Bool :=
  itemsOf b >>= fun xs => if a.flat && xs.all Tr.flat then .ok (if neg then !(xs.any fun y => eqFlat y a) else xs.any fun y => eqFlat y a) else isinD neg a b
def bindNm (env : List Sl) (i : Nat) (t : Tr) : Oc (List Sl) := if decide (i < env.length) then .ok (env.set i (.im t)) else .no
def bindTp : List Nat → List Tr → List Sl → Oc (List Sl)
  | [], [], env => .ok env
  | i :: is, t :: ts, env => bindNm env i t >>= fun env' => bindTp is ts env'
  | _, _, _ => .no
def bindTg : Tg → Tr → List Sl → Oc (List Sl)
  | .nm i, t, env => bindNm env i t
  | .tp is, .tup ts, env => if is.length = ts.length then bindTp is ts env else .no
  | _, _, _ => .no
def wipeE (env : List Sl) : List Nat → List Sl
  | [] => env
  | v :: vs => (wipeE env vs).set v .un
def lcGo (f : Tr → Oc (Option Tr)) : List Tr → Oc (List Tr)
  | [] => .ok []
  | x :: xs => f x >>= fun o => lcGo f xs >>= fun ys => .ok (match o with
    | some y => y :: ys
    | none => ys)
def rangeT (lo n : Int) : List Tr := (List.range n.toNat).map fun (k : Nat) => Tr.int (lo + (k : Int))
def smallI (i : Int) : Bool := decide (-(2 ^ 62) ≤ i) && decide (i < 2 ^ 62)
def slotR : Option Sl → Oc Rs
  | some (.im t) => .ok (.im t)
  | some (.ow xs) => .ok (.br xs)
  | _ => .no
/-- an answer of a call that another list's holder may keep -/
def Rs.atom : Rs → Bool
  | .im t => t.flat
  | _ => false
def Rs.isBr : Rs → Bool
  | .br _ => true
  | _ => false
def isIns (c : Nat) : Tr → Bool
  | .ins c' _ => c == c'
  | _ => false
def Ex.isNon : Ex → Bool
  | .non => true
  | _ => false
mutual
def ev (C : Ctx) : Ex → List Sl → Oc Rs
  | .lo i, env => slotR env[i]?
  | .non, _ => .ok (.im .non)
  | .bl b, _ => .ok (.im (.bl b))
  | .int i, _ => .ok (.im (.int i))
  | .str x, _ => .ok (.im (.str x))
  | .gl g, _ => .ok (.im (C.gl g))
  | .bin o a b, env => ev C a env >>= fun x => ev C b env >>= fun y => opE o x y
  | .neg a, env => ev C a env >>= fun x => oInt x.see >>= fun i => .ok (.im (.int (-i)))
  | .not a, env => ev C a env >>= fun x => oBool x.see >>= fun b => .ok (.im (.bl (!b)))
  | .cmp o a b, env => ev C a env >>= fun x => ev C b env >>= fun y => cmpE o x.see y.see >>= fun b => .ok (.im (.bl b))
  | .isN a, env => ev C a env >>= fun x => .ok (.im (.bl (isNonT x.see)))
  | .notN a, env => ev C a env >>= fun x => .ok (.im (.bl (!isNonT x.see)))
  | .isin n a b, env => ev C a env >>= fun x => ev C b env >>= fun y => isinE n x.see y.see >>= fun b => .ok (.im (.bl b))
  | .chain o o' a b c, env => ev C a env >>= fun x => ev C b env >>= fun y => cmpE o x.see y.see >>= fun k =>
      if k then ev C c env >>= fun z => cmpE o' y.see z.see >>= fun k' => .ok (.im (.bl k')) else .ok (.im (.bl false))
  | .rev a, env => ev C a env >>= fun x => revE x.see
  | .isB n b a, env => ev C a env >>= fun x => isBE n b x.see
  | .and a b, env => ev C a env >>= fun x => oBool x.see >>= fun k => if k then ev C b env else .ok (.im (.bl false))
  | .or a b, env => ev C a env >>= fun x => oBool x.see >>= fun k => if k then .ok (.im (.bl true)) else ev C b env
  | .ite c a b, env => ev C c env >>= fun x => oBool x.see >>= fun k => if k then ev C a env else ev C b env
  | .tup es, env => evs C es env >>= fun ts => if sizeOk ts.length then .ok (.im (.tup ts)) else .no
  | .lst es, env => evs C es env >>= fun ts => if sizeOk ts.length then .ok (.ow ts) else .no
  | .ix a b, env => ev C a env >>= fun x => ev C b env >>= fun y => ixE x.see y.see >>= fun t => .ok (.im t)
  | .sl a lo hi, env => ev C a env >>= fun x => (if lo.isNon then .ok none else ev C lo env >>= fun l => oInt l.see >>= fun i => .ok (some i)) >>= fun l' =>
      (if hi.isNon then .ok none else ev C hi env >>= fun l => oInt l.see >>= fun i => .ok (some i)) >>= fun h' => slE x.see l' h'
  | .call f es, env => evs C es env >>= fun ts => C.call f ts
  | .meth f c o es, env => ev C o env >>= Rs.fz >>= fun t => if isIns c t then evs C es env >>= fun ts => C.call f (t :: ts) else .no
  | .fld c j o, env => ev C o env >>= fun x => fldE c j x.see >>= fun t => .ok (.im t)
  | .blt b es, env => evb C es env >>= fun ts => bltE b ts
  | .isi a t, env => ev C a env >>= fun x => isiE t x.see >>= fun b => .ok (.im (.bl b))
  | .isx a tb, env => ev C a env >>= fun x => isxE tb x.see >>= fun b => .ok (.im (.bl b))
  | .isxs a tbs, env => ev C a env >>= fun x => isxsE tbs x.see >>= fun b => .ok (.im (.bl b))
  | .dsp _, _ => .ok (.im .hd)
  | .lc tg it cs e own, env => evIt C it env >>= fun xs => (lcGo (fun x => (bindTg tg x (wipeE env own) >>= fun env' => evc C cs env' >>= fun k =>
      if k then ev C e env' >>= Rs.fz >>= fun y => .ok (some y) else .ok none).noex) xs) >>= fun ys => if sizeOk (xs.length + 1) then .ok (.ow ys) else .no
def evs (C : Ctx) : List Ex → List Sl → Oc (List Tr)
  | [], _ => .ok []
  | e :: es, env => ev C e env >>= Rs.fz >>= fun t => evs C es env >>= fun ts => .ok (t :: ts)
/-- arguments that are looked at alone -/
def evb (C : Ctx) : List Ex → List Sl → Oc (List Rs)
  | [], _ => .ok []
  | e :: es, env => ev C e env >>= fun r => evb C es env >>= fun ts => .ok (r :: ts)
def evc (C : Ctx) : List Ex → List Sl → Oc Bool
  | [], _ => .ok true
  | e :: es, env => ev C e env >>= fun x => oBool x.see >>= fun k => if k then evc C es env else .ok false
def evIt (C : Ctx) : Ii → List Sl → Oc (List Tr)
  | .ex e, env => ev C e env >>= Rs.fz >>= itemsOf
  | .rng1 a, env => ev C a env >>= fun x => oInt x.see >>= fun n => if smallI n then .ok (rangeT 0 n) else .no
  | .rng2 a b, env => ev C a env >>= fun x => ev C b env >>= fun y => oInt x.see >>= fun lo => oInt y.see >>= fun n => if smallI lo && smallI n then .ok (rangeT lo (n - lo)) else .no
end

/-! ### statements -/
inductive Fl where
  | nx (env : List Sl) | rt (r : Rs) | bk (env : List Sl) | ct (env : List Sl)
def forGo (f : Tr → List Sl → Oc Fl) : List Tr → List Sl → Oc Fl
  | [], env => .ok (.nx env)
  | x :: xs, env => f x env >>= fun
    | .nx e => forGo f xs e
    | .ct e => forGo f xs e
    | .bk e => .ok (.nx e)
    | .rt r => .ok (.rt r)
def whlGo (c : List Sl → Oc Bool) (f : List Sl → Oc Fl) : Nat → List Sl → Oc Fl
  | 0, _ => .no
  | n + 1, env => c env >>= fun k => if k then f env >>= fun
      | .nx e => whlGo c f n e
      | .ct e => whlGo c f n e
      | .bk e => .ok (.nx e)
      | .rt r => .ok (.rt r)
    else .ok (.nx env)
/-- into a slot -/
def putR (i : Nat) (r : Rs) (env : List Sl) : Oc (List Sl) :=
  if decide (i < env.length) then match r with
    | .im t => .ok (env.set i (.im t))
    | .ow xs => .ok (env.set i (.ow xs))
    | .br _ => .no
  else .no
def asgR : Tg → Rs → List Sl → Oc (List Sl)
  | .nm i, r, env => putR i r env
  | .tp is, .im (.tup ts), env => if is.length = ts.length then bindTp is ts env else .no
  | _, _, _ => .no
def Rs.out : Rs → Rs
  | .br xs => .ow xs
  | r => r
def slotO (env : List Sl) (i : Nat) : Oc (List Tr) :=
  match env[i]? with
  | some (.ow xs) => .ok xs
  | _ => .no
def setT (xs : List Tr) (k : Int) (t : Tr) : Oc (List Tr) :=
  match ixN xs.length k with
  | some j => .ok (xs.set j t)
  | none => .no
def popT (xs : List Tr) : Tr → Oc (List Tr)
  | .int j => if smallI j && decide (0 ≤ j) && decide (j < xs.length) then .ok (xs.eraseIdx j.toNat) else .no
  | _ => .no
/-- one place of an own list set anew -/
def subO (rk : List Sl → Oc Rs) (i : Nat) (t : Tr) (env : List Sl) : Oc (List Sl) :=
  slotO env i >>= fun xs => (rk env).noex >>= fun z => oInt z.see >>= fun j => setT xs j t >>= fun ys => .ok (env.set i (.ow ys))
def swpO (rk1 rk2 : List Sl → Oc Rs) (i : Nat) (x : Rs) (env : List Sl) : Oc Fl :=
  match x with
  | .im (.tup [a, b]) => subO rk1 i a env >>= fun e1 => subO rk2 i b e1 >>= fun e2 => .ok (.nx e2)
  | _ => .no
/-- an error caught and kept in slot k; i: the name of the except clause -/
def trkR (i k : Nat) (tb : List (Nat × Bool)) (env : List Sl) : Oc Fl → Oc Fl
  | .ex c => match tb.lookup c with
    | some true => .ok (.nx ((env.set k (.im (.err c))).set i .un))
    | some false => .ex c
    | none => .no
  | o => o
mutual
def exec (C : Ctx) : Sm → List Sl → Oc Fl
  | .asg tg e, env => ev C e env >>= fun r => asgR tg r env >>= fun env' => .ok (.nx env')
  | .par i j a b, env => evs C [a, b] env >>= fun ts => bindTp [i, j] ts env >>= fun env' => .ok (.nx env')
  | .fre i, env => match env[i]? with
    | some (.ow xs) => .ok (.nx (env.set i (.im (.lst xs))))
    | _ => .ok (.nx env)
  | .app i e, env => slotO env i >>= fun xs => ev C e env >>= Rs.fz >>= fun t => if sizeOk (xs.length + 1) then .ok (.nx (env.set i (.ow (xs ++ [t])))) else .no
  | .seti i k e, env => slotO env i >>= fun xs => ev C e env >>= Rs.fz >>= fun t => ev C k env >>= fun r => oInt r.see >>= fun j => setT xs j t >>= fun ys => .ok (.nx (env.set i (.ow ys)))
  | .pop i e, env => slotO env i >>= fun xs => ev C e env >>= Rs.fz >>= fun t => popT xs t >>= fun ys => .ok (.nx (env.set i (.ow ys)))
  | .rvs i, env => slotO env i >>= fun xs => .ok (.nx (env.set i (.ow xs.reverse)))
  | .clr i, env => slotO env i >>= fun _ => .ok (.nx (env.set i (.ow [])))
  | .swp i k1 k2 e, env => ev C e env >>= fun x => swpO (ev C k1) (ev C k2) i x env
  | .ret e, env => ev C e env >>= fun r => .ok (.rt r.out)
  | .retN, _ => .ok (.rt (.im .non))
  | .iff c a b, env => ev C c env >>= fun x => oBool x.see >>= fun k => if k then execs C a env else execs C b env
  | .for_ tg it b, env => evIt C it env >>= fun xs => forGo (fun x e => bindTg tg x e >>= fun e' => execs C b e') xs env
  | .whl c b, env => whlGo (fun e => ev C c e >>= fun x => oBool x.see) (fun e => execs C b e) C.wf env
  | .rse c, _ => .ex c
  | .expr e, env => ev C e env >>= fun _ => .ok (.nx env)
  | .brk, env => .ok (.bk env)
  | .cnt, env => .ok (.ct env)
  | .pass, env => .ok (.nx env)
  | .trk b i k tb, env => trkR i k tb env (exec C b env)
def execs (C : Ctx) : List Sm → List Sl → Oc Fl
  | [], env => .ok (.nx env)
  | s :: ss, env => exec C s env >>= fun
    | .nx e => execs C ss e
    | f => .ok f
end

/-! ### a whole program -/
structure Fn where
  np : Nat
  ns : Nat
  body : List Sm
def runFn (C : Ctx) (f : Fn) (ts : List Tr) : Oc Rs :=
  if ts.length = f.np then execs C f.body (ts.map Sl.im ++ List.replicate (f.ns - f.np) Sl.un) >>= fun
    | .rt r => .ok r.out
    | .nx _ => .ok (.im .non)
    | _ => .no
  else .no
/-- a def of the text, or a function of one's own (a class's making) -/
inductive Def where
  | fn (f : Fn) | nat (d : Nat) (g : List Tr → Oc Rs)
structure Pg where
  defs : Nat → Option Def
  gl : Nat → Tr
  wf : Nat
def callK (P : Pg) : Nat → Nat → List Tr → Oc Rs
  | 0, _, _ => .no
  | k + 1, i, ts => match P.defs i with
    | some (.fn f) => runFn ⟨callK P k, P.gl, P.wf⟩ f ts
    | some (.nat d g) => if d ≤ k + 1 then g ts >>= fun r => .ok r.out else .no
    | none => .no
def Pg.ctx (P : Pg) (k : Nat) : Ctx := ⟨callK P k, P.gl, P.wf⟩
end PF

namespace PF
open PySem PySem.Spec PyProof.Rows L2

section
variable {U : Uni} {W : WX} {B : Hp}
theorem RsOk.seen {G H H0 : Hp} {v : V} {r : Rs} (s : Same G H) (h : RsOk U B G H H0 v r) : Rep U H v r.see := by
  cases r with
  | im t => exact Rep.mono s h
  | ow xs =>
    obtain ⟨p, vs, rfl, _, _, hh, rr⟩ := h
    exact .lst (.inl (.inl hh)) (rr.mono s)
  | br xs =>
    obtain ⟨p, vs, rfl, _, _, hh, rr⟩ := h
    exact .lst (.inl (.inl hh)) (rr.mono s)
/-- the items of a list, of a tuple -/
theorem RsOk.list {G H H0 : Hp} {v : V} {r : Rs} {xs : List Tr} (s : Same G H) (h : RsOk U B G H H0 v r) (e : r.see = .lst xs) : ∃ a vs, v = .ref a ∧ SqL U.K H a vs ∧ RepL U G vs xs := by
  cases r with
  | im t =>
    have e : t = .lst xs := e
    subst e
    cases h with
    | lst h1 h2 => exact ⟨_, _, rfl, sqL_mono s h1, h2⟩
  | ow ys =>
    cases e
    obtain ⟨p, vs, rfl, _, _, hh, rr⟩ := h
    exact ⟨_, _, rfl, .inl (.inl hh), rr⟩
  | br ys =>
    cases e
    obtain ⟨p, vs, rfl, _, _, hh, rr⟩ := h
    exact ⟨_, _, rfl, .inl (.inl hh), rr⟩
theorem RsOk.tuple {G H H0 : Hp} {v : V} {r : Rs} {xs : List Tr} (s : Same G H) (h : RsOk U B G H H0 v r) (e : r.see = .tup xs) : r = .im (.tup xs) ∧ ∃ a vs, v = .ref a ∧ SqT U.K G a vs ∧ SqT U.K H a vs ∧ RepL U G vs xs := by
  cases r with
  | im t =>
    have e : t = .tup xs := e
    subst e
    refine ⟨rfl, ?_⟩
    cases h with
    | tup h1 h2 => exact ⟨_, _, rfl, h1, sqT_mono s h1, h2⟩
  | ow ys => cases e
  | br ys => cases e
theorem RsOk.int {G H H0 : Hp} {v : V} {r : Rs} {i : Int} (h : RsOk U B G H H0 v r) (e : r.see = .int i) : v = .int i := by
  cases r with
  | im t =>
    have e : t = .int i := e
    subst e
    cases h; rfl
  | ow ys => cases e
  | br ys => cases e
theorem RsOk.bl {G H H0 : Hp} {v : V} {r : Rs} {i : Bool} (h : RsOk U B G H H0 v r) (e : r.see = .bl i) : v = .bl i := by
  cases r with
  | im t =>
    have e : t = .bl i := e
    subst e
    cases h; rfl
  | ow ys => cases e
  | br ys => cases e
theorem oInt_ok {t : Tr} {i : Int} (h : oInt t = .ok i) : t = .int i := by
  cases t <;> simp [oInt] at h
  rw [h]
theorem oInt_ex {t : Tr} {c : Nat} : oInt t ≠ .ex c := by cases t <;> simp [oInt]
theorem oBool_ok {t : Tr} {i : Bool} (h : oBool t = .ok i) : t = .bl i := by
  cases t <;> simp [oBool] at h
  rw [h]
theorem oBool_ex {t : Tr} {c : Nat} : oBool t ≠ .ex c := by cases t <;> simp [oBool]

/-! ### readings joined -/
/-- one part -/
theorem tR_one {ra : List Sl → Oc Rs} {f : Rs → Oc Rs} {σ : L2.St} {H : Hp} {Q Q' : VK}
    (h : tR U W B (fun env => ra env >>= f) σ H Q)
    (hex : ∀ x c, f x ≠ .ex c)
    (hop : ∀ G H1 v x z, Same G H1 → RsOk U B G H1 H v x → f x = .ok z → (∀ u G' H', Grow G H1 G' H' → RsOk U B G' H' H1 u z → Q u H') → Q' v H1) : tR U W B ra σ H Q' := by
  obtain ⟨G, env, I, h⟩ := h
  refine ⟨G, env, I, ?_⟩
  have h : Post U W B (ra env >>= f) G H σ Q := h
  unfold Post
  cases e : ra env with
  | no => rw [e] at h; exact h
  | ex c => rw [e] at h; exact h
  | ok x =>
    rw [e, Oc.ok_bind] at h
    intro v G1 H1 g1 k1
    cases e2 : f x with
    | no => rw [e2] at h; exact h.elim
    | ex c => exact absurd e2 (hex x c)
    | ok z =>
      rw [e2] at h
      exact hop G1 H1 v x z g1.gh k1 e2 fun u G' H' g k => h u G' H' (g1.trans g) (k.from I.sub g1)
/-- one part, then a reading -/
theorem tR_then {ra : List Sl → Oc Rs} {f : Rs → List Sl → Oc Rs} {σ : L2.St} {H : Hp} {Q Q' : VK}
    (h : tR U W B (fun env => ra env >>= fun x => f x env) σ H Q)
    (hop : ∀ G H1 v x, Same G H1 → RsOk U B G H1 H v x → tR U W B (f x) σ H1 Q → Q' v H1) : tR U W B ra σ H Q' := by
  obtain ⟨G, env, I, h⟩ := h
  refine ⟨G, env, I, ?_⟩
  have h : Post U W B (ra env >>= fun x => f x env) G H σ Q := h
  unfold Post
  cases e : ra env with
  | no => rw [e] at h; exact h
  | ex c => rw [e] at h; exact h
  | ok x =>
    rw [e, Oc.ok_bind] at h
    intro v G1 H1 g1 k1
    refine hop G1 H1 v x g1.gh k1 ⟨G1, env, I.later g1, ?_⟩
    unfold Post at h ⊢
    cases e2 : f x env with
    | no => rw [e2] at h; exact h
    | ex c => rw [e2] at h; exact fun G' H' g => h G' H' (g1.trans g)
    | ok z => rw [e2] at h; exact fun u G' H' g k => h u G' H' (g1.trans g) (k.from I.sub g1)
/-- two parts -/
theorem tR_two {ra rb : List Sl → Oc Rs} {f : Rs → Rs → Oc Rs} {σ : L2.St} {H : Hp} {Q : VK} {R : V → V → Hp → Prop}
    (h : tR U W B (fun env => ra env >>= fun x => rb env >>= fun y => f x y) σ H Q)
    (hex : ∀ x y c, f x y ≠ .ex c)
    (hop : ∀ G H2 v w x y z, Same G H2 → RsOk U B G H2 H v x → RsOk U B G H2 H w y → f x y = .ok z → (∀ u G' H', Grow G H2 G' H' → RsOk U B G' H' H2 u z → Q u H') → R v w H2) :
    tR U W B ra σ H fun v H1 => tR U W B rb σ H1 fun w H2 => R v w H2 := by
  obtain ⟨G, env, I, h⟩ := h
  refine ⟨G, env, I, ?_⟩
  have h : Post U W B (ra env >>= fun x => rb env >>= fun y => f x y) G H σ Q := h
  unfold Post
  cases e : ra env with
  | no => rw [e] at h; exact h
  | ex c => rw [e] at h; exact h
  | ok x =>
    rw [e, Oc.ok_bind] at h
    intro v G1 H1 g1 k1
    refine ⟨G1, env, I.later g1, ?_⟩
    unfold Post at h ⊢
    cases e2 : rb env with
    | no => rw [e2] at h; exact h
    | ex c => rw [e2] at h; exact fun G' H' g => h G' H' (g1.trans g)
    | ok y =>
      rw [e2, Oc.ok_bind] at h
      intro w G2 H2 g2 k2
      have g12 := g1.trans g2
      cases e3 : f x y with
      | no => rw [e3] at h; exact h.elim
      | ex c => exact absurd e3 (hex x y c)
      | ok z =>
        rw [e3] at h
        exact hop G2 H2 v w x y z g2.gh (k1.later I.sub g1 g2) (k2.from I.sub g1) e3 fun u G' H' g k => h u G' H' (g12.trans g) (k.from I.sub g12)
/-- a truth of a reading -/
def asB (r : List Sl → Oc Rs) : List Sl → Oc Bool := fun env => r env >>= fun x => oBool x.see
theorem tBo_bl {r : List Sl → Oc Rs} {σ : L2.St} {H : Hp} {Q : Bool → Hp → Prop} (h : tBo U W B (asB r) σ H Q) : tR U W B r σ H fun x H' => ∃ k, x = .bl k ∧ Q k H' := by
  obtain ⟨G, env, I, h⟩ := h
  refine ⟨G, env, I, ?_⟩
  unfold asB at h
  unfold Post
  cases e : r env with
  | no => rw [e] at h; exact h
  | ex c => rw [e] at h; exact h
  | ok x =>
    rw [e, Oc.ok_bind] at h
    intro v G1 H1 g1 k1
    cases e2 : oBool x.see with
    | no => rw [e2] at h; exact h.elim
    | ex c => exact absurd e2 oBool_ex
    | ok k =>
      rw [e2] at h
      exact ⟨k, k1.bl (oBool_ok e2), h G1 H1 g1⟩

/-! ### expressions -/
variable {X : Cx}
theorem cb_lo {i : Nat} {x : Str} {pos : Pos} (hN : X.N[i]? = some x) (hv : Vis X.env.scope x) (hd : (x == ("__debug__" : Str)) = false) (hcd : (x == ("__classdict__" : Str)) = false) :
    PE X (.Name x pos) (tR U W B fun env => slotR env[i]?) := by
  refine PE.weak (pe_var hN hv hd hcd) fun σ H Q h => ?_
  obtain ⟨G, env, I, h⟩ := h
  have hr := I.rep i
  have h : Post U W B (slotR env[i]?) G H σ Q := h
  show ∃ v, σ[i]? = some (some v) ∧ Q v H
  cases e : env[i]? with
  | none => rw [e] at h; exact h.elim
  | some s =>
    have q := hr s e
    rw [e] at h
    cases s with
    | un => exact h.elim
    | im t =>
      obtain ⟨v, h1, h2⟩ := q
      exact ⟨v, h1, h v G H (Grow.refl I.sub) h2⟩
    | ow xs =>
      obtain ⟨p, vs, h1, h2, h3, h4, h5⟩ := q
      exact ⟨_, h1, h _ G H (Grow.refl I.sub) ⟨p, vs, rfl, h2, h3, h4, h5⟩⟩
theorem cb_ct {e : Expr} {v : V} {t : Tr} (h : PE X e (tC v)) (r : ∀ G, Rep U G v t) : PE X e (tR U W B fun _ => .ok (.im t)) :=
  PE.weak h fun σ H Q ⟨G, env, I, h⟩ => h v G H (Grow.refl I.sub) (r G)
theorem cb_un {op : UnaryOp} {a : Expr} {pos : Pos} {ra : List Sl → Oc Rs} (ha : PE X a (tR U W B ra)) : PE X (.UnaryOp .USub a pos) (tR U W B fun env => ra env >>= fun x => oInt x.see >>= fun i => .ok (.im (.int (-i)))) :=
  PE.weak (pe_un un_neg ha) fun σ H Q h => tR_one h (fun x c => by cases e : oInt x.see <;> simp [e] <;> exact fun z => oInt_ex (z ▸ e)) fun G H1 v x z s k e q => by
    cases e2 : oInt x.see with
    | no => rw [e2] at e; cases e
    | ex c => rw [e2] at e; cases e
    | ok i =>
      rw [e2] at e
      cases e
      exact ⟨i, k.int (oInt_ok e2), q _ G H1 (Grow.refl s) (Rep.int _)⟩
theorem cb_not {a : Expr} {pos : Pos} {ra : List Sl → Oc Rs} (ha : PE X a (tR U W B ra)) : PE X (.UnaryOp .Not a pos) (tR U W B fun env => ra env >>= fun x => oBool x.see >>= fun i => .ok (.im (.bl (!i)))) :=
  PE.weak (pe_not ha) fun σ H Q h => tR_one h (fun x c => by cases e : oBool x.see <;> simp [e] <;> exact fun z => oBool_ex (z ▸ e)) fun G H1 v x z s k e q => by
    cases e2 : oBool x.see with
    | no => rw [e2] at e; cases e
    | ex c => rw [e2] at e; cases e
    | ok i =>
      rw [e2] at e
      cases e
      exact ⟨i, k.bl (oBool_ok e2), q _ G H1 (Grow.refl s) (Rep.bl _)⟩
theorem cb_and {a b : Expr} {rest : List Expr} {pos : Pos} {ra rb : List Sl → Oc Rs} (ha : PE X a (tR U W B ra)) (hb : PE X (.BoolOp .And (b :: rest) pos) (tR U W B rb)) :
    PE X (.BoolOp .And (a :: b :: rest) pos) (tR U W B fun env => ra env >>= fun x => oBool x.see >>= fun k => if k then rb env else .ok (.im (.bl false))) :=
  PE.weak (pe_and ha hb) fun σ H Q h => tR_then (f := fun x env => oBool x.see >>= fun k => if k then rb env else .ok (.im (.bl false))) h fun G H1 v x s k q => by
    cases e2 : oBool x.see with
    | no => simp only [e2, Oc.no_bind] at q; obtain ⟨_, _, _, q⟩ := q; exact q.elim
    | ex c => exact absurd e2 oBool_ex
    | ok i =>
      simp only [e2, Oc.ok_bind] at q
      refine ⟨i, k.bl (oBool_ok e2), ?_⟩
      cases i with
      | true => exact q
      | false =>
        obtain ⟨G2, env, I, q⟩ := q
        exact q _ G2 H1 (Grow.refl I.sub) (Rep.bl _)
theorem cb_or {a b : Expr} {rest : List Expr} {pos : Pos} {ra rb : List Sl → Oc Rs} (ha : PE X a (tR U W B ra)) (hb : PE X (.BoolOp .Or (b :: rest) pos) (tR U W B rb)) :
    PE X (.BoolOp .Or (a :: b :: rest) pos) (tR U W B fun env => ra env >>= fun x => oBool x.see >>= fun k => if k then .ok (.im (.bl true)) else rb env) :=
  PE.weak (pe_or ha hb) fun σ H Q h => tR_then (f := fun x env => oBool x.see >>= fun k => if k then .ok (.im (.bl true)) else rb env) h fun G H1 v x s k q => by
    cases e2 : oBool x.see with
    | no => simp only [e2, Oc.no_bind] at q; obtain ⟨_, _, _, q⟩ := q; exact q.elim
    | ex c => exact absurd e2 oBool_ex
    | ok i =>
      simp only [e2, Oc.ok_bind] at q
      refine ⟨i, k.bl (oBool_ok e2), ?_⟩
      cases i with
      | false => exact q
      | true =>
        obtain ⟨G2, env, I, q⟩ := q
        exact q _ G2 H1 (Grow.refl I.sub) (Rep.bl _)
/-! tests -/
theorem cb_tval {e : Expr} {r : List Sl → Oc Rs} (h : PE X e (tR U W B r)) (he : ∀ whole, isTrue e X.env whole = (do let v ← whole; standAt e.pos; holding [v] (truthy v))) : PT X e (tBo U W B (asB r)) :=
  PT.weak (pt_val h he) fun σ H Q h => tBo_bl h
theorem tBo_then {ra : List Sl → Oc Bool} {f : Bool → List Sl → Oc Bool} {σ : L2.St} {H : Hp} {Q Q' : Bool → Hp → Prop}
    (h : tBo U W B (fun env => ra env >>= fun x => f x env) σ H Q)
    (hop : ∀ H1 x, tBo U W B (f x) σ H1 Q → Q' x H1) : tBo U W B ra σ H Q' := by
  obtain ⟨G, env, I, h⟩ := h
  refine ⟨G, env, I, ?_⟩
  dsimp only at h
  cases e : ra env with
  | no => rw [e] at h; exact h
  | ex c => rw [e] at h; exact h
  | ok x =>
    rw [e, Oc.ok_bind] at h
    intro G1 H1 g1
    refine hop H1 x ⟨G1, env, I.later g1, ?_⟩
    cases e2 : f x env with
    | no => rw [e2] at h; exact h
    | ex c => rw [e2] at h; exact fun G' H' g => h G' H' (g1.trans g)
    | ok z => rw [e2] at h; exact fun G' H' g => h G' H' (g1.trans g)
theorem tBo_pure {b : Bool} {σ : L2.St} {H : Hp} {Q : Bool → Hp → Prop} (h : tBo U W B (fun _ => .ok b) σ H Q) : Q b H := by
  obtain ⟨G, env, I, h⟩ := h
  exact h G H (Grow.refl I.sub)
theorem cb_tnot {a : Expr} {pos : Pos} {ra : List Sl → Oc Rs} (ha : PT X a (tBo U W B (asB ra))) :
    PT X (.UnaryOp .Not a pos) (tBo U W B (asB fun env => ra env >>= fun x => oBool x.see >>= fun i => .ok (.im (.bl (!i))))) :=
  PT.weak (pt_not ha) fun σ H Q h => by
    have h : tBo U W B (fun env => asB ra env >>= fun k => .ok (!k)) σ H Q := by
      obtain ⟨G, env, I, h⟩ := h
      refine ⟨G, env, I, ?_⟩
      unfold asB at h ⊢
      dsimp only at h ⊢
      cases e : ra env with
      | no => rw [e] at h; exact h
      | ex c => rw [e] at h; exact h
      | ok x =>
        rw [e, Oc.ok_bind] at h
        rw [Oc.ok_bind]
        cases e2 : oBool x.see with
        | no => rw [e2] at h; exact h
        | ex c => rw [e2] at h; exact h
        | ok k => rw [e2] at h; exact h
    exact tBo_then (f := fun k _ => .ok (!k)) h fun H1 x q => tBo_pure q
theorem cb_wand {a b : Expr} {rest : List Expr} {pos : Pos} {ra rb : List Sl → Oc Rs} (ha : PT X a (tBo U W B (asB ra))) (hb : PW X (.BoolOp .And (b :: rest) pos) (tBo U W B (asB rb))) :
    PW X (.BoolOp .And (a :: b :: rest) pos) (tBo U W B (asB fun env => ra env >>= fun x => oBool x.see >>= fun k => if k then rb env else .ok (.im (.bl false)))) :=
  PW.weak (pw_and ha hb) fun σ H Q h => by
    have h : tBo U W B (fun env => asB ra env >>= fun k => if k then asB rb env else .ok false) σ H Q := by
      obtain ⟨G, env, I, h⟩ := h
      refine ⟨G, env, I, ?_⟩
      unfold asB at h ⊢
      dsimp only at h ⊢
      cases e : ra env with
      | no => rw [e] at h; exact h
      | ex c => rw [e] at h; exact h
      | ok x =>
        rw [e, Oc.ok_bind] at h
        rw [Oc.ok_bind]
        cases e2 : oBool x.see with
        | no => rw [e2] at h; exact h
        | ex c => rw [e2] at h; exact h
        | ok k =>
          rw [e2, Oc.ok_bind] at h
          rw [Oc.ok_bind]
          cases k with
          | true => exact h
          | false => exact h
    refine tBo_then (f := fun k env => if k then asB rb env else .ok false) h fun H1 x q => ?_
    cases x with
    | true => exact q
    | false => exact tBo_pure q
theorem cb_wor {a b : Expr} {rest : List Expr} {pos : Pos} {ra rb : List Sl → Oc Rs} (ha : PT X a (tBo U W B (asB ra))) (hb : PW X (.BoolOp .Or (b :: rest) pos) (tBo U W B (asB rb))) :
    PW X (.BoolOp .Or (a :: b :: rest) pos) (tBo U W B (asB fun env => ra env >>= fun x => oBool x.see >>= fun k => if k then .ok (.im (.bl true)) else rb env)) :=
  PW.weak (pw_or ha hb) fun σ H Q h => by
    have h : tBo U W B (fun env => asB ra env >>= fun k => if k then .ok true else asB rb env) σ H Q := by
      obtain ⟨G, env, I, h⟩ := h
      refine ⟨G, env, I, ?_⟩
      unfold asB at h ⊢
      dsimp only at h ⊢
      cases e : ra env with
      | no => rw [e] at h; exact h
      | ex c => rw [e] at h; exact h
      | ok x =>
        rw [e, Oc.ok_bind] at h
        rw [Oc.ok_bind]
        cases e2 : oBool x.see with
        | no => rw [e2] at h; exact h
        | ex c => rw [e2] at h; exact h
        | ok k =>
          rw [e2, Oc.ok_bind] at h
          rw [Oc.ok_bind]
          cases k with
          | true => exact h
          | false => exact h
    refine tBo_then (f := fun k env => if k then .ok true else asB rb env) h fun H1 x q => ?_
    cases x with
    | false => exact q
    | true => exact tBo_pure q
theorem cb_ite {c a b : Expr} {pos : Pos} {rc ra rb : List Sl → Oc Rs} (hc : PT X c (tBo U W B (asB rc))) (ha : PE X a (tR U W B ra)) (hb : PE X b (tR U W B rb)) :
    PE X (.IfExp c a b pos) (tR U W B fun env => rc env >>= fun x => oBool x.see >>= fun k => if k then ra env else rb env) :=
  PE.weak (pe_ifExp hc ha hb) fun σ H Q h => by
    obtain ⟨G, env, I, h⟩ := h
    refine ⟨G, env, I, ?_⟩
    have h : Post U W B (rc env >>= fun x => oBool x.see >>= fun k => if k then ra env else rb env) G H σ Q := h
    unfold asB
    dsimp only
    cases e : rc env with
    | no => rw [e] at h; exact h
    | ex c => rw [e] at h; exact h
    | ok x =>
      rw [e, Oc.ok_bind] at h
      rw [Oc.ok_bind]
      cases e2 : oBool x.see with
      | no => rw [e2] at h; exact h
      | ex c => rw [e2] at h; exact h
      | ok k =>
        rw [e2, Oc.ok_bind] at h
        intro G1 H1 g1
        cases k with
        | true =>
          refine ⟨G1, env, I.later g1, ?_⟩
          have h : Post U W B (ra env) G H σ Q := h
          unfold Post at h ⊢
          cases e3 : ra env with
          | no => rw [e3] at h; exact h
          | ex c => rw [e3] at h; exact fun G' H' g => h G' H' (g1.trans g)
          | ok z => rw [e3] at h; exact fun u G' H' g k => h u G' H' (g1.trans g) (k.from I.sub g1)
        | false =>
          refine ⟨G1, env, I.later g1, ?_⟩
          have h : Post U W B (rb env) G H σ Q := h
          unfold Post at h ⊢
          cases e3 : rb env with
          | no => rw [e3] at h; exact h
          | ex c => rw [e3] at h; exact fun G' H' g => h G' H' (g1.trans g)
          | ok z => rw [e3] at h; exact fun u G' H' g k => h u G' H' (g1.trans g) (k.from I.sub g1)
end
end PF

namespace PF
open PySem PySem.Spec PyProof.Rows L2
theorem sizeOk_le {n : Nat} (h : sizeOk n = true) : n ≤ sizeLine := by
  rw [sizeLine_eq]
  exact of_decide_eq_true h
section
variable {U : Uni} {W : WX} {B : Hp} {X : Cx}

/-! ### operators -/
def opOf : Op → Operator
  | .add => .Add | .sub => .Sub | .mul => .Mult | .fdiv => .FloorDiv | .mod => .Mod | .pow => .Pow | .band => .BitAnd | .shr => .RShift
/-- a list and a list, wherever they stand -/
def rCatR (K : PySem.W.Frag) : R2 := fun x y H Q => ∃ l b xs zs, x = .ref l ∧ y = .ref b ∧ SqL K H l xs ∧ SqL K H b zs ∧ xs.length + zs.length ≤ sizeLine ∧ ∀ p, H p = none → Q (.ref p) (upd H p (.lst (xs ++ zs)))
theorem op_catR : OpR X (binaryOp .Add) (rCatR X.K) := by
  intro pins s σ H x y v u Q I rx ry h
  obtain ⟨l, b, xs, zs, rfl, rfl, hH, hB, hz, q⟩ := h
  cases rx
  cases ry
  obtain ⟨its, r, pl, z⟩ := I.list hH
  obtain ⟨its2, r2, pl2, z2⟩ := I.list hB
  have hl := r.length
  have hl2 := r2.length
  obtain ⟨⟨cls, dd, data, sl⟩, ho, hc, n, hd⟩ := pl.isList
  obtain ⟨⟨cls2, dd2, data2, sl2⟩, ho2, hc2, n2, hd2⟩ := pl2.isList
  simp only at hc hd hc2 hd2
  subst hc hd hc2 hd2
  refine concat_meets ⟨_, ho, rfl⟩ ⟨_, ho2, rfl⟩ noFill_list_add seq_list_add PySem.F.slot_list_add PySem.F.entry_list_add (PySem.F.args_list_add_2 _ _) (list_addW l b its.toArray its2.toArray n n2 dd dd2 sl sl2 (by simp only [List.size_toArray]; omega)) ⟨ho, ho2, ?_⟩
  have ea : its.toArray ++ its2.toArray = (its ++ its2).toArray := by simp
  rw [ea]
  exact ⟨.ref _, _, I.lnew (t' := s.toks) (r.append r2) (by rw [List.length_append]; omega), rfl, q _ I.fresh⟩
def rOpI (o : Op) : R2 := fun x y H Q => ∃ i j k, x = .int i ∧ y = .int j ∧ opI o i j = .ok k ∧ Q (.int k) H
def CMulL (i j : Int) : Prop := mulOk i j = true
theorem CMulL.ok {i j : Int} (h : CMulL i j) : IntMulOk i j := IntMulOk.of_le (Nat.le_refl _) (Nat.le_refl _) (of_decide_eq_true h)
theorem op_mulL : OpR X (binaryOp .Mult) (rI CMulL fun i j => .int (i * j)) := L2.opI fun _ _ _ _ _ _ _ hc q => mul_int q hc.ok
theorem op_int (o : Op) : OpR X (binaryOp (opOf o)) (rOpI o) := by
  intro pins s σ H x y v u Q I rx ry h
  obtain ⟨i, j, k, rfl, rfl, e, q⟩ := h
  cases o with
  | add => cases e; exact op_add pins s σ H _ _ v u Q I rx ry ⟨i, j, rfl, rfl, q⟩
  | sub => cases e; exact op_sub pins s σ H _ _ v u Q I rx ry ⟨i, j, rfl, rfl, q⟩
  | mul =>
    have e : (if mulOk i j then .ok (i * j) else .no) = Oc.ok k := e
    split at e
    · rename_i hc
      cases e
      exact op_mulL pins s σ H _ _ v u Q I rx ry ⟨i, j, rfl, rfl, hc, q⟩
    · cases e
  | fdiv =>
    have e : (if decide (0 < j) && decide (j.natAbs.log2 < 9000) then .ok (i / j) else .no) = Oc.ok k := e
    split at e
    · rename_i hc
      cases e
      rw [Bool.and_eq_true] at hc
      exact op_fdivW pins s σ H _ _ v u Q I rx ry ⟨i, j, rfl, rfl, ⟨of_decide_eq_true hc.1, of_decide_eq_true hc.2⟩, q⟩
    · cases e
  | mod =>
    have e : (if decide (0 < j) then .ok (i % j) else .no) = Oc.ok k := e
    split at e
    · rename_i hc
      cases e
      exact op_mod pins s σ H _ _ v u Q I rx ry ⟨i, j, rfl, rfl, of_decide_eq_true hc, q⟩
    · cases e
  | pow =>
    have e : (if decide (0 ≤ j) && decide (j ≤ 1000000) && decide (i.natAbs < 2 ^ 64) then .ok (i ^ j.toNat) else .no) = Oc.ok k := e
    split at e
    · rename_i hc
      cases e
      rw [Bool.and_eq_true, Bool.and_eq_true] at hc
      exact op_pow pins s σ H _ _ v u Q I rx ry ⟨i, j, rfl, rfl, ⟨of_decide_eq_true hc.1.1, of_decide_eq_true hc.1.2, of_decide_eq_true hc.2⟩, q⟩
    · cases e
  | band => cases e; exact op_and pins s σ H _ _ v u Q I rx ry ⟨i, j, rfl, rfl, q⟩
  | shr =>
    have e : (if decide (0 ≤ j) then .ok (i / 2 ^ j.toNat) else .no) = Oc.ok k := e
    split at e
    · rename_i hc
      cases e
      exact op_shr pins s σ H _ _ v u Q I rx ry ⟨i, j, rfl, rfl, of_decide_eq_true hc, q⟩
    · cases e
theorem opI_ex {o : Op} {i j : Int} {c : Nat} : opI o i j ≠ .ex c := by
  cases o <;> (try simp only [opI]) <;> (try split) <;> intro h <;> cases h
theorem opE_ex {o : Op} {a b : Rs} {c : Nat} : opE o a b ≠ .ex c := by
  unfold opE
  split
  · intro h
    rename_i i j _ _
    cases e : opI o i j with
    | ok k => rw [e] at h; cases h
    | ex c => exact opI_ex e
    | no => rw [e] at h; cases h
  · split <;> intro h <;> cases h
  · split <;> intro h <;> cases h
  · intro h; cases h
/-- what the add rules ask of -/
def rAll2 (K : PySem.W.Frag) (o : Op) : R2 := fun x y H Q => rOpI o x y H Q ∨ (o = .add ∧ rCatR K x y H Q) ∨ (o = .add ∧ rCatA K x y H Q)
theorem op_all (o : Op) : OpR X (binaryOp (opOf o)) (rAll2 X.K o) := by
  intro pins s σ H x y v u Q I rx ry h
  rcases h with h | ⟨rfl, h⟩ | ⟨rfl, h⟩
  · exact op_int o pins s σ H x y v u Q I rx ry h
  · exact op_catR pins s σ H x y v u Q I rx ry h
  · exact op_catA pins s σ H x y v u Q I rx ry h
theorem cb_bin {o : Op} {a b : Expr} {pos : Pos} {ra rb : List Sl → Oc Rs} (hK : X.K = U.K) (ha : PE X a (tR U W B ra)) (hb : PE X b (tR U W B rb)) :
    PE X (.BinOp a (opOf o) b pos) (tR U W B fun env => ra env >>= fun x => rb env >>= fun y => opE o x y) :=
  PE.weak (pe_op (op_all o) ha hb) fun σ H Q h => tR_two h (fun _ _ _ => opE_ex) fun G H2 v w x y z s kx ky e q => by
    unfold opE at e
    split at e
    · rename_i i j e1 e2
      cases e3 : opI o i j with
      | no => rw [e3] at e; cases e
      | ex c => rw [e3] at e; cases e
      | ok k =>
        rw [e3] at e
        cases e
        exact .inl ⟨i, j, k, kx.int e1, ky.int e2, e3, q _ G H2 (Grow.refl s) (Rep.int _)⟩
    · rename_i xs ys e1 e2
      split at e
      · rename_i hc
        cases e
        rw [Bool.and_eq_true] at hc
        obtain ⟨l, vs, rfl, hl, rl⟩ := kx.list s e1
        obtain ⟨b, ws, rfl, hb, rb⟩ := ky.list s e2
        refine .inr (.inl ⟨of_decide_eq_true hc.1, l, b, vs, ws, rfl, rfl, hK ▸ hl, hK ▸ hb, ?_, fun p hp => ?_⟩)
        · rw [rl.length, rb.length]; exact sizeOk_le hc.2
        · have hg : G p = none := by
            cases z : G p with
            | none => rfl
            | some o => rw [s p o z] at hp; cases hp
          exact q _ G _ (Grow.made0 s hp) ⟨p, _, rfl, hp, hg, upd_same, rl.append rb⟩
      · cases e
    · rename_i xs ys e1 e2
      split at e
      · rename_i hc
        cases e
        rw [Bool.and_eq_true, Bool.and_eq_true] at hc
        obtain ⟨_, l, vs, rfl, gl, hl, rl⟩ := kx.tuple s e1
        obtain ⟨_, b, ws, rfl, gb, hb, rb⟩ := ky.tuple s e2
        have hne : vs ≠ [] := fun z => by
          subst z
          cases rl
          simp at hc
        refine .inr (.inr ⟨of_decide_eq_true hc.1.1, l, b, vs, ws, rfl, rfl, ?_, ?_, ?_, fun z => absurd z hne, fun _ z => ?_, fun _ _ p hp => ?_⟩)
        · rw [hK]; exact hl
        · rw [hK]; exact hb
        · rw [rl.length, rb.length]; exact sizeOk_le hc.1.2
        · subst z
          cases rb
          rw [List.append_nil] at q
          exact q _ G H2 (Grow.refl s) (Rep.tup gl rl)
        · have g := Grow.made (o := .tup (vs ++ ws)) s hp
          exact q _ _ _ g (Rep.tup (.inl (.inl upd_same)) ((rl.append rb).mono g.gg))
      · cases e
    · cases e

/-! ### comparisons -/
def coOf : CO → CmpOp
  | .eq => .Eq | .ne => .NotEq | .lt => .Lt | .le => .LtE | .gt => .Gt | .ge => .GtE
theorem eq_ex {a b : Tr} {c : Nat} : a.eq b ≠ .ex c := by
  unfold Tr.eq
  split
  · split <;> intro h <;> cases h
  · intro h; cases h
theorem cmpE_ex {o : CO} {a b : Tr} {c : Nat} : cmpE o a b ≠ .ex c := by
  unfold cmpE
  split
  · exact eq_ex
  · intro h
    cases e : a.eq b with
    | ok k => rw [e] at h; cases h
    | ex c => exact eq_ex e
    | no => rw [e] at h; cases h
  · split <;> intro h <;> cases h
def rCmp (U : Uni) (o : CO) : R2 := fun x y H Q => ∃ a b k, Rep U H x a ∧ Rep U H y b ∧ cmpE o a b = .ok k ∧ Q (.bl k) H
theorem nomarkC (o : CO) (b : Expr) : behindInMarks (coOf o) b = false := by cases o <;> exact nomark _
theorem op_cmp (o : CO) (hK : X.K = U.K) (hu : X.A.units + 64 < cLine) : OpR X (compareOp (coOf o)) (rCmp U o) := by
  intro pins s σ H x y v u Q I rx ry h
  obtain ⟨a, b, k, ra, rb, e, q⟩ := h
  have deq : ∀ {k : Bool}, a.eq b = .ok k → ∃ d e, Dp X.K H x d ∧ Dp X.K H y e ∧ SeqAt.shaped d = true ∧ SeqAt.shaped e = true ∧ k = PyData.eqv d e := fun {k} h => by
    unfold Tr.eq at h
    split at h
    · rename_i d e h1 h2
      split at h
      · rename_i hs
        rw [Bool.and_eq_true] at hs
        cases h
        rw [hK]
        exact ⟨d, e, ra.dp (Same.refl _) h1, rb.dp (Same.refl _) h2, hs.1, hs.2, rfl⟩
      · cases h
    · cases h
  have int2 : ∀ {f : Int → Int → Bool}, (match a, b with | .int i, .int j => Oc.ok (f i j) | _, _ => Oc.no) = .ok k → ∃ i j, x = .int i ∧ y = .int j ∧ k = f i j := fun {f} h => by
    split at h
    · cases h; cases ra; cases rb; exact ⟨_, _, rfl, rfl, rfl⟩
    · cases h
  cases o with
  | eq =>
    obtain ⟨d, d', h1, h2, h3, h4, rfl⟩ := deq e
    exact op_eqD hu pins s σ H x y v u Q I rx ry ⟨d, d', h1, h2, h3, h4, q⟩
  | ne =>
    unfold cmpE at e
    dsimp only at e
    cases e2 : a.eq b with
    | no => rw [e2] at e; cases e
    | ex c => rw [e2] at e; cases e
    | ok k2 =>
      rw [e2] at e
      cases e
      obtain ⟨d, d', h1, h2, h3, h4, rfl⟩ := deq e2
      exact op_neD hu pins s σ H x y v u Q I rx ry ⟨d, d', h1, h2, h3, h4, q⟩
  | lt => obtain ⟨i, j, rfl, rfl, rfl⟩ := int2 (f := cmpI .lt) e; exact op_lt pins s σ H _ _ v u Q I rx ry ⟨i, j, rfl, rfl, q⟩
  | le => obtain ⟨i, j, rfl, rfl, rfl⟩ := int2 (f := cmpI .le) e; exact op_le pins s σ H _ _ v u Q I rx ry ⟨i, j, rfl, rfl, q⟩
  | gt => obtain ⟨i, j, rfl, rfl, rfl⟩ := int2 (f := cmpI .gt) e; exact op_gt pins s σ H _ _ v u Q I rx ry ⟨i, j, rfl, rfl, q⟩
  | ge => obtain ⟨i, j, rfl, rfl, rfl⟩ := int2 (f := cmpI .ge) e; exact op_ge pins s σ H _ _ v u Q I rx ry ⟨i, j, rfl, rfl, q⟩
/-- two parts and a truth -/
theorem tR_cmp {ra rb : List Sl → Oc Rs} {f : Tr → Tr → Oc Bool} {σ : L2.St} {H : Hp} {Q : VK} {r : R2} (hex : ∀ x y c, f x y ≠ .ex c)
    (hr : ∀ H x y a b k, Rep U H x a → Rep U H y b → f a b = .ok k → ∀ Q : VK, Q (.bl k) H → r x y H Q)
    (h : tR U W B (fun env => ra env >>= fun x => rb env >>= fun y => f x.see y.see >>= fun b => .ok (.im (.bl b))) σ H Q) : tOp r (tR U W B ra) (tR U W B rb) σ H Q :=
  tR_two h (fun x y c => by cases e : f x.see y.see <;> simp [e] <;> exact fun z => hex _ _ _ (z ▸ e)) fun G H2 v w x y z s kx ky e q => by
    cases e2 : f x.see y.see with
    | no => rw [e2] at e; cases e
    | ex c => rw [e2] at e; cases e
    | ok k =>
      rw [e2] at e
      cases e
      exact hr H2 v w _ _ k (kx.seen s) (ky.seen s) e2 Q (q _ G H2 (Grow.refl s) (Rep.bl _))
theorem cb_cmp {o : CO} {a b : Expr} {pos : Pos} {ra rb : List Sl → Oc Rs} (hK : X.K = U.K) (hu : X.A.units + 64 < cLine) (ha : PE X a (tR U W B ra)) (hb : PE X b (tR U W B rb)) :
    PE X (.Compare a [coOf o] [b] pos) (tR U W B fun env => ra env >>= fun x => rb env >>= fun y => cmpE o x.see y.see >>= fun b => .ok (.im (.bl b))) :=
  PE.weak (pe_cmpR (op_cmp o hK hu) ha hb (nomarkC o b)) fun σ H Q h => tR_cmp (fun _ _ _ => cmpE_ex) (fun H x y a b k r1 r2 e Q q => ⟨a, b, k, r1, r2, e, q⟩) h
theorem tTest_of {r : List Sl → Oc Rs} {t : TE} {σ : L2.St} {H : Hp} {Q : Bool → Hp → Prop} (h : tBo U W B (asB r) σ H Q) (ht : ∀ Q : VK, tR U W B r σ H Q → t σ H Q) : tTest t σ H Q := ht _ (tBo_bl h)
theorem cb_tcmp {o : CO} {a b : Expr} {pos : Pos} {ra rb : List Sl → Oc Rs} (hK : X.K = U.K) (hu : X.A.units + 64 < cLine) (ha : PE X a (tR U W B ra)) (hb : PE X b (tR U W B rb)) :
    PT X (.Compare a [coOf o] [b] pos) (tBo U W B (asB fun env => ra env >>= fun x => rb env >>= fun y => cmpE o x.see y.see >>= fun b => .ok (.im (.bl b)))) :=
  PT.weak (pt_cmpR (op_cmp o hK hu) ha hb (nomarkC o b)) fun σ H Q h => tTest_of h fun Q h => tR_cmp (fun _ _ _ => cmpE_ex) (fun H x y a b k r1 r2 e Q q => ⟨a, b, k, r1, r2, e, q⟩) h
def ordC : CO → Bool
  | .eq => false
  | .ne => false
  | _ => true
theorem cmp_ord {o : CO} {a b : Tr} {k : Bool} (ho : ordC o = true) (h : cmpE o a b = .ok k) : ∃ i j, a = .int i ∧ b = .int j := by
  cases o <;> first | cases ho | skip
  all_goals
    unfold cmpE at h
    dsimp only at h
    split at h
    · exact ⟨_, _, rfl, rfl⟩
    · cases h
theorem rep_int {H : Hp} {v : V} {i : Int} (h : Rep U H v (.int i)) : v = .int i := by cases h; rfl
theorem lastM (o o' : CO) (b c : Expr) : lastMarks [coOf o, coOf o'] [b, c] = false := by
  simp only [lastMarks]
  exact nomarkC o' c
theorem tR_chain {o o' : CO} (ho : ordC o = true) {ra rb rc : List Sl → Oc Rs} {σ : L2.St} {H : Hp} {Q : VK}
    (h : tR U W B (fun env => ra env >>= fun x => rb env >>= fun y => cmpE o x.see y.see >>= fun k => if k then rc env >>= fun z => cmpE o' y.see z.see >>= fun k' => .ok (.im (.bl k')) else .ok (.im (.bl false))) σ H Q) :
    tChain (rCmp U o) (rCmp U o') (tR U W B ra) (tR U W B rb) (tR U W B rc) σ H Q := by
  refine tR_then (f := fun x env => rb env >>= fun y => cmpE o x.see y.see >>= fun k => if k then rc env >>= fun z => cmpE o' y.see z.see >>= fun k' => .ok (.im (.bl k')) else .ok (.im (.bl false))) h fun G H1 v x s kx h => ?_
  have hx : ∀ i, x.see = .int i → v = .int i := fun i e => rep_int (e ▸ kx.seen s)
  refine tR_then (f := fun y env => cmpE o x.see y.see >>= fun k => if k then rc env >>= fun z => cmpE o' y.see z.see >>= fun k' => .ok (.im (.bl k')) else .ok (.im (.bl false))) h fun G2 H2 w y s2 ky h => ?_
  cases e : cmpE o x.see y.see with
  | no =>
    obtain ⟨_, _, _, q⟩ := h
    rw [e] at q
    exact q.elim
  | ex c => exact absurd e cmpE_ex
  | ok k =>
    obtain ⟨i, j, e1, e2⟩ := cmp_ord ho e
    obtain rfl := hx i e1
    obtain rfl : w = .int j := rep_int (e2 ▸ ky.seen s2)
    rw [e1, e2] at e
    refine ⟨.int i, .int j, k, .int i, .int j, e, k, rfl, ?_⟩
    rw [e1, e2, e] at h
    cases k with
    | false =>
      obtain ⟨G3, env, I, q⟩ := h
      exact q _ G3 H2 (Grow.refl I.sub) (Rep.bl _)
    | true =>
      refine tR_one (f := fun z => cmpE o' (.int j) z.see >>= fun k' => .ok (.im (.bl k'))) h (fun z c q => ?_) fun G3 H3 w2 z z' s3 kz e3 q => ?_
      · cases e4 : cmpE o' (.int j) z.see with
        | no => rw [e4] at q; cases q
        | ex c => exact absurd e4 cmpE_ex
        | ok k => rw [e4] at q; cases q
      · cases e4 : cmpE o' (.int j) z.see with
        | no => rw [e4] at e3; cases e3
        | ex c => exact absurd e4 cmpE_ex
        | ok k =>
          rw [e4] at e3
          cases e3
          exact ⟨.int j, z.see, k, .int j, kz.seen s3, e4, q _ G3 H3 (Grow.refl s3) (Rep.bl _)⟩
theorem cb_chain {o o' : CO} {a b c : Expr} {pos : Pos} {ra rb rc : List Sl → Oc Rs} (ho : ordC o = true) (hK : X.K = U.K) (hu : X.A.units + 64 < cLine) (ha : PE X a (tR U W B ra)) (hb : PE X b (tR U W B rb)) (hc : PE X c (tR U W B rc)) :
    PE X (.Compare a [coOf o, coOf o'] [b, c] pos) (tR U W B fun env => ra env >>= fun x => rb env >>= fun y => cmpE o x.see y.see >>= fun k => if k then rc env >>= fun z => cmpE o' y.see z.see >>= fun k' => .ok (.im (.bl k')) else .ok (.im (.bl false))) :=
  PE.weak (pe_chain (op_cmp o hK hu) (op_cmp o' hK hu) ha hb hc (lastM o o' b c)) fun σ H Q h => tR_chain ho h
theorem cb_tchain {o o' : CO} {a b c : Expr} {pos : Pos} {ra rb rc : List Sl → Oc Rs} (ho : ordC o = true) (hK : X.K = U.K) (hu : X.A.units + 64 < cLine) (ha : PE X a (tR U W B ra)) (hb : PE X b (tR U W B rb)) (hc : PE X c (tR U W B rc)) :
    PT X (.Compare a [coOf o, coOf o'] [b, c] pos) (tBo U W B (asB fun env => ra env >>= fun x => rb env >>= fun y => cmpE o x.see y.see >>= fun k => if k then rc env >>= fun z => cmpE o' y.see z.see >>= fun k' => .ok (.im (.bl k')) else .ok (.im (.bl false)))) :=
  PT.weak (pt_chain (op_cmp o hK hu) (op_cmp o' hK hu) ha hb hc (lastM o o' b c)) fun σ H Q h => tTest_of h fun Q h => tR_chain ho h
/-! is None -/
theorem rep_non {H : Hp} {x : V} {t : Tr} (r : Rep U H x t) : decide (x = .non) = isNonT t := by
  cases r <;> rfl
theorem tR_isN {ra : List Sl → Oc Rs} {g : Bool → Bool} {σ : L2.St} {H : Hp} {Q : VK}
    (h : tR U W B (fun env => ra env >>= fun x => .ok (.im (.bl (g (isNonT x.see))))) σ H Q) : tR U W B ra σ H fun x H1 => Q (.bl (g (decide (x = .non)))) H1 :=
  tR_one (f := fun x => .ok (.im (.bl (g (isNonT x.see))))) h (fun x c z => by cases z) fun G H1 v x z s k e q => by
    cases e
    have e := rep_non (k.seen s)
    rw [e]
    exact q _ G H1 (Grow.refl s) (Rep.bl _)
theorem cb_isN {a : Expr} {j : Nat} {pos p2 : Pos} {ra : List Sl → Oc Rs} (ha : PE X a (tR U W B ra)) :
    PE X (.Compare a [.Is] [.Constant .none j p2] pos) (tR U W B fun env => ra env >>= fun x => .ok (.im (.bl (isNonT x.see)))) :=
  PE.weak (pe_cmpR op_isN ha pe_non (nomark _)) fun σ H Q h => tR_one (f := fun x => .ok (.im (.bl (isNonT x.see)))) h (fun x c z => by cases z) fun G H1 v x z s k e q => by
    cases e
    refine ⟨rfl, ?_⟩
    rw [rep_non (k.seen s)]
    exact q _ G H1 (Grow.refl s) (Rep.bl _)
theorem cb_notN {a : Expr} {j : Nat} {pos p2 : Pos} {ra : List Sl → Oc Rs} (ha : PE X a (tR U W B ra)) :
    PE X (.Compare a [.IsNot] [.Constant .none j p2] pos) (tR U W B fun env => ra env >>= fun x => .ok (.im (.bl (!isNonT x.see)))) :=
  PE.weak (pe_cmpR op_notN ha pe_non (nomark _)) fun σ H Q h => tR_one (f := fun x => .ok (.im (.bl (!isNonT x.see)))) h (fun x c z => by cases z) fun G H1 v x z s k e q => by
    cases e
    refine ⟨rfl, ?_⟩
    rw [rep_non (k.seen s)]
    exact q _ G H1 (Grow.refl s) (Rep.bl _)
theorem cb_tisN {a : Expr} {j : Nat} {pos p2 : Pos} {ra : List Sl → Oc Rs} (ha : PE X a (tR U W B ra)) :
    PT X (.Compare a [.Is] [.Constant .none j p2] pos) (tBo U W B (asB fun env => ra env >>= fun x => .ok (.im (.bl (isNonT x.see))))) :=
  PT.weak (pt_cmpR op_isN ha pe_non (nomark _)) fun σ H Q h => tTest_of h fun Q h => tR_one (f := fun x => .ok (.im (.bl (isNonT x.see)))) h (fun x c z => by cases z) fun G H1 v x z s k e q => by
    cases e
    refine ⟨rfl, ?_⟩
    rw [rep_non (k.seen s)]
    exact q _ G H1 (Grow.refl s) (Rep.bl _)
theorem cb_tnotN {a : Expr} {j : Nat} {pos p2 : Pos} {ra : List Sl → Oc Rs} (ha : PE X a (tR U W B ra)) :
    PT X (.Compare a [.IsNot] [.Constant .none j p2] pos) (tBo U W B (asB fun env => ra env >>= fun x => .ok (.im (.bl (!isNonT x.see))))) :=
  PT.weak (pt_cmpR op_notN ha pe_non (nomark _)) fun σ H Q h => tTest_of h fun Q h => tR_one (f := fun x => .ok (.im (.bl (!isNonT x.see)))) h (fun x c z => by cases z) fun G H1 v x z s k e q => by
    cases e
    refine ⟨rfl, ?_⟩
    rw [rep_non (k.seen s)]
    exact q _ G H1 (Grow.refl s) (Rep.bl _)
/-! in -/
theorem itemsOf_ok {t : Tr} {xs : List Tr} (h : itemsOf t = .ok xs) : t = .lst xs ∨ t = .tup xs := by
  cases t <;> simp [itemsOf] at h
  · exact .inr (by rw [h])
  · exact .inl (by rw [h])
theorem itemsOf_ex {t : Tr} {c : Nat} : itemsOf t ≠ .ex c := by cases t <;> simp [itemsOf]
theorem rep_flat {H : Hp} {x : V} {t : Tr} (r : Rep U H x t) : t.flat = flatV x := by cases r <;> rfl
theorem repL_flat {H : Hp} : ∀ {xs : List V} {ts : List Tr}, RepL U H xs ts → ts.all Tr.flat = xs.all flatV
  | _, _, .nil => rfl
  | _, _, .cons r t => by rw [List.all_cons, List.all_cons, rep_flat r, repL_flat t]
theorem rep_eqF {H : Hp} {x y : V} {a b : Tr} (r : Rep U H x a) (q : Rep U H y b) : eqFlat a b = eqV x y := by
  cases r <;> cases q <;> rfl
theorem repL_any {H : Hp} {x : V} {a : Tr} (r : Rep U H x a) : ∀ {xs : List V} {ts : List Tr}, RepL U H xs ts → (ts.any fun y => eqFlat y a) = inV x xs
  | _, _, .nil => rfl
  | _, _, .cons q t => by
    have ih := repL_any r t
    unfold inV at ih ⊢
    rw [List.any_cons, List.any_cons, rep_eqF q r, ih]
theorem isinD_ex {n : Bool} {a b : Tr} {c : Nat} : isinD n a b ≠ .ex c := by
  unfold isinD
  split
  · split <;> intro h <;> cases h
  · split <;> intro h <;> cases h
  · intro h; cases h
theorem isinE_ex {n : Bool} {a b : Tr} {c : Nat} : isinE n a b ≠ .ex c := by
  unfold isinE
  intro h
  cases e : itemsOf b with
  | no => rw [e] at h; cases h
  | ex c => exact itemsOf_ex e
  | ok xs =>
    rw [e, Oc.ok_bind] at h
    split at h
    · cases h
    · exact isinD_ex h
/-- x in xs, plain data, by values -/
def rInD (K : PySem.W.Frag) (n : Bool) : R2 := fun x y H Q => ∃ d ds, Dp K H x d ∧ (Dp K H y (.list ds) ∨ Dp K H y (.tuple ds)) ∧ (d.canLay0 = true ∧ PyData.canLayAll0 ds = true) ∧ d.depth ≤ 32 ∧ Q (.bl (if n = true then !(ds.any fun y => PyData.eqv y d) else ds.any fun y => PyData.eqv y d)) H
def rIn2 (K : PySem.W.Frag) (n : Bool) : R2 := fun x y H Q => rIn K n x y H Q ∨ rInD K n x y H Q
theorem isin_rep {K : PySem.W.Frag} (hK : K = U.K) {n : Bool} {H : Hp} {x y : V} {a b : Tr} {k : Bool} (r1 : Rep U H x a) (r2 : Rep U H y b) (e : isinE n a b = .ok k) (Q : VK) (q : Q (.bl k) H) : rIn2 K n x y H Q := by
  unfold isinE at e
  cases e2 : itemsOf b with
  | no => rw [e2] at e; cases e
  | ex c => rw [e2] at e; cases e
  | ok xs =>
    rw [e2, Oc.ok_bind] at e
    split at e
    · rename_i hf
      rw [Bool.and_eq_true] at hf
      cases e
      have fin : ∀ {vs : List V}, RepL U H vs xs → flatV x = true ∧ vs.all flatV = true ∧ Q (.bl (if n then !inV x vs else inV x vs)) H := fun {vs} r => by
        refine ⟨by rw [← rep_flat r1]; exact hf.1, by rw [← repL_flat r]; exact hf.2, ?_⟩
        rw [← repL_any r1 r]
        exact q
      rcases itemsOf_ok e2 with rfl | rfl
      · cases r2 with
        | lst h1 h2 =>
          obtain ⟨f1, f2, f3⟩ := fin h2
          exact .inl ⟨_, _, rfl, .inl (hK ▸ h1), f1, f2, f3⟩
      · cases r2 with
        | tup h1 h2 =>
          obtain ⟨f1, f2, f3⟩ := fin h2
          rw [hK]
          exact .inl ⟨_, _, rfl, .inr h1, f1, f2, f3⟩
    · unfold isinD at e
      split at e
      · rename_i d ds e3 e4
        split at e
        · rename_i hc
          simp only [Bool.and_eq_true, decide_eq_true_eq] at hc
          cases e
          exact .inr ⟨d, ds, hK ▸ r1.dp (Same.refl _) e3, .inl (hK ▸ r2.dp (Same.refl _) e4), hc.1, hc.2, q⟩
        · cases e
      · rename_i d ds e3 e4
        split at e
        · rename_i hc
          simp only [Bool.and_eq_true, decide_eq_true_eq] at hc
          cases e
          exact .inr ⟨d, ds, hK ▸ r1.dp (Same.refl _) e3, .inr (hK ▸ r2.dp (Same.refl _) e4), hc.1, hc.2, q⟩
        · cases e
      · cases e
def inOf : Bool → CmpOp
  | false => .In
  | true => .NotIn
theorem op_isinD (hu : X.A.units + 64 < cLine) (n : Bool) : OpR X (compareOp (inOf n)) (rInD X.K n) := by
  intro pins s σ H x y v u Q I rx ry h
  obtain ⟨d, ds, h1, h2, ⟨c1, c2⟩, hd, q⟩ := h
  obtain ⟨as, ra⟩ := Dp.reads I _ _ _ h1 rx
  have rm : X.A.units + 1 + min (PyData.depthAll ds) d.depth < cLine := by
    have : min (PyData.depthAll ds) d.depth ≤ d.depth := Nat.min_le_right _ _
    omega
  rcases h2 with h2 | h2
  · obtain ⟨bs, rb⟩ := Dp.reads I _ _ _ h2 ry
    cases n with
    | false => exact SeqAt.in_list_reads rb ra c2 c1 rm ⟨.bl _, H, I, rfl, q⟩
    | true => exact SeqAt.notIn_list_reads rb ra c2 c1 rm ⟨.bl _, H, I, rfl, q⟩
  · obtain ⟨bs, rb⟩ := Dp.reads I _ _ _ h2 ry
    cases n with
    | false => exact SeqAt.in_tuple_reads rb ra c2 c1 rm ⟨.bl _, H, I, rfl, q⟩
    | true => exact SeqAt.notIn_tuple_reads rb ra c2 c1 rm ⟨.bl _, H, I, rfl, q⟩
theorem op_isin2 (hu : X.A.units + 64 < cLine) (n : Bool) : OpR X (compareOp (inOf n)) (rIn2 X.K n) := by
  intro pins s σ H x y v u Q I rx ry h
  rcases h with h | h
  · cases n with
    | false => exact op_in_seq pins s σ H x y v u Q I rx ry h
    | true => exact op_notIn_seq pins s σ H x y v u Q I rx ry h
  · exact op_isinD hu n pins s σ H x y v u Q I rx ry h
theorem op_isin (n : Bool) : OpR X (compareOp (inOf n)) (rIn X.K n) := by
  cases n with
  | false => exact op_in_seq
  | true => exact op_notIn_seq
theorem cb_isin {n : Bool} {a b : Expr} {pos : Pos} {ra rb : List Sl → Oc Rs} (hu : X.A.units + 64 < cLine) (hK : X.K = U.K) (hm : behindInMarks (inOf n) b = false) (ha : PE X a (tR U W B ra)) (hb : PE X b (tR U W B rb)) :
    PE X (.Compare a [inOf n] [b] pos) (tR U W B fun env => ra env >>= fun x => rb env >>= fun y => isinE n x.see y.see >>= fun b => .ok (.im (.bl b))) :=
  PE.weak (pe_cmpR (op_isin2 hu n) ha hb hm) fun σ H Q h => tR_cmp (fun _ _ _ => isinE_ex) (fun H x y a b k r1 r2 e Q q => isin_rep hK r1 r2 e Q q) h
theorem cb_tisin {n : Bool} {a b : Expr} {pos : Pos} {ra rb : List Sl → Oc Rs} (hu : X.A.units + 64 < cLine) (hK : X.K = U.K) (hm : behindInMarks (inOf n) b = false) (ha : PE X a (tR U W B ra)) (hb : PE X b (tR U W B rb)) :
    PT X (.Compare a [inOf n] [b] pos) (tBo U W B (asB fun env => ra env >>= fun x => rb env >>= fun y => isinE n x.see y.see >>= fun b => .ok (.im (.bl b)))) :=
  PT.weak (pt_cmpR (op_isin2 hu n) ha hb hm) fun σ H Q h => tTest_of h fun Q h => tR_cmp (fun _ _ _ => isinE_ex) (fun H x y a b k r1 r2 e Q q => isin_rep hK r1 r2 e Q q) h

/-! ### argument lists -/
theorem tAr_nil {σ : L2.St} {H : Hp} {Q : List V → Hp → Prop} (h : tAr U W B (fun _ => .ok []) σ H Q) : Q [] H := by
  obtain ⟨G, env, I, h⟩ := h
  exact h [] G H (Grow.refl I.sub) .nil
theorem tAr_cons {r : List Sl → Oc Rs} {rs : List Sl → Oc (List Tr)} {σ : L2.St} {H : Hp} {Q : List V → Hp → Prop}
    (h : tAr U W B (fun env => r env >>= Rs.fz >>= fun t => rs env >>= fun ts => .ok (t :: ts)) σ H Q) : tCons (tR U W B r) (tAr U W B rs) σ H Q := by
  obtain ⟨G, env, I, h⟩ := h
  have h : PostL U W (r env >>= Rs.fz >>= fun t => rs env >>= fun ts => .ok (t :: ts)) G H σ Q := h
  refine tR_fz ⟨G, env, I, ?_⟩
  show PostT U W (r env >>= Rs.fz) G H σ _
  unfold PostT
  cases e : (r env >>= Rs.fz) with
  | no => rw [e] at h; exact h
  | ex c => rw [e] at h; exact h
  | ok t =>
    rw [e, Oc.ok_bind] at h
    intro v G1 H1 g1 k1
    refine ⟨G1, env, I.later g1, ?_⟩
    unfold PostL at h ⊢
    cases e2 : rs env with
    | no => rw [e2] at h; exact h
    | ex c => rw [e2] at h; exact fun G' H' g => h G' H' (g1.trans g)
    | ok ts => rw [e2] at h; exact fun vs G2 H2 g2 k2 => h (v :: vs) G2 H2 (g1.trans g2) (.cons (k1.mono g2.gg) k2)
theorem cb_nil : PA X [] (tAr U W B fun _ => .ok []) := PA.weak pa_nil fun _ _ _ h => tAr_nil h
theorem cb_cons {e : Expr} {es : List Expr} {r : List Sl → Oc Rs} {rs : List Sl → Oc (List Tr)} (h1 : PE X e (tR U W B r)) (h2 : PA X es (tAr U W B rs)) (hs : starEach (e :: es) X.env = (false, eval e X.env) :: starEach es X.env) :
    PA X (e :: es) (tAr U W B fun env => r env >>= Rs.fz >>= fun t => rs env >>= fun ts => .ok (t :: ts)) := PA.weak (pa_cons h1 h2 hs) fun _ _ _ h => tAr_cons h
/-! arguments looked at -/
inductive RsL (U : Uni) (B G' H' H : Hp) : List V → List Rs → Prop
  | nil : RsL U B G' H' H [] []
  | cons {v : V} {vs : List V} {r : Rs} {rs : List Rs} : RsOk U B G' H' H v r → RsL U B G' H' H vs rs → RsL U B G' H' H (v :: vs) (r :: rs)
theorem RsL.from {G H G1 H1 G2 H2 : Hp} (s : Same G H) (g1 : Grow G H G1 H1) : ∀ {vs : List V} {rs : List Rs}, RsL U B G2 H2 H1 vs rs → RsL U B G2 H2 H vs rs
  | _, _, .nil => .nil
  | _, _, .cons a b => .cons (a.from s g1) (RsL.from s g1 b)
def tAb (U : Uni) (W : WX) (B : Hp) (r : List Sl → Oc (List Rs)) : TA := fun σ H Q => ∃ G env, EnvOk U B G H env σ ∧
  match r env with
  | .no => False
  | .ex c => ∀ G' H', Grow G H G' H' → W (.ref (U.exc c)) none σ H'
  | .ok ts => ∀ vs G' H', Grow G H G' H' → RsL U B G' H' H vs ts → Q vs H'
theorem tAb_nil {σ : L2.St} {H : Hp} {Q : List V → Hp → Prop} (h : tAb U W B (fun _ => .ok []) σ H Q) : Q [] H := by
  obtain ⟨G, env, I, h⟩ := h
  exact h [] G H (Grow.refl I.sub) .nil
theorem tAb_cons {r : List Sl → Oc Rs} {rs : List Sl → Oc (List Rs)} {σ : L2.St} {H : Hp} {Q : List V → Hp → Prop}
    (h : tAb U W B (fun env => r env >>= fun t => rs env >>= fun ts => .ok (t :: ts)) σ H Q) : tCons (tR U W B r) (tAb U W B rs) σ H Q := by
  obtain ⟨G, env, I, h⟩ := h
  dsimp only at h
  refine ⟨G, env, I, ?_⟩
  unfold Post
  cases e : r env with
  | no => rw [e] at h; exact h
  | ex c => rw [e] at h; exact h
  | ok t =>
    rw [e, Oc.ok_bind] at h
    intro v G1 H1 g1 k1
    refine ⟨G1, env, I.later g1, ?_⟩
    cases e2 : rs env with
    | no => rw [e2] at h; exact h
    | ex c => rw [e2] at h; exact fun G' H' g => h G' H' (g1.trans g)
    | ok ts => rw [e2] at h; exact fun vs G2 H2 g2 k2 => h (v :: vs) G2 H2 (g1.trans g2) (.cons (k1.later I.sub g1 g2) (k2.from I.sub g1))
theorem cb_bnil : PA X [] (tAb U W B fun _ => .ok []) := PA.weak pa_nil fun _ _ _ h => tAb_nil h
theorem cb_bcons {e : Expr} {es : List Expr} {r : List Sl → Oc Rs} {rs : List Sl → Oc (List Rs)} (h1 : PE X e (tR U W B r)) (h2 : PA X es (tAb U W B rs)) (hs : starEach (e :: es) X.env = (false, eval e X.env) :: starEach es X.env) :
    PA X (e :: es) (tAb U W B fun env => r env >>= fun t => rs env >>= fun ts => .ok (t :: ts)) := PA.weak (pa_cons h1 h2 hs) fun _ _ _ h => tAb_cons h

/-! ### displays -/
theorem tAr_disp {r : List Sl → Oc (List Tr)} {z : List Tr → Rs} {σ : L2.St} {H : Hp} {Q : VK} {t : List V → Hp → Prop}
    (h : tR U W B (fun env => r env >>= fun ts => if sizeOk ts.length then .ok (z ts) else .no) σ H Q)
    (hop : ∀ G H1 vs ts, Same G H1 → RepL U G vs ts → ts.length ≤ sizeLine → (∀ v G' H', Grow G H1 G' H' → RsOk U B G' H' H1 v (z ts) → Q v H') → t vs H1) : tAr U W B r σ H t := by
  obtain ⟨G, env, I, h⟩ := h
  have h : Post U W B (r env >>= fun ts => if sizeOk ts.length then .ok (z ts) else .no) G H σ Q := h
  refine ⟨G, env, I, ?_⟩
  unfold PostL
  cases e : r env with
  | no => rw [e] at h; exact h
  | ex c => rw [e] at h; exact h
  | ok ts =>
    rw [e, Oc.ok_bind] at h
    intro vs G1 H1 g1 k1
    split at h
    · rename_i hs
      exact hop G1 H1 vs ts g1.gh k1 (sizeOk_le hs) fun v G' H' g k => h v G' H' (g1.trans g) (k.from I.sub g1)
    · exact h.elim
theorem cb_tup {es : List Expr} {k : Nat} {pos : Pos} {rs : List Sl → Oc (List Tr)} (h : PA X es (tAr U W B rs)) :
    PE X (.Tuple es k pos) (tR U W B fun env => rs env >>= fun ts => if sizeOk ts.length then .ok (.im (.tup ts)) else .no) :=
  PE.weak (pe_tup h) fun σ H Q h => tAr_disp (z := fun ts => .im (.tup ts)) h fun G H1 vs ts s r hs q => ⟨by rw [r.length]; exact hs, fun p hp => by
    have g := Grow.made (o := .tup vs) s hp
    exact q _ _ _ g (Rep.tup (.inl (.inl upd_same)) (r.mono g.gg))⟩
theorem cb_lst {es : List Expr} {pos : Pos} {rs : List Sl → Oc (List Tr)} (h : PA X es (tAr U W B rs)) :
    PE X (.List es pos) (tR U W B fun env => rs env >>= fun ts => if sizeOk ts.length then .ok (.ow ts) else .no) :=
  PE.weak (pe_lst h) fun σ H Q h => tAr_disp (z := fun ts => .ow ts) h fun G H1 vs ts s r hs q => ⟨by rw [r.length]; exact hs, fun p hp => by
    have hg : G p = none := by
      cases z : G p with
      | none => rfl
      | some o => rw [s p o z] at hp; cases hp
    exact q _ _ _ (Grow.made0 s hp) ⟨p, vs, rfl, hp, hg, upd_same, r⟩⟩

/-! ### subscripts -/
theorem atI_rep {G : Hp} {vs : List V} {ts : List Tr} {i : Int} {t : Tr} (r : RepL U G vs ts) (h : atI ts i = some t) : ∃ v, atI vs i = some v ∧ Rep U G v t := by
  unfold atI at h ⊢
  rw [r.length]
  cases e : ixN ts.length i with
  | none => rw [e] at h; cases h
  | some j =>
    rw [e] at h
    exact r.get h
theorem zip_rep {G : Hp} : ∀ {ks : List Int} {vs : List V} {ts : List Tr} {i : Int} {t : Tr}, RepL U G vs ts → (ks.zip ts).lookup i = some t → ∃ v, (ks.zip vs).lookup i = some v ∧ Rep U G v t
  | [], _, _, _, _, _, h => by simp at h
  | k :: ks, _, _, _, _, .nil, h => by simp at h
  | k :: ks, _, _, i, t, .cons r rr, h => by
    rw [List.zip_cons_cons, List.lookup_cons] at h
    rw [List.zip_cons_cons, List.lookup_cons]
    cases hk : i == k with
    | true => rw [hk] at h; cases h; exact ⟨_, rfl, r⟩
    | false => rw [hk] at h; exact zip_rep rr h
def rIxD (U : Uni) : R2 := fun x y H Q => ∃ a ks vs i v, x = .ref a ∧ y = .int i ∧ KDi U a ks vs ∧ (ks.zip vs).lookup i = some v ∧ Q v H
def rIxA (U : Uni) (K : PySem.W.Frag) : R2 := fun x y H Q => rIxL K x y H Q ∨ rIxT K x y H Q ∨ rIxD U x y H Q
/-- a written dict may be subscripted -/
def DctOk (U : Uni) (X : Cx) : Prop := IxR X (rIxD U)
theorem ixE_ex {a b : Tr} {c : Nat} : ixE a b ≠ .ex c := by
  unfold ixE
  split <;> (try split) <;> intro h <;> cases h
theorem cb_ix {a b : Expr} {pos : Pos} {ra rb : List Sl → Oc Rs} (hK : X.K = U.K) (hd : DctOk U X) (hs : PlainIx b) (ha : PE X a (tR U W B ra)) (hb : PE X b (tR U W B rb)) :
    PE X (.Subscript a b pos) (tR U W B fun env => ra env >>= fun x => rb env >>= fun y => ixE x.see y.see >>= fun t => .ok (.im t)) :=
  PE.weak (pe_ix (r := rIxA U X.K) (ix_list.or (ix_tup.or hd)) ha hb hs) fun σ H Q h => tR_two h (fun x y c => by cases e : ixE x.see y.see <;> simp [e] <;> exact fun z => ixE_ex (z ▸ e)) fun G H2 v w x y z s kx ky e q => by
    cases e2 : ixE x.see y.see with
    | no => rw [e2] at e; cases e
    | ex c => rw [e2] at e; cases e
    | ok t =>
      rw [e2] at e
      cases e
      unfold ixE at e2
      split at e2
      · rename_i xs i e3 e4
        split at e2
        · rename_i t' e5
          cases e2
          obtain ⟨_, p, vs, rfl, hg, hh, r⟩ := kx.tuple s e3
          obtain ⟨v, h1, h2⟩ := atI_rep r e5
          refine .inr (.inl ⟨p, vs, i, v, rfl, ky.int e4, ?_, h1, q v G H2 (Grow.refl s) h2⟩)
          rw [hK]; exact hh
        · cases e2
      · rename_i xs i e3 e4
        split at e2
        · rename_i t' e5
          cases e2
          obtain ⟨p, vs, rfl, hh, r⟩ := kx.list s e3
          obtain ⟨v, h1, h2⟩ := atI_rep r e5
          exact .inl ⟨p, vs, i, v, rfl, ky.int e4, hK ▸ hh, h1, q v G H2 (Grow.refl s) h2⟩
        · cases e2
      · rename_i ks ts i e3 e4
        split at e2
        · rename_i t' e5
          cases e2
          cases x with
          | im t2 =>
            have e3 : t2 = .dct ks ts := e3
            subst e3
            cases kx with
            | dct h1 h2 h3 =>
              obtain ⟨v, h4, h5⟩ := zip_rep h3 e5
              exact .inr (.inr ⟨_, ks, _, i, v, rfl, ky.int e4, h1, h4, q v G H2 (Grow.refl s) h5⟩)
          | ow xs => cases e3
          | br xs => cases e3
        · cases e2
      · cases e2
end
end PF

namespace PF
open PySem PySem.Spec PyProof.Rows L2
section
variable {U : Uni} {W : WX} {B : Hp} {X : Cx}
theorem ghost_none {G H : Hp} (s : Same G H) {p : Addr} (hp : H p = none) : G p = none := by
  cases z : G p with
  | none => rfl
  | some o => rw [s p o z] at hp; cases hp
/-! ### slices -/
def tPo (U : Uni) (W : WX) (B : Hp) (r : List Sl → Oc (Option Int)) : TO := fun σ H Q => ∃ G env, EnvOk U B G H env σ ∧
  match r env with
  | .no => False
  | .ex c => ∀ G' H', Grow G H G' H' → W (.ref (U.exc c)) none σ H'
  | .ok o => ∀ G' H', Grow G H G' H' → Q o H'
theorem PO.weak {e : Option Expr} {t t' : TO} (h : PO X e t) (hw : ∀ σ H Q, t' σ H Q → t σ H Q) : PO X e t' := ⟨fun pins s σ H Q I q => h.run pins s σ H Q I (hw _ _ _ q)⟩
theorem cb_po0 : PO X none (tPo U W B fun _ => .ok none) := PO.weak po_none fun σ H Q ⟨G, env, I, h⟩ => h G H (Grow.refl I.sub)
theorem cb_po1 {e : Expr} {r : List Sl → Oc Rs} (h : PE X e (tR U W B r)) : PO X (some e) (tPo U W B fun env => r env >>= fun l => oInt l.see >>= fun i => .ok (some i)) :=
  PO.weak (po_some h) fun σ H Q ⟨G, env, I, h⟩ => by
    refine ⟨G, env, I, ?_⟩
    dsimp only at h
    unfold Post
    cases e : r env with
    | no => rw [e] at h; exact h
    | ex c => rw [e] at h; exact h
    | ok x =>
      rw [e, Oc.ok_bind] at h
      intro v G1 H1 g1 k1
      cases e2 : oInt x.see with
      | no => rw [e2] at h; exact h.elim
      | ex c => exact absurd e2 oInt_ex
      | ok i => rw [e2] at h; exact ⟨i, k1.int (oInt_ok e2), h G1 H1 g1⟩
def rSlB2 (K : PySem.W.Frag) : V → Option Int → Option Int → Hp → VK → Prop := fun x lo hi H Q => rSlL K x lo hi H Q ∨ rSlA K x lo hi H Q
theorem slE_ex {t : Tr} {l h : Option Int} {c : Nat} : slE t l h ≠ .ex c := by
  unfold slE
  split <;> intro h <;> cases h
theorem cb_sl {a : Expr} {lo hi : Option Expr} {pos p2 : Pos} {ra : List Sl → Oc Rs} {rl rh : List Sl → Oc (Option Int)} (hK : X.K = U.K) (ha : PE X a (tR U W B ra)) (hl : PO X lo (tPo U W B rl)) (hh : PO X hi (tPo U W B rh)) :
    PE X (.Subscript a (.Slice lo hi none p2) pos) (tR U W B fun env => ra env >>= fun x => rl env >>= fun l => rh env >>= fun h => slE x.see l h) :=
  PE.weak (pe_slice (r := rSlB2 X.K) (sl_list.or sl_tupA) ha hl hh) fun σ H Q ⟨G, env, I, h⟩ => by
    refine ⟨G, env, I, ?_⟩
    have h : Post U W B (ra env >>= fun x => rl env >>= fun l => rh env >>= fun h => slE x.see l h) G H σ Q := h
    unfold Post
    cases e : ra env with
    | no => rw [e] at h; exact h
    | ex c => rw [e] at h; exact h
    | ok x =>
      rw [e, Oc.ok_bind] at h
      intro v G1 H1 g1 k1
      refine ⟨G1, env, I.later g1, ?_⟩
      cases e2 : rl env with
      | no => rw [e2] at h; exact h
      | ex c => rw [e2] at h; exact fun G' H' g => h G' H' (g1.trans g)
      | ok l =>
        rw [e2, Oc.ok_bind] at h
        intro G2 H2 g2
        refine ⟨G2, env, I.later (g1.trans g2), ?_⟩
        cases e3 : rh env with
        | no => rw [e3] at h; exact h
        | ex c => rw [e3] at h; exact fun G' H' g => h G' H' ((g1.trans g2).trans g)
        | ok l2 =>
          rw [e3, Oc.ok_bind] at h
          intro G3 H3 g3
          have g13 := (g1.trans g2).trans g3
          have s := g3.gh
          have k := k1.later I.sub g1 (g2.trans g3)
          unfold slE at h
          split at h
          · rename_i xs e4
            obtain ⟨p, vs, rfl, hv, r⟩ := k.list s e4
            refine .inl ⟨p, vs, rfl, hK ▸ hv, fun q hq => ?_⟩
            exact h _ G3 _ (g13.trans (Grow.made0 s hq)) ⟨q, _, rfl, g13.there I.sub hq, ghost_none s hq, upd_same, r.cut l l2⟩
          · rename_i xs e4
            obtain ⟨_, p, vs, rfl, gv, hv, r⟩ := k.tuple s e4
            rw [← hK] at hv
            refine .inr ⟨p, vs, rfl, hv, fun hw => ?_, fun hw q hq => ?_⟩
            · have ec : cutT xs l l2 = xs := by
                unfold cutT
                rw [r.length] at hw
                rw [hw.1, hw.2]
                simp
              rw [ec] at h
              exact h _ G3 H3 g13 (Rep.tup gv r)
            · have g := Grow.made (o := .tup (cutV vs l l2)) s hq
              exact h _ _ _ (g13.trans g) (Rep.tup (.inl (.inl upd_same)) ((r.cut l l2).mono g.gg))
          · exact h.elim

theorem revE_ex {t : Tr} {c : Nat} : revE t ≠ .ex c := by
  unfold revE
  split <;> intro h <;> cases h
theorem cb_rev {a : Expr} {k : Nat} {p1 p2 p3 pos : Pos} {ra : List Sl → Oc Rs} (hK : X.K = U.K) (ha : PE X a (tR U W B ra)) :
    PE X (.Subscript a (.Slice none none (some (.UnaryOp .USub (.Constant (.int 1) k p1) p2)) p3) pos) (tR U W B fun env => ra env >>= fun x => revE x.see) :=
  PE.weak (pe_revL ha) fun σ H Q h => tR_one (f := fun x => revE x.see) h (fun x c => revE_ex) fun G H1 v x z s kx e q => by
    unfold revE at e
    split at e
    · rename_i xs e4
      cases e
      obtain ⟨p, vs, rfl, hv, r⟩ := kx.list s e4
      exact ⟨p, vs, rfl, hK ▸ hv, fun b hb => q _ G _ (Grow.made0 s hb) ⟨b, _, rfl, hb, ghost_none s hb, upd_same, r.reverse⟩⟩
    · cases e
theorem isBE_ex {n b : Bool} {t : Tr} {c : Nat} : isBE n b t ≠ .ex c := by
  unfold isBE
  split <;> intro h <;> cases h
theorem isBE_ok {n b : Bool} {t : Tr} {z : Rs} (h : isBE n b t = .ok z) : ∃ k, t = .bl k ∧ z = .im (.bl (if n then !decide (k = b) else decide (k = b))) := by
  unfold isBE at h
  split at h
  · rename_i k
    cases h
    exact ⟨k, rfl, rfl⟩
  · cases h
theorem cb_isB {a : Expr} {b : Bool} {j : Nat} {p2 pos : Pos} {ra : List Sl → Oc Rs} (ha : PE X a (tR U W B ra)) :
    PE X (.Compare a [.Is] [.Constant (.bool b) j p2] pos) (tR U W B fun env => ra env >>= fun x => isBE false b x.see) :=
  PE.weak (pe_cmpR op_isBl ha pe_bl (nomark _)) fun σ H Q h => tR_one (f := fun x => isBE false b x.see) h (fun x c => isBE_ex) fun G H1 v x z s kx e q => by
    obtain ⟨k, e4, rfl⟩ := isBE_ok e
    have e5 := kx.seen s
    rw [e4] at e5
    cases e5
    exact ⟨k, b, rfl, rfl, q _ G H1 (Grow.refl s) (Rep.bl _)⟩
theorem cb_isnB {a : Expr} {b : Bool} {j : Nat} {p2 pos : Pos} {ra : List Sl → Oc Rs} (ha : PE X a (tR U W B ra)) :
    PE X (.Compare a [.IsNot] [.Constant (.bool b) j p2] pos) (tR U W B fun env => ra env >>= fun x => isBE true b x.see) :=
  PE.weak (pe_cmpR op_notBl ha pe_bl (nomark _)) fun σ H Q h => tR_one (f := fun x => isBE true b x.see) h (fun x c => isBE_ex) fun G H1 v x z s kx e q => by
    obtain ⟨k, e4, rfl⟩ := isBE_ok e
    have e5 := kx.seen s
    rw [e4] at e5
    cases e5
    exact ⟨k, b, rfl, rfl, q _ G H1 (Grow.refl s) (Rep.bl _)⟩
theorem cb_tisB {a : Expr} {b : Bool} {j : Nat} {p2 pos : Pos} {ra : List Sl → Oc Rs} (ha : PE X a (tR U W B ra)) :
    PT X (.Compare a [.Is] [.Constant (.bool b) j p2] pos) (tBo U W B (asB fun env => ra env >>= fun x => isBE false b x.see)) :=
  PT.weak (pt_cmpR op_isBl ha pe_bl (nomark _)) fun σ H Q h => tTest_of h fun Q h => tR_one (f := fun x => isBE false b x.see) h (fun x c => isBE_ex) fun G H1 v x z s kx e q => by
    obtain ⟨k, e4, rfl⟩ := isBE_ok e
    have e5 := kx.seen s
    rw [e4] at e5
    cases e5
    exact ⟨k, b, rfl, rfl, q _ G H1 (Grow.refl s) (Rep.bl _)⟩
theorem cb_tisnB {a : Expr} {b : Bool} {j : Nat} {p2 pos : Pos} {ra : List Sl → Oc Rs} (ha : PE X a (tR U W B ra)) :
    PT X (.Compare a [.IsNot] [.Constant (.bool b) j p2] pos) (tBo U W B (asB fun env => ra env >>= fun x => isBE true b x.see)) :=
  PT.weak (pt_cmpR op_notBl ha pe_bl (nomark _)) fun σ H Q h => tTest_of h fun Q h => tR_one (f := fun x => isBE true b x.see) h (fun x c => isBE_ex) fun G H1 v x z s kx e q => by
    obtain ⟨k, e4, rfl⟩ := isBE_ok e
    have e5 := kx.seen s
    rw [e4] at e5
    cases e5
    exact ⟨k, b, rfl, rfl, q _ G H1 (Grow.refl s) (Rep.bl _)⟩
/-! ### calls -/
def CallP (U : Uni) (C : Ctx) (f : Nat) : Sp := fun vs H Q E => ∃ G ts, Same G H ∧ RepL U G vs ts ∧
  match C.call f ts with
  | .no => False
  | .ex c => ∀ G' H', Grow G H G' H' → E (.ref (U.exc c)) none H'
  | .ok r => r.isBr = false ∧ ∀ v G' H', Grow G H G' H' → RsOk U H G' H' H v r → Q v H'
theorem RsOk.base {G H H0 B' : Hp} {v : V} {r : Rs} (hb : r.isBr = false) (h : RsOk U B G H H0 v r) : RsOk U B' G H H0 v r := by
  cases r with
  | im t => exact h
  | ow xs => exact h
  | br xs => cases hb
def NoBr (C : Ctx) : Prop := ∀ f ts r, C.call f ts = .ok r → r.isBr = false
theorem post_call {C : Ctx} (nb : NoBr C) {f : Nat} {vs : List V} {ts : List Tr} {G H : Hp} {σ : L2.St} {Q : VK} (s : Same G H) (r : RepL U G vs ts) (h : Post U W B (C.call f ts) G H σ Q) : CallP U C f vs H Q (WE W σ) := by
  refine ⟨G, ts, s, r, ?_⟩
  unfold Post at h
  cases e : C.call f ts with
  | no => rw [e] at h; exact h
  | ex c => rw [e] at h; exact h
  | ok z =>
    rw [e] at h
    have nb := nb f ts z e
    exact ⟨nb, fun v G' H' g k => h v G' H' g (k.base nb)⟩
/-- what a value may be called as -/
def Callable (U : Uni) (C : Ctx) (W : WX) (X : Cx) (f : Nat) (u : Value) : Prop := PySem.W.keepIn X.K u = true ∧
  ∀ (pins : List (Addr × Obj)) (s : Shared) (σ : L2.St) (H : Hp) (us : List Value) (vs : List V) (Q : VK), Inv X pins σ H s → Vals vs us → CallP U C f vs H Q (WE W σ) → wpAny (model X.prog X.w) X.A (call u us) (EP X pins σ Q) X.xe s
/-- no star -/
def nostar : Expr → Bool
  | .Starred _ _ => false
  | _ => true
theorem star_cons {e : Expr} {es : List Expr} {env : Env} (h : nostar e = true) : starEach (e :: es) env = (false, eval e env) :: starEach es env := by
  cases e <;> first | rfl | cases h
theorem star_any : ∀ {es : List Expr} {env : Env} {pos : Pos}, es.all nostar = true → (backTo pos (starEach es env)).any (·.1) = false
  | [], _, _, _ => rfl
  | e :: es, env, pos, h => by
    rw [List.all_cons, Bool.and_eq_true] at h
    rw [star_cons h.1]
    have ih := star_any (es := es) (env := env) (pos := pos) h.2
    show (false || (backTo pos (starEach es env)).any (·.1)) = false
    rw [ih]
    rfl
theorem tAr_call {C : Ctx} (nb : NoBr C) {f : Nat} {rs : List Sl → Oc (List Tr)} {σ : L2.St} {H : Hp} {Q : VK} (h : tR U W B (fun env => rs env >>= fun ts => C.call f ts) σ H Q) : tAr U W B rs σ H fun vs H1 => CallP U C f vs H1 Q (WE W σ) := by
  obtain ⟨G, env, I, h⟩ := h
  refine ⟨G, env, I, ?_⟩
  have h : Post U W B (rs env >>= fun ts => C.call f ts) G H σ Q := h
  unfold PostL
  cases e : rs env with
  | no => rw [e] at h; exact h
  | ex c => rw [e] at h; exact h
  | ok ts =>
    rw [e, Oc.ok_bind] at h
    intro vs G1 H1 g1 r
    refine post_call (B := B) nb g1.gh r ?_
    unfold Post at h ⊢
    cases e2 : C.call f ts with
    | no => rw [e2] at h; exact h
    | ex c => rw [e2] at h; exact fun G' H' g => h G' H' (g1.trans g)
    | ok z => rw [e2] at h; exact fun v G' H' g k => h v G' H' (g1.trans g) (k.from I.sub g1)
theorem cb_call {C : Ctx} (nb : NoBr C) {f : Nat} {x : Str} {u : Value} {p pos : Pos} {e : Expr} {es : List Expr} {rs : List Sl → Oc (List Tr)} (hg : Gl X x) (hdb : (x == ("__debug__" : Str)) = false) (hm : X.mg x = some u) (hc : Callable U C W X f u)
    (hst : (e :: es).all nostar = true) (ha : PA X (e :: es) (tAr U W B rs)) : PE X (.Call (.Name x p) (e :: es) [] pos) (tR U W B fun env => rs env >>= fun ts => C.call f ts) := by
  refine ⟨fun pins s σ H Q I h => ?_⟩
  have h := tAr_call nb h
  refine wpAny_Call_Name_kw (ld_glob I hg hm ?_ hdb)
  rw [List.all_cons, Bool.and_eq_true] at hst
  exact PySem.W.callWith_K (first := []) (h₀ := X.base) I.ok.mod.kin hc.1 (thn (ha.run pos pins s σ H _ I h) fun us s1 ⟨vs, H1, I1, r, q⟩ => ⟨I1.kIn, hc.2 pins s1 σ H1 us vs Q I1 r q⟩) (star_cons hst.1) (star_any hst.2)
theorem cb_call0 {C : Ctx} (nb : NoBr C) {f : Nat} {x : Str} {u : Value} {p pos : Pos} (hg : Gl X x) (hdb : (x == ("__debug__" : Str)) = false) (hm : X.mg x = some u) (hc : Callable U C W X f u) :
    PE X (.Call (.Name x p) [] [] pos) (tR U W B fun env => (.ok [] : Oc (List Tr)) >>= fun ts => C.call f ts) := by
  refine ⟨fun pins s σ H Q I h => ?_⟩
  obtain ⟨G, env, I2, h⟩ := h
  refine wpAny_Call_Name_kw (ld_glob I hg hm ?_ hdb)
  exact PySem.W.callWith_K0 (first := []) I.kIn hc.1 (hc.2 pins s σ H [] [] Q I .nil (post_call (B := B) nb I2.sub .nil h))

/-! ### methods -/
structure MethOk (U : Uni) (X : Cx) (c : Nat) (m : Str) (fa : Addr) : Prop where
  cl : Cls X.K (U.cls c)
  me : Meth X.K (U.cls c) m fa
  no : m ∉ U.flds c
theorem lookup_zip_none {m : Str} : ∀ {ns : List Str} {vs : List V}, m ∉ ns → (ns.zip vs).lookup m = none
  | [], _, _ => by simp
  | n :: ns, [], _ => by simp
  | n :: ns, v :: vs, h => by
    rw [List.zip_cons_cons, List.lookup_cons]
    rw [List.mem_cons, not_or] at h
    rw [show (m == n) = false from beq_eq_false_iff_ne.mpr h.1]
    exact lookup_zip_none h.2
theorem lookup_zip_at {f : Str} : ∀ {ns : List Str} {vs : List V} {j : Nat} {v : V}, ns.Nodup → ns[j]? = some f → vs[j]? = some v → (ns.zip vs).lookup f = some v
  | [], _, _, _, _, h, _ => by simp at h
  | n :: ns, [], _, _, _, _, h => by simp at h
  | n :: ns, v :: vs, 0, w, _, h1, h2 => by
    simp at h1 h2
    subst h1 h2
    simp [List.lookup_cons]
  | n :: ns, v :: vs, j + 1, w, nd, h1, h2 => by
    rw [List.nodup_cons] at nd
    have h1 : ns[j]? = some f := by simpa using h1
    have h2 : vs[j]? = some w := by simpa using h2
    have hne : f ≠ n := fun z => nd.1 (z ▸ List.mem_of_getElem? h1)
    rw [List.zip_cons_cons, List.lookup_cons, show (f == n) = false from beq_eq_false_iff_ne.mpr hne]
    exact lookup_zip_at nd.2 h1 h2
/-- a receiver -/
theorem tR_recv {C : Ctx} (nb : NoBr C) {f c : Nat} {ro : List Sl → Oc Rs} {rs : List Sl → Oc (List Tr)} {σ : L2.St} {H : Hp} {Q : VK}
    (h : tR U W B (fun env => ro env >>= Rs.fz >>= fun t => if isIns c t then rs env >>= fun ts => C.call f (t :: ts) else .no) σ H Q) :
    tR U W B ro σ H fun x H1 => ∃ a dx vs, x = .ref a ∧ H1 a = some (.ins (U.cls c) dx ((U.flds c).zip vs)) ∧ tAr U W B rs σ H1 fun ws H2 => CallP U C f (.ref a :: ws) H2 Q (WE W σ) := by
  obtain ⟨G, env, I, h⟩ := h
  have h : Post U W B (ro env >>= Rs.fz >>= fun t => if isIns c t then rs env >>= fun ts => C.call f (t :: ts) else .no) G H σ Q := h
  refine tR_fz ⟨G, env, I, ?_⟩
  show PostT U W (ro env >>= Rs.fz) G H σ _
  unfold PostT
  cases e : (ro env >>= Rs.fz) with
  | no => rw [e] at h; exact h
  | ex c => rw [e] at h; exact h
  | ok t =>
    rw [e, Oc.ok_bind] at h
    intro v G1 H1 g1 k1
    split at h
    · rename_i hi
      cases t <;> first | cases hi | skip
      rename_i c' fs
      have hc : c = c' := by simpa [isIns] using hi
      subst hc
      have k1' := k1
      cases k1 with
      | ins h1 h2 h3 =>
        refine ⟨_, _, _, rfl, g1.gh _ _ h1, G1, env, I.later g1, ?_⟩
        unfold PostL
        cases e2 : rs env with
        | no => rw [e2] at h; exact h
        | ex c => rw [e2] at h; exact fun G' H' g => h G' H' (g1.trans g)
        | ok ts =>
          rw [e2, Oc.ok_bind] at h
          intro ws G2 H2 g2 r
          refine post_call (B := B) nb g2.gh (.cons (k1'.mono g2.gg) r) ?_
          have g12 := g1.trans g2
          unfold Post at h ⊢
          cases e3 : C.call f (.ins c fs :: ts) with
          | no => rw [e3] at h; exact h
          | ex c => rw [e3] at h; exact fun G' H' g => h G' H' (g12.trans g)
          | ok z => rw [e3] at h; exact fun v G' H' g k => h v G' H' (g12.trans g) (k.from I.sub g12)
    · exact h.elim
/-- not super() -/
def plainRecv : Expr → Bool
  | .Call (.Name _ _) [] [] _ => false
  | _ => true
theorem base_plain {o : Expr} {m : Str} {env : Env} {w : Sem Value} (h : plainRecv o = true) : attributeBase o m env w = w := by
  unfold attributeBase
  split
  · cases h
  · rfl
theorem meth_form {o : Expr} {m : Str} {apos pos : Pos} {args : List Expr} {env : Env} (ho : plainRecv o = true) (hp : (apos.endLine == pos.line) = true) (hs : args.all nostar = true) (hl : decide (args.length < 30) = true) :
    eval (.Call (.Attribute o m apos) args [] pos) env = (do
      let ov ← eval o env
      standAt apos.atName
      let (f, first) ← holding [ov] (getMethod ov m (do return (← importBound o env).getD true))
      callWith pos f first (backTo pos (starEach args env)) (backToKw pos (keywordEach [] env))) := by
  have hst : ∀ (es : List Expr), es.all nostar = true → (backTo pos (starEach es env)).all (fun x => !x.1) = true := by
    intro es h
    induction es with
    | nil => rfl
    | cons e es ih =>
      rw [List.all_cons, Bool.and_eq_true] at h
      rw [star_cons h.1]
      exact ih h.2
  have hf : methodCallForm (args.length + 0) (backTo pos (starEach args env)) (backToKw pos (keywordEach [] env)) = true := by
    unfold methodCallForm
    rw [hst args hs, show backToKw pos (keywordEach [] env) = [] from rfl]
    simpa using of_decide_eq_true hl
  show (do
    let ov ← attributeBase o m env (eval o env)
    standAt apos.atName
    methodCall o m apos pos env ov (args.length + 0) (backTo pos (starEach args env)) (backToKw pos (keywordEach [] env))) = _
  rw [base_plain ho]
  unfold methodCall
  rw [hf]
  have hpos : methodCallPos true o env apos pos = pure pos := by
    unfold methodCallPos
    rw [hp]
    rfl
  rw [hpos]
  rfl
theorem cb_meth {C : Ctx} (nb : NoBr C) {f c : Nat} {m : Str} {fa : Addr} {o e : Expr} {es : List Expr} {apos pos : Pos} {ro : List Sl → Oc Rs} {rs : List Sl → Oc (List Tr)} (mo : MethOk U X c m fa) (hc : Callable U C W X f (.ref fa))
    (ho : plainRecv o = true) (hp : (apos.endLine == pos.line) = true) (hl : decide ((e :: es).length < 30) = true)
    (hst : (e :: es).all nostar = true) (he : PE X o (tR U W B ro)) (ha : PA X (e :: es) (tAr U W B rs)) :
    PE X (.Call (.Attribute o m apos) (e :: es) [] pos) (tR U W B fun env => ro env >>= Rs.fz >>= fun t => if isIns c t then rs env >>= fun ts => C.call f (t :: ts) else .no) := by
  refine ⟨fun pins s σ H Q I h => ?_⟩
  have h := tR_recv nb h
  have hst' := hst
  rw [List.all_cons, Bool.and_eq_true] at hst'
  refine PySem.W.methodCall_KW (thn (he.run pins s σ H _ I h) fun u s1 ⟨x, H1, I1, rx, a, dx, vs, ex, ea, q⟩ => ?_) (meth_form ho hp hst hl)
  subst ex
  obtain rfl : u = Value.ref a := rx
  refine getmeth_ok I1 ea mo.cl mo.me (lookup_zip_none mo.no) ?_
  exact PySem.W.callWith_K (first := [.ref a]) (h₀ := X.base) I.ok.mod.kin hc.1 (thn (ha.run pos pins s1 σ H1 _ I1 q) fun us s2 ⟨vs, H2, I2, r, q2⟩ => ⟨I2.kIn, hc.2 pins s2 σ H2 (.ref a :: us) (.ref a :: vs) Q I2 (.cons rfl r) q2⟩) (star_cons hst'.1) (star_any hst'.2)
theorem cb_meth0 {C : Ctx} (nb : NoBr C) {f c : Nat} {m : Str} {fa : Addr} {o : Expr} {apos pos : Pos} {ro : List Sl → Oc Rs} (mo : MethOk U X c m fa) (hc : Callable U C W X f (.ref fa))
    (ho : plainRecv o = true) (hp : (apos.endLine == pos.line) = true) (he : PE X o (tR U W B ro)) :
    PE X (.Call (.Attribute o m apos) [] [] pos) (tR U W B fun env => ro env >>= Rs.fz >>= fun t => if isIns c t then (.ok [] : Oc (List Tr)) >>= fun ts => C.call f (t :: ts) else .no) := by
  refine ⟨fun pins s σ H Q I h => ?_⟩
  have h := tR_recv (rs := fun _ => .ok []) nb h
  refine PySem.W.methodCall_KW (thn (he.run pins s σ H _ I h) fun u s1 ⟨x, H1, I1, rx, a, dx, vs, ex, ea, q⟩ => ?_) (meth_form ho hp rfl rfl)
  subst ex
  obtain rfl : u = Value.ref a := rx
  refine getmeth_ok I1 ea mo.cl mo.me (lookup_zip_none mo.no) ?_
  exact PySem.W.callWith_K0 (first := [.ref a]) I1.kIn hc.1 (hc.2 pins s1 σ H1 [.ref a] [.ref a] Q I1 (.cons rfl .nil) (tAr_nil q))
/-! fields -/
structure FldOk (U : Uni) (X : Cx) (c j : Nat) (f : Str) : Prop where
  cl : Cls X.K (U.cls c)
  na : NoAttr X.K (U.cls c) f
  at_ : (U.flds c)[j]? = some f
  nd : (U.flds c).Nodup
theorem fldE_ex {c j : Nat} {t : Tr} {d : Nat} : fldE c j t ≠ .ex d := by
  unfold fldE
  split
  · split
    · split <;> intro h <;> cases h
    · intro h; cases h
  · intro h; cases h
theorem cb_fld {c j : Nat} {f : Str} {o : Expr} {pos : Pos} {ro : List Sl → Oc Rs} (fo : FldOk U X c j f) (ho : plainRecv o = true) (he : PE X o (tR U W B ro)) :
    PE X (.Attribute o f pos) (tR U W B fun env => ro env >>= fun x => fldE c j x.see >>= fun t => .ok (.im t)) :=
  PE.weak (pe_fld he (base_plain ho)) fun σ H Q h => tR_one h (fun x d => by cases e : fldE c j x.see <;> simp [e] <;> exact fun z => fldE_ex (z ▸ e)) fun G H1 v x z s k e q => by
    cases e2 : fldE c j x.see with
    | no => rw [e2] at e; cases e
    | ex c => rw [e2] at e; cases e
    | ok t =>
      rw [e2] at e
      cases e
      unfold fldE at e2
      split at e2
      · rename_i c' fs e3
        split at e2
        · rename_i hc
          subst hc
          split at e2
          · rename_i t' e4
            cases e2
            cases x with
            | im t2 =>
              have e3 : t2 = .ins c fs := e3
              subst e3
              cases k with
              | ins h1 h2 h3 =>
                obtain ⟨w, h4, h5⟩ := h3.get e4
                exact ⟨_, _, _, _, w, rfl, s _ _ h1, fo.cl, fo.na, lookup_zip_at fo.nd fo.at_ h4, q w G H1 (Grow.refl s) h5⟩
            | ow xs => cases e3
            | br xs => cases e3
          · cases e2
        · cases e2
      · cases e2
end
end PF

namespace PF
open PySem PySem.Spec PyProof.Rows L2
/-! ### the lesser and the greater of two data -/
section
open PySem.W
variable {prog : Program} {w : World} {A : Around} {E : Value → Shared → Prop} {s : Shared}
/-- the lesser of two data, as it stands -/
theorem two_min {a b : Value} {da db : PyData} {as bs : List Addr} {Q : Value → Shared → Prop} (hh : A.handled = none) (ra : Reads s.heap a da as) (rb : Reads s.heap b db bs) (al : AlikeAll [da, db]) (hu : A.units + 1 + PyData.depthAll [da, db] < cLine)
    (h : ∀ h' tk, (∀ c o, s.heap.get? c = some o → h'.get? c = some o) → Q (if dataLt db da = true then b else a) { s with heap := h', toks := tk }) : wpAny (model prog w) A (call (.builtin "min") [a, b]) Q E s := by
  refine call_function_tree F.kind_min F.plain_min F.entry_min (F.args_min2 a b) (wpAny_bind (wpAny_of_eq (a := [none, none]) (by rfl) ?_))
  refine wpAny_bind (wpAny_newObj_type (wpAny_bind ?_))
  have old : ∀ c o, s.heap.get? c = some o → (s.heap.push { cls := .type "tuple", data := .seq #[a, b] }).get? c = some o := fun c o e => Heap.get?_push_of_some _ e
  have rd : ReadsAll (s.heap.push { cls := .type "tuple", data := .seq #[a, b] }) (#[a, b] : Array Value).toList [da, db] (as ++ (bs ++ [])) := .cons (Reads.keeps old ra) (.cons (Reads.keeps old rb) .nil)
  refine iter_tupleW (A := A.in1) (vs := #[a, b]) hh ⟨_, Heap.get?_push_size _ rfl, rfl, 0, rfl⟩ fun t e W st hfp hw hk => ?_
  refine wpAny_bind (wpAny_newObj_type ?_)
  have nf : t.heap.objs.size ∉ [(s.heap.push { cls := .type "tuple", data := .seq #[a, b] }).objs.size, s.heap.objs.size] := fun hm => absurd (hfp _ hm) (Nat.lt_irrefl _)
  refine wpAny_pure ⟨plainId_quiet F.plain_min_loop _, ?_⟩
  refine codeAny_min_loop_firstH (R := _) W (s.heap.push { cls := .type "tuple", data := .seq #[a, b] }) hw _ (cmpIn_lt (s := { s with heap := s.heap.push { cls := .type "tuple", data := .seq #[a, b] } }) (A := A.in1) (vs := #[a, b]) (xs := [da, db]) rd al hu) t.heap.objs.size nf (fresh_in hk) _ (Nat.zero_lt_succ 1) (fun c o ec => Heap.get?_push_of_some _ (hk c o ec))
    (W.frame 0 t _ t.toks st (Nat.le_refl _) fun c _ o ec => Heap.get?_push_of_some _ ec) (Heap.get?_push_size _ rfl) fun v u hv m => ?_
  obtain ⟨h2, tk, rfl, keep⟩ := moved_old e rfl (Moved.drop_new (tk := t.toks) m (Nat.le_refl _))
  have hv2 : (if dataLt db da = true then b else a) = v := by
    cases z : dataLt db da <;> simp [argBest, z] at hv <;> simp <;> exact hv
  rw [← hv2]
  exact h h2 tk fun c o ec => keep c o (old c o ec)
/-- the greater of two data, as it stands -/
theorem two_max {a b : Value} {da db : PyData} {as bs : List Addr} {Q : Value → Shared → Prop} (hh : A.handled = none) (ra : Reads s.heap a da as) (rb : Reads s.heap b db bs) (al : AlikeAll [da, db]) (hu : A.units + 1 + PyData.depthAll [da, db] < cLine)
    (h : ∀ h' tk, (∀ c o, s.heap.get? c = some o → h'.get? c = some o) → Q (if dataLt da db = true then b else a) { s with heap := h', toks := tk }) : wpAny (model prog w) A (call (.builtin "max") [a, b]) Q E s := by
  refine call_function_tree F.kind_max F.plain_max F.entry_max (F.args_max2 a b) (wpAny_bind (wpAny_of_eq (a := [none, none]) (by rfl) ?_))
  refine wpAny_bind (wpAny_newObj_type (wpAny_bind ?_))
  have old : ∀ c o, s.heap.get? c = some o → (s.heap.push { cls := .type "tuple", data := .seq #[a, b] }).get? c = some o := fun c o e => Heap.get?_push_of_some _ e
  have rd : ReadsAll (s.heap.push { cls := .type "tuple", data := .seq #[a, b] }) (#[a, b] : Array Value).toList [da, db] (as ++ (bs ++ [])) := .cons (Reads.keeps old ra) (.cons (Reads.keeps old rb) .nil)
  refine iter_tupleW (A := A.in1) (vs := #[a, b]) hh ⟨_, Heap.get?_push_size _ rfl, rfl, 0, rfl⟩ fun t e W st hfp hw hk => ?_
  refine wpAny_bind (wpAny_newObj_type ?_)
  have nf : t.heap.objs.size ∉ [(s.heap.push { cls := .type "tuple", data := .seq #[a, b] }).objs.size, s.heap.objs.size] := fun hm => absurd (hfp _ hm) (Nat.lt_irrefl _)
  refine wpAny_pure ⟨plainId_quiet F.plain_max_loop _, ?_⟩
  refine codeAny_max_loop_firstH (R := _) W (s.heap.push { cls := .type "tuple", data := .seq #[a, b] }) hw _ (cmpIn_gt (s := { s with heap := s.heap.push { cls := .type "tuple", data := .seq #[a, b] } }) (A := A.in1) (vs := #[a, b]) (xs := [da, db]) rd al hu) t.heap.objs.size nf (fresh_in hk) _ (Nat.zero_lt_succ 1) (fun c o ec => Heap.get?_push_of_some _ (hk c o ec))
    (W.frame 0 t _ t.toks st (Nat.le_refl _) fun c _ o ec => Heap.get?_push_of_some _ ec) (Heap.get?_push_size _ rfl) fun v u hv m => ?_
  obtain ⟨h2, tk, rfl, keep⟩ := moved_old e rfl (Moved.drop_new (tk := t.toks) m (Nat.le_refl _))
  have hv2 : (if dataLt da db = true then b else a) = v := by
    cases z : dataLt da db <;> simp [argBest, z] at hv <;> simp <;> exact hv
  rw [← hv2]
  exact h h2 tk fun c o ec => keep c o (old c o ec)
end
section
variable {U : Uni} {W : WX} {B : Hp} {X : Cx}
/-! ### built-ins -/
def blName : Bl → Str
  | .len => "len" | .abs => "abs" | .int => "int" | .max2 => "max" | .min2 => "min" | .list => "list" | .tuple => "tuple" | .sum => "sum" | .min1 => "min" | .max1 => "max" | .all => "all" | .any => "any"
def blVal : Bl → Value
  | .len => .builtin "len" | .abs => .builtin "abs" | .int => .type "int" | .max2 => .builtin "max" | .min2 => .builtin "min" | .list => .type "list" | .tuple => .type "tuple" | .sum => .builtin "sum" | .min1 => .builtin "min" | .max1 => .builtin "max"
  | .all => .builtin "all" | .any => .builtin "any"
/-- by values: the arguments are a built-in's -/
def rBl (U : Uni) (B : Hp) (b : Bl) : List V → Hp → VK → Prop := fun vs H Q => ∃ G H0 rs z, Same G H ∧ RsL U B G H H0 vs rs ∧ bltE b rs = .ok z ∧ ∀ v G' H', Grow G H G' H' → RsOk U B G' H' H v z → Q v H'
theorem asInts_rep {H : Hp} : ∀ {vs : List V} {ts : List Tr} {ns : List Int}, RepL U H vs ts → asInts ts = .ok ns → vs = ns.map V.int
  | _, _, _, .nil, h => by cases h; rfl
  | _, _, ns, .cons (t := t) r rr, h => by
    unfold asInts at h
    cases e : oInt t with
    | no => rw [e] at h; cases h
    | ex c => rw [e] at h; cases h
    | ok i =>
      rw [e, Oc.ok_bind] at h
      rename_i vs' v ts'
      cases e2 : asInts ts' with
      | no => rw [e2] at h; cases h
      | ex c => rw [e2] at h; cases h
      | ok is =>
        rw [e2] at h
        cases h
        have e' := oInt_ok e
        subst e'
        cases r
        rw [List.map_cons, asInts_rep rr e2]
theorem asBools_rep {H : Hp} : ∀ {vs : List V} {ts : List Tr} {ns : List Bool}, RepL U H vs ts → asBools ts = .ok ns → vs = ns.map V.bl
  | _, _, _, .nil, h => by cases h; rfl
  | _, _, ns, .cons (t := t) r rr, h => by
    unfold asBools at h
    cases e : oBool t with
    | no => rw [e] at h; cases h
    | ex c => rw [e] at h; cases h
    | ok i =>
      rw [e, Oc.ok_bind] at h
      rename_i vs' v ts'
      cases e2 : asBools ts' with
      | no => rw [e2] at h; cases h
      | ex c => rw [e2] at h; cases h
      | ok is =>
        rw [e2] at h
        cases h
        have e' := oBool_ok e
        subst e'
        cases r
        rw [List.map_cons, asBools_rep rr e2]
theorem asInts_ex : ∀ {ts : List Tr} {c : Nat}, asInts ts ≠ .ex c
  | [], _, h => by cases h
  | t :: ts, c, h => by
    unfold asInts at h
    cases e : oInt t with
    | no => rw [e] at h; cases h
    | ex c => exact oInt_ex e
    | ok i =>
      rw [e, Oc.ok_bind] at h
      cases e2 : asInts ts with
      | no => rw [e2] at h; cases h
      | ex c => exact asInts_ex e2
      | ok is => rw [e2] at h; cases h
theorem asBools_ex : ∀ {ts : List Tr} {c : Nat}, asBools ts ≠ .ex c
  | [], _, h => by cases h
  | t :: ts, c, h => by
    unfold asBools at h
    cases e : oBool t with
    | no => rw [e] at h; cases h
    | ex c => exact oBool_ex e
    | ok i =>
      rw [e, Oc.ok_bind] at h
      cases e2 : asBools ts with
      | no => rw [e2] at h; cases h
      | ex c => exact asBools_ex e2
      | ok is => rw [e2] at h; cases h
theorem minL_le : ∀ {ns : List Int} {y : Int}, y ∈ ns → minL ns ≤ y
  | [x], y, h => by simp at h; subst h; exact Int.le_refl _
  | x :: z :: r, y, h => by
    have ih := fun y h => minL_le (ns := z :: r) (y := y) h
    show min x (minL (z :: r)) ≤ y
    rcases List.mem_cons.mp h with rfl | h
    · exact Int.min_le_left _ _
    · exact Int.le_trans (Int.min_le_right _ _) (ih y h)
theorem minL_in : ∀ {ns : List Int}, ns ≠ [] → minL ns ∈ ns
  | [x], _ => by simp [minL]
  | x :: z :: r, _ => by
    have ih := minL_in (ns := z :: r) (by simp)
    show min x (minL (z :: r)) ∈ _
    rcases Int.le_total x (minL (z :: r)) with q | q
    · rw [Int.min_eq_left q]; exact List.mem_cons_self
    · rw [Int.min_eq_right q]; exact List.mem_cons_of_mem _ ih
theorem maxL_ge : ∀ {ns : List Int} {y : Int}, y ∈ ns → y ≤ maxL ns
  | [x], y, h => by simp at h; subst h; exact Int.le_refl _
  | x :: z :: r, y, h => by
    have ih := fun y h => maxL_ge (ns := z :: r) (y := y) h
    show y ≤ max x (maxL (z :: r))
    rcases List.mem_cons.mp h with rfl | h
    · exact Int.le_max_left _ _
    · exact Int.le_trans (ih y h) (Int.le_max_right _ _)
theorem maxL_in : ∀ {ns : List Int}, ns ≠ [] → maxL ns ∈ ns
  | [x], _ => by simp [maxL]
  | x :: z :: r, _ => by
    have ih := maxL_in (ns := z :: r) (by simp)
    show max x (maxL (z :: r)) ∈ _
    rcases Int.le_total x (maxL (z :: r)) with q | q
    · rw [Int.max_eq_right q]; exact List.mem_cons_of_mem _ ih
    · rw [Int.max_eq_left q]; exact List.mem_cons_self
theorem RsL.one {G H H0 : Hp} {vs : List V} {r : Rs} (h : RsL U B G H H0 vs [r]) : ∃ v, vs = [v] ∧ RsOk U B G H H0 v r := by
  cases h with
  | cons a b => cases b; exact ⟨_, rfl, a⟩
theorem RsL.two {G H H0 : Hp} {vs : List V} {r r' : Rs} (h : RsL U B G H H0 vs [r, r']) : ∃ v w, vs = [v, w] ∧ RsOk U B G H H0 v r ∧ RsOk U B G H H0 w r' := by
  cases h with
  | cons a b =>
    cases b with
    | cons c d => cases d; exact ⟨_, _, rfl, a, c⟩
theorem map1 {rs : List Rs} {t : Tr} (h : rs.map Rs.see = [t]) : ∃ r, rs = [r] ∧ r.see = t := by
  match rs, h with
  | [r], h => exact ⟨r, rfl, by simpa using h⟩
theorem map2 {rs : List Rs} {t u : Tr} (h : rs.map Rs.see = [t, u]) : ∃ r r', rs = [r, r'] ∧ r.see = t ∧ r'.see = u := by
  match rs, h with
  | [r, r'], h => exact ⟨r, r', rfl, by simpa using h⟩
theorem ltE_ex {a b : Tr} {c : Nat} : ltE a b ≠ .ex c := by
  unfold ltE
  split
  · split <;> intro h <;> cases h
  · intro h; cases h
theorem bltE_ex {b : Bl} {rs : List Rs} {c : Nat} : bltE b rs ≠ .ex c := by
  unfold bltE
  split <;> intro h
  all_goals first
    | (cases h; done)
    | (rename_i t _
       cases e : itemsOf t with
       | no => rw [e] at h; cases h
       | ex c => exact itemsOf_ex e
       | ok i => rw [e] at h; cases h)
    | (rename_i xs _
       cases e : asInts xs with
       | no => rw [e] at h; cases h
       | ex c => exact asInts_ex e
       | ok i => rw [e, Oc.ok_bind] at h; first | (cases h; done) | (split at h <;> cases h))
    | (rename_i xs ys _
       first
       | (cases e : ltE (.tup ys) (.tup xs) with
          | no => rw [e] at h; cases h
          | ex c => exact ltE_ex e
          | ok i => rw [e, Oc.ok_bind] at h; cases h)
       | (cases e : ltE (.tup xs) (.tup ys) with
          | no => rw [e] at h; cases h
          | ex c => exact ltE_ex e
          | ok i => rw [e, Oc.ok_bind] at h; cases h))
    | (rename_i xs _
       cases e : asBools xs with
       | no => rw [e] at h; cases h
       | ex c => exact asBools_ex e
       | ok i => rw [e, Oc.ok_bind] at h; cases h)
theorem seen_items {G H H0 : Hp} {v : V} {r : Rs} {t : Tr} {xs : List Tr} (s : Same G H) (k : RsOk U B G H H0 v r) (e : r.see = t) (h : itemsOf t = .ok xs) :
    ∃ a vs, v = .ref a ∧ RepL U G vs xs ∧ ((SqL U.K H a vs ∧ t = .lst xs) ∨ (SqT U.K G a vs ∧ SqT U.K H a vs ∧ t = .tup xs)) := by
  rcases itemsOf_ok h with rfl | rfl
  · obtain ⟨a, vs, rfl, h1, h2⟩ := k.list s e
    exact ⟨a, vs, rfl, h2, .inl ⟨h1, rfl⟩⟩
  · obtain ⟨_, a, vs, rfl, h0, h1, h2⟩ := k.tuple s e
    exact ⟨a, vs, rfl, h2, .inr ⟨h0, h1, rfl⟩⟩
theorem seen_lst {G H H0 : Hp} {v : V} {r : Rs} {xs : List Tr} (s : Same G H) (k : RsOk U B G H H0 v r) (e : r.see = .lst xs) : ∃ a vs, v = .ref a ∧ RepL U G vs xs ∧ SqL U.K H a vs := by
  obtain ⟨a, vs, rfl, h1, h2⟩ := k.list s e
  exact ⟨a, vs, rfl, h2, h1⟩
theorem ltE_ok {a b : Tr} {k : Bool} (h : ltE a b = .ok k) : ∃ d e, a.toD = some d ∧ b.toD = some e ∧ (PySem.W.alike d e = true ∧ PySem.W.alike e d = true ∧ PySem.W.alike d d = true ∧ PySem.W.alike e e = true) ∧ (d.depth ≤ 32 ∧ e.depth ≤ 32) ∧ k = PySem.W.dataLt d e := by
  unfold ltE at h
  split at h
  · rename_i d e h1 h2
    split at h
    · rename_i hc
      simp only [Bool.and_eq_true, decide_eq_true_eq] at hc
      obtain ⟨⟨⟨c1, c2⟩, c3, c4⟩, c5, c6⟩ := hc
      cases h
      exact ⟨d, e, h1, h2, ⟨c1, c2, c3, c4⟩, ⟨c5, c6⟩, rfl⟩
    · cases h
  · cases h
theorem alike_two {d e : PyData} (h : PySem.W.alike d e = true ∧ PySem.W.alike e d = true ∧ PySem.W.alike d d = true ∧ PySem.W.alike e e = true) (h1 : d ≠ .none) (h2 : e ≠ .none) : PySem.W.AlikeAll [d, e] := by
  obtain ⟨c1, c2, c3, c4⟩ := h
  refine ⟨fun x hx y hy => ?_, fun x hx => ?_⟩
  · simp only [List.mem_cons, List.not_mem_nil, or_false] at hx hy
    rcases hx with rfl | rfl <;> rcases hy with rfl | rfl <;> assumption
  · simp only [List.mem_cons, List.not_mem_nil, or_false] at hx
    rcases hx with rfl | rfl <;> assumption
theorem toD_tup {xs : List Tr} {d : PyData} (h : (Tr.tup xs).toD = some d) : d ≠ .none := by
  intro z
  subst z
  rw [Tr.toD] at h
  cases e : Tr.toDs xs <;> rw [e] at h <;> cases h
theorem seen_tup {G H H0 : Hp} {v : V} {r : Rs} {xs : List Tr} (k : RsOk U B G H H0 v r) (e : r.see = .tup xs) : Rep U G v (.tup xs) := by
  cases r with
  | im t =>
    have e : t = .tup xs := e
    subst e
    exact k
  | ow ys => cases e
  | br ys => cases e
theorem call_bl (b : Bl) (hc : X.calm = true) (hu : X.A.units + 64 < cLine) (hK : X.K = U.K) : CallR X (blVal b) (rBl U B b) := by
  intro pins s σ H vs us Q I r h
  obtain ⟨G, H0, rs, z, sm, k, e, q⟩ := h
  unfold bltE at e
  split at e
  · -- len
    rename_i t e1
    obtain ⟨r1, rfl, e0⟩ := map1 e1
    obtain ⟨v, rfl, k1⟩ := k.one
    cases e2 : itemsOf t with
    | no => rw [e2] at e; cases e
    | ex c => rw [e2] at e; cases e
    | ok xs =>
      rw [e2, Oc.ok_bind] at e
      cases e
      obtain ⟨a, ws, rfl, rr, hh⟩ := seen_items sm k1 e0 e2
      refine call_len_seq pins s σ H _ us Q I r ⟨a, ws, rfl, ?_, ?_⟩
      · rw [hK]
        rcases hh with ⟨hh, _⟩ | ⟨_, hh, _⟩
        · exact .inl hh
        · exact .inr hh
      · rw [rr.length]
        exact q _ G H (Grow.refl sm) (Rep.int _)
  · rename_i i e1
    obtain ⟨r1, rfl, e0⟩ := map1 e1
    obtain ⟨v, rfl, k1⟩ := k.one
    cases e
    rw [k1.int e0] at r
    exact call_abs pins s σ H _ us Q I r ⟨i, rfl, q _ G H (Grow.refl sm) (Rep.int _)⟩
  · rename_i i e1
    obtain ⟨r1, rfl, e0⟩ := map1 e1
    obtain ⟨v, rfl, k1⟩ := k.one
    cases e
    rw [k1.int e0] at r
    exact call_int1 pins s σ H _ us Q I r (.inl ⟨i, rfl, q _ G H (Grow.refl sm) (Rep.int _)⟩)
  · rename_i i e1
    obtain ⟨r1, rfl, e0⟩ := map1 e1
    obtain ⟨v, rfl, k1⟩ := k.one
    cases e
    rw [k1.bl e0] at r
    exact call_int1 pins s σ H _ us Q I r (.inr ⟨i, rfl, q _ G H (Grow.refl sm) (Rep.int _)⟩)
  · rename_i i j e1
    obtain ⟨r1, r2, rfl, e0, e2⟩ := map2 e1
    obtain ⟨v, w, rfl, k1, k2⟩ := k.two
    cases e
    rw [k1.int e0, k2.int e2] at r
    exact call_max2 hc pins s σ H _ us Q I r ⟨i, j, rfl, q _ G H (Grow.refl sm) (Rep.int _)⟩
  · rename_i i j e1
    obtain ⟨r1, r2, rfl, e0, e2⟩ := map2 e1
    obtain ⟨v, w, rfl, k1, k2⟩ := k.two
    cases e
    rw [k1.int e0, k2.int e2] at r
    exact call_min2 hc pins s σ H _ us Q I r ⟨i, j, rfl, q _ G H (Grow.refl sm) (Rep.int _)⟩
  · -- list
    rename_i t e1
    obtain ⟨r1, rfl, e0⟩ := map1 e1
    obtain ⟨v, rfl, k1⟩ := k.one
    cases e2 : itemsOf t with
    | no => rw [e2] at e; cases e
    | ex c => rw [e2] at e; cases e
    | ok xs =>
      rw [e2, Oc.ok_bind] at e
      cases e
      obtain ⟨a, ws, rfl, rr, hh⟩ := seen_items sm k1 e0 e2
      refine call_list_of pins s σ H _ us Q I r ⟨a, ws, rfl, ?_, fun p hp => ?_⟩
      · rw [hK]
        rcases hh with ⟨hh, _⟩ | ⟨_, hh, _⟩
        · exact .inl hh
        · exact .inr hh
      · exact q _ G _ (Grow.made0 sm hp) ⟨p, _, rfl, hp, ghost_none sm hp, upd_same, rr⟩
  · -- tuple
    rename_i t e1
    obtain ⟨r1, rfl, e0⟩ := map1 e1
    obtain ⟨v, rfl, k1⟩ := k.one
    cases e2 : itemsOf t with
    | no => rw [e2] at e; cases e
    | ex c => rw [e2] at e; cases e
    | ok xs =>
      rw [e2, Oc.ok_bind] at e
      cases e
      obtain ⟨a, ws, rfl, rr, hh⟩ := seen_items sm k1 e0 e2
      refine call_tuple_of pins s σ H _ us Q I r ⟨a, ws, rfl, ?_⟩
      rw [hK]
      rcases hh with ⟨hh, _⟩ | ⟨hg, hh, _⟩
      · refine .inl ⟨hh, fun p hp => ?_⟩
        have g := Grow.made (o := .tup ws) sm hp
        exact q _ _ _ g (Rep.tup (.inl (.inl upd_same)) (rr.mono g.gg))
      · exact .inr ⟨hh, q _ G H (Grow.refl sm) (Rep.tup hg rr)⟩
  · -- sum
    rename_i xs e1
    obtain ⟨r1, rfl, e0⟩ := map1 e1
    obtain ⟨v, rfl, k1⟩ := k.one
    cases e2 : asInts xs with
    | no => rw [e2] at e; cases e
    | ex c => rw [e2] at e; cases e
    | ok ns =>
      rw [e2, Oc.ok_bind] at e
      cases e
      obtain ⟨a, ws, rfl, rr, hh⟩ := seen_lst sm k1 e0
      have ew := asInts_rep rr e2
      subst ew
      rw [← hK] at hh
      exact cr_sum hc pins s σ H _ us Q I r ⟨a, ns, rfl, hh, q _ G H (Grow.refl sm) (Rep.int _)⟩
  · -- min
    rename_i xs e1
    obtain ⟨r1, rfl, e0⟩ := map1 e1
    obtain ⟨v, rfl, k1⟩ := k.one
    cases e2 : asInts xs with
    | no => rw [e2] at e; cases e
    | ex c => rw [e2] at e; cases e
    | ok ns =>
      rw [e2, Oc.ok_bind] at e
      split at e
      · cases e
      · rename_i hne
        cases e
        obtain ⟨a, ws, rfl, rr, hh⟩ := seen_lst sm k1 e0
        have ew := asInts_rep rr e2
        subst ew
        rw [← hK] at hh
        have hn : ns ≠ [] := fun z => hne (by rw [z]; rfl)
        refine cr_min hc pins s σ H _ us Q I r ⟨a, ns, rfl, hh, List.length_pos_iff.mpr hn, fun m h1 h2 => ?_⟩
        have em : m = minL ns := Int.le_antisymm (h2 _ (minL_in hn)) (minL_le h1)
        rw [em]
        exact q _ G H (Grow.refl sm) (Rep.int _)
  · -- max
    rename_i xs e1
    obtain ⟨r1, rfl, e0⟩ := map1 e1
    obtain ⟨v, rfl, k1⟩ := k.one
    cases e2 : asInts xs with
    | no => rw [e2] at e; cases e
    | ex c => rw [e2] at e; cases e
    | ok ns =>
      rw [e2, Oc.ok_bind] at e
      split at e
      · cases e
      · rename_i hne
        cases e
        obtain ⟨a, ws, rfl, rr, hh⟩ := seen_lst sm k1 e0
        have ew := asInts_rep rr e2
        subst ew
        rw [← hK] at hh
        have hn : ns ≠ [] := fun z => hne (by rw [z]; rfl)
        refine cr_max hc pins s σ H _ us Q I r ⟨a, ns, rfl, hh, List.length_pos_iff.mpr hn, fun m h1 h2 => ?_⟩
        have em : m = maxL ns := Int.le_antisymm (maxL_ge h1) (h2 _ (maxL_in hn))
        rw [em]
        exact q _ G H (Grow.refl sm) (Rep.int _)
  · -- all
    rename_i xs e1
    obtain ⟨r1, rfl, e0⟩ := map1 e1
    obtain ⟨v, rfl, k1⟩ := k.one
    cases e2 : asBools xs with
    | no => rw [e2] at e; cases e
    | ex c => rw [e2] at e; cases e
    | ok ns =>
      rw [e2, Oc.ok_bind] at e
      cases e
      obtain ⟨a, ws, rfl, rr, hh⟩ := seen_lst sm k1 e0
      have ew := asBools_rep rr e2
      subst ew
      rw [← hK] at hh
      exact cr_all hc pins s σ H _ us Q I r ⟨a, ns, rfl, hh, q _ G H (Grow.refl sm) (Rep.bl _)⟩
  · -- any
    rename_i xs e1
    obtain ⟨r1, rfl, e0⟩ := map1 e1
    obtain ⟨v, rfl, k1⟩ := k.one
    cases e2 : asBools xs with
    | no => rw [e2] at e; cases e
    | ex c => rw [e2] at e; cases e
    | ok ns =>
      rw [e2, Oc.ok_bind] at e
      cases e
      obtain ⟨a, ws, rfl, rr, hh⟩ := seen_lst sm k1 e0
      have ew := asBools_rep rr e2
      subst ew
      rw [← hK] at hh
      exact cr_any hc pins s σ H _ us Q I r ⟨a, ns, rfl, hh, q _ G H (Grow.refl sm) (Rep.bl _)⟩
  · -- min of two
    rename_i xs ys e1
    obtain ⟨r1, r2, rfl, e0, e2⟩ := map2 e1
    obtain ⟨v, w, rfl, k1, k2⟩ := k.two
    have p1 := seen_tup k1 e0
    have p2 := seen_tup k2 e2
    cases e3 : ltE (.tup ys) (.tup xs) with
    | no => rw [e3] at e; cases e
    | ex c => exact absurd e3 ltE_ex
    | ok kk =>
      rw [e3, Oc.ok_bind] at e
      cases e
      obtain ⟨d, e', h1, h2, al, ⟨dd, de⟩, rfl⟩ := ltE_ok e3
      have q1 := p2.dp sm h1
      have q2 := p1.dp sm h2
      rw [← hK] at q1 q2
      obtain ⟨u, u', rfl, ru, ru'⟩ := vals2 r
      obtain ⟨as, ra⟩ := Dp.reads I _ _ _ q1 ru'
      obtain ⟨bs, rb⟩ := Dp.reads I _ _ _ q2 ru
      refine two_min (I.ok.hd hc) rb ra (alike_two ⟨al.2.1, al.1, al.2.2.2, al.2.2.1⟩ (toD_tup h2) (toD_tup h1)) (by
        have : PyData.depthAll [e', d] ≤ 32 := by
          simp only [PyData.depthAll]
          omega
        omega) fun h' tk kp => ?_
      cases z : PySem.W.dataLt d e' with
      | true => rw [z] at q; exact ⟨_, H, I.kept kp, ru', q _ G H (Grow.refl sm) p2⟩
      | false => rw [z] at q; exact ⟨_, H, I.kept kp, ru, q _ G H (Grow.refl sm) p1⟩
  · -- max of two
    rename_i xs ys e1
    obtain ⟨r1, r2, rfl, e0, e2⟩ := map2 e1
    obtain ⟨v, w, rfl, k1, k2⟩ := k.two
    have p1 := seen_tup k1 e0
    have p2 := seen_tup k2 e2
    cases e3 : ltE (.tup xs) (.tup ys) with
    | no => rw [e3] at e; cases e
    | ex c => exact absurd e3 ltE_ex
    | ok kk =>
      rw [e3, Oc.ok_bind] at e
      cases e
      obtain ⟨d, e', h1, h2, al, ⟨dd, de⟩, rfl⟩ := ltE_ok e3
      have q1 := p1.dp sm h1
      have q2 := p2.dp sm h2
      rw [← hK] at q1 q2
      obtain ⟨u, u', rfl, ru, ru'⟩ := vals2 r
      obtain ⟨as, ra⟩ := Dp.reads I _ _ _ q1 ru
      obtain ⟨bs, rb⟩ := Dp.reads I _ _ _ q2 ru'
      refine two_max (I.ok.hd hc) ra rb (alike_two al (toD_tup h1) (toD_tup h2)) (by
        have : PyData.depthAll [d, e'] ≤ 32 := by
          simp only [PyData.depthAll]
          omega
        omega) fun h' tk kp => ?_
      cases z : PySem.W.dataLt d e' with
      | true => rw [z] at q; exact ⟨_, H, I.kept kp, ru', q _ G H (Grow.refl sm) p2⟩
      | false => rw [z] at q; exact ⟨_, H, I.kept kp, ru, q _ G H (Grow.refl sm) p1⟩
  · cases e
theorem tAb_bl {b : Bl} {rs : List Sl → Oc (List Rs)} {σ : L2.St} {H : Hp} {Q : VK} (h : tR U W B (fun env => rs env >>= fun ts => bltE b ts) σ H Q) : tAb U W B rs σ H fun vs H1 => rBl U B b vs H1 Q := by
  obtain ⟨G, env, I, h⟩ := h
  have h : Post U W B (rs env >>= fun ts => bltE b ts) G H σ Q := h
  refine ⟨G, env, I, ?_⟩
  cases e : rs env with
  | no => rw [e] at h; exact h
  | ex c => rw [e] at h; exact h
  | ok ts =>
    rw [e, Oc.ok_bind] at h
    intro vs G1 H1 g1 k
    cases e2 : bltE b ts with
    | no => rw [e2] at h; exact h.elim
    | ex c => exact absurd e2 bltE_ex
    | ok z =>
      rw [e2] at h
      exact ⟨G1, H, ts, z, g1.gh, k, e2, fun v G' H' g q => h v G' H' (g1.trans g) (q.from I.sub g1)⟩
theorem boot_bl (b : Bl) : bootBuiltins (blName b) = some (blVal b) := by cases b <;> decide +kernel
theorem cb_blt {b : Bl} {p pos : Pos} {e : Expr} {es : List Expr} {rs : List Sl → Oc (List Rs)} (hc : X.calm = true) (hu : X.A.units + 64 < cLine) (hK : X.K = U.K) (hg : Gl X (blName b)) (hm : X.mg (blName b) = none) (hst : (e :: es).all nostar = true) (ha : PA X (e :: es) (tAb U W B rs)) :
    PE X (.Call (.Name (blName b) p) (e :: es) [] pos) (tR U W B fun env => rs env >>= fun ts => bltE b ts) := by
  refine PE.weak (t := tCB (rBl U B b) (tAb U W B rs)) ?_ fun σ H Q h => tAb_bl h
  rw [List.all_cons, Bool.and_eq_true] at hst
  refine ⟨fun pins s σ H Q I h => ?_⟩
  have hn : blName b ≠ "__name__" := by cases b <;> decide
  have hd : (blName b == ("__debug__" : Str)) = false := by cases b <;> decide
  have hb := boot_bl b
  have hcall := call_bl (U := U) (B := B) b hc hu hK
  have cs : (∃ id, blVal b = .builtin id) ∨ (∃ T, blVal b = .type T) := by cases b <;> first | exact .inl ⟨_, rfl⟩ | exact .inr ⟨_, rfl⟩
  rcases cs with ⟨id, e2⟩ | ⟨T, e2⟩
  · rw [e2] at hb hcall
    refine wpAny_Call_Name_kw (ld_blt I hg hm hb ?_ hn hd)
    exact PyProof.Rows.callWith_builtin1 (thn (ha.run pos pins s σ H _ I h) fun us s1 ⟨vs, H1, I1, r1, q1⟩ => hcall pins s1 σ H1 vs us Q I1 r1 q1) (star_cons hst.1) (star_any hst.2)
  · rw [e2] at hb hcall
    refine wpAny_Call_Name_kw (ld_blt I hg hm hb ?_ hn hd)
    exact PyProof.Rows.callWith_type1 (thn (ha.run pos pins s σ H _ I h) fun us s1 ⟨vs, H1, I1, r1, q1⟩ => hcall pins s1 σ H1 vs us Q I1 r1 q1) (star_cons hst.1) (star_any hst.2)
end
end PF

namespace PF
open PySem PySem.Spec PyProof.Rows L2
section
variable {U : Uni} {W : WX} {B : Hp} {X : Cx}
/-! ### isinstance -/
def tyName : Ty → String
  | .int => "int" | .bool => "bool" | .tuple => "tuple" | .list => "list" | .str => "str"
def tyStr : Ty → Str
  | .int => "int" | .bool => "bool" | .tuple => "tuple" | .list => "list" | .str => "str"
theorem boot_ty (t : Ty) : bootBuiltins (tyStr t) = some (.type (tyName t)) := by cases t <;> decide +kernel
theorem isiE_ex {t : Ty} {a : Tr} {c : Nat} : isiE t a ≠ .ex c := by
  cases t <;> cases a <;> (intro h; cases h)
theorem sqT_tyx {K : PySem.W.Frag} {H : Hp} {a : Addr} {xs : List V} (h : SqT K H a xs) : TyX K H (.ref a) (.type "tuple") := by
  rcases h with (h | ⟨o, h⟩) | ⟨o, its, n, h1, h2, _⟩
  · exact .base (.tup h)
  · exact .fTuple h
  · exact .kTuple h1 h2
theorem rd_tyx {K : PySem.W.Frag} {H : Hp} {a : Addr} {xs : List V} (h : SqL K H a xs) : TyX K H (.ref a) (.type "list") := by
  rcases h with (h | ⟨o, h⟩) | ⟨o, its, n, h1, h2, _⟩
  · exact .base (.lst h)
  · exact .base (.frz h)
  · exact .kList h1 h2
theorem isi_rep {K : PySem.W.Frag} (hK : K = U.K) {H : Hp} {v : V} {a : Tr} {t : Ty} {b : Bool} (r : Rep U H v a) (e : isiE t a = .ok b) : ∃ tv, TyX K H v tv ∧ PySem.W.kitOne K tv (.type (tyName t)) = some b := by
  cases r with
  | non => refine ⟨_, .base .non, ?_⟩; cases t <;> cases e <;> exact kit_ty (by decide +kernel)
  | bl k => refine ⟨_, .base (.bl k), ?_⟩; cases t <;> cases e <;> exact kit_ty (by decide +kernel)
  | int i => refine ⟨_, .base (.int i), ?_⟩; cases t <;> cases e <;> exact kit_ty (by decide +kernel)
  | str x => refine ⟨_, .base (.str x), ?_⟩; cases t <;> cases e <;> exact kit_ty (by decide +kernel)
  | tup h1 h2 => rw [← hK] at h1; refine ⟨_, sqT_tyx h1, ?_⟩; cases t <;> cases e <;> exact kit_ty (by decide +kernel)
  | lst h1 h2 => rw [← hK] at h1; refine ⟨_, rd_tyx h1, ?_⟩; cases t <;> cases e <;> exact kit_ty (by decide +kernel)
  | ins h1 h2 h3 => cases t <;> cases e
  | dct h1 h2 h3 => cases t <;> cases e
  | raw a => cases t <;> cases e
  | err h => cases t <;> cases e
  | hd h => refine ⟨_, .base (.dK h), ?_⟩; cases t <;> cases e <;> exact kit_ty (by decide +kernel)
theorem cb_isi {t : Ty} {p p2 pos : Pos} {e : Expr} {r : List Sl → Oc Rs} (hK : X.K = U.K) (hg : Gl X "isinstance") (hm : X.mg "isinstance" = none) (hg2 : Gl X (tyStr t)) (hm2 : X.mg (tyStr t) = none) (hst : nostar e = true) (he : PE X e (tR U W B r)) :
    PE X (.Call (.Name "isinstance" p) [e, .Name (tyStr t) p2] [] pos) (tR U W B fun env => r env >>= fun x => isiE t x.see >>= fun b => .ok (.im (.bl b))) := by
  have h2 : PE X (.Name (tyStr t) p2) (tC (.ty (tyName t))) := by
    have hn : tyStr t ≠ "__name__" := by cases t <;> decide
    have hd : (tyStr t == ("__debug__" : Str)) = false := by cases t <;> decide
    exact pe_bltn hg2 hm2 (boot_ty t) rfl hn hd
  refine PE.weak (pe_callB call_isi hg hm (by decide +kernel) (pa_cons he (pa_cons h2 pa_nil rfl) (star_cons hst)) (by decide) (by decide) (star_cons hst) rfl) fun σ H Q h => tR_one h (fun x c => by cases e : isiE t x.see <;> simp [e] <;> exact fun z => isiE_ex (z ▸ e)) fun G H1 v x z s k e q => by
    cases e2 : isiE t x.see with
    | no => rw [e2] at e; cases e
    | ex c => rw [e2] at e; cases e
    | ok b =>
      rw [e2] at e
      cases e
      obtain ⟨tv, h3, h4⟩ := isi_rep hK (k.seen s) e2
      exact ⟨v, .ty (tyName t), tv, .type (tyName t), b, rfl, .ty _, h3, h4, q _ G H1 (Grow.refl s) (Rep.bl _)⟩

/-! ### what is walked -/
def ItOk (U : Uni) (J : It) (xs : List Tr) (G0 : Hp) : Prop := ∀ i G H, Same G0 G → Same G H →
  (∀ t, xs[i]? = some t → J.go i H ∧ ∀ x H', J.yld i H x H' → ∃ G', Grow G H G' H' ∧ Rep U G' x t) ∧ (xs.length ≤ i → J.stop i H)
theorem ItOk.later {J : It} {xs : List Tr} {G G' : Hp} (h : ItOk U J xs G) (s : Same G G') : ItOk U J xs G' := fun i G1 H s1 s2 => h i G1 H (s.trans s1) s2
def tIt (U : Uni) (W : WX) (B : Hp) (r : List Sl → Oc (List Tr)) : TI := fun σ H R => ∃ G env, EnvOk U B G H env σ ∧
  match r env with
  | .no => False
  | .ex c => ∀ G' H', Grow G H G' H' → W (.ref (U.exc c)) none σ H'
  | .ok xs => ∀ J G' H', Grow G H G' H' → ItOk U J xs G' → R J H'
theorem PI.weak {tg iter : Expr} {t t' : TI} (h : PI X tg iter t) (hw : ∀ σ H R, t' σ H R → t σ H R) : PI X tg iter t' := ⟨fun pins s σ H R I q => h.run pins s σ H R I (hw _ _ _ q)⟩
/-- a list or a tuple -/
def iSeq (K : PySem.W.Frag) (tl : TE) : TI := fun σ H R => tl σ H fun x H1 => ∃ a, x = .ref a ∧ (((∃ xs, SqL K H1 a xs) ∧ R (Itl K a) H1) ∨ ((∃ xs, SqT K H1 a xs) ∧ R (Itt K a) H1))
theorem pi_seq {tg l : Expr} {tl : TE} (hl : PE X l tl) : PI X tg l (iSeq X.K tl) := by
  refine ⟨fun pins s σ H R I h => ?_⟩
  refine thn (hl.run pins s σ H _ I h) fun v s1 ⟨x, H1, I1, r1, q1⟩ => ?_
  obtain ⟨a, e, q⟩ := q1
  subst e
  cases r1
  rcases q with ⟨⟨xs, hq⟩, q⟩ | ⟨⟨xs, hq⟩, q⟩
  · obtain ⟨its, rv, p, hz⟩ := I1.list hq
    refine wpAny_pyIter_list p.isList ?_
    refine ⟨s1.heap.objs.size, [s1.heap.objs.size], _, _, H1, rfl, I1.kept (t' := s1.toks) fun b o e => Heap.get?_push_of_some _ e, turn_list a _, ⟨_, Heap.get?_push_size _ rfl, rfl, rfl⟩, fun b hb => ?_, q⟩
    have e : b = s1.heap.objs.size := by simpa using hb
    subst e
    exact I1.fpOk (Nat.le_refl _) (I1.hok.fresh (Nat.le_refl _))
  · obtain ⟨its, rv, p, hz⟩ := I1.tuple hq
    refine wpAny_pyIter_tuple (show s1.heap.IsTuple a its.toArray from p) ?_
    refine ⟨s1.heap.objs.size, [s1.heap.objs.size], _, _, H1, rfl, I1.kept (t' := s1.toks) fun b o e => Heap.get?_push_of_some _ e, turn_tuple a _, ⟨_, Heap.get?_push_size _ rfl, rfl, rfl⟩, fun b hb => ?_, q⟩
    have e : b = s1.heap.objs.size := by simpa using hb
    subst e
    exact I1.fpOk (Nat.le_refl _) (I1.hok.fresh (Nat.le_refl _))
theorem itl_ok {K : PySem.W.Frag} {a : Addr} {vs : List V} {xs : List Tr} {G : Hp} (h : SqL K G a vs) (r : RepL U G vs xs) : ItOk U (Itl K a) xs G := fun i G1 H s1 s2 => by
  have hq : SqL K H a vs := sqL_mono s2 (sqL_mono s1 h)
  refine ⟨fun t ht => ?_, fun hl => ⟨vs, hq, by rw [r.length]; exact hl⟩⟩
  obtain ⟨v, h1, h2⟩ := r.get ht
  refine ⟨⟨vs, v, hq, h1⟩, fun x H' y => ?_⟩
  obtain ⟨rfl, y⟩ := y
  have e := y vs hq
  rw [h1] at e
  cases e
  exact ⟨G1, Grow.refl s2, h2.mono s1⟩
theorem itt_ok {K : PySem.W.Frag} {a : Addr} {vs : List V} {xs : List Tr} {G : Hp} (h : SqT K G a vs) (r : RepL U G vs xs) : ItOk U (Itt K a) xs G := fun i G1 H s1 s2 => by
  have hq : SqT K H a vs := sqT_mono s2 (sqT_mono s1 h)
  refine ⟨fun t ht => ?_, fun hl => ⟨vs, hq, by rw [r.length]; exact hl⟩⟩
  obtain ⟨v, h1, h2⟩ := r.get ht
  refine ⟨⟨vs, v, hq, h1⟩, fun x H' y => ?_⟩
  obtain ⟨rfl, y⟩ := y
  have e := y vs hq
  rw [h1] at e
  cases e
  exact ⟨G1, Grow.refl s2, h2.mono s1⟩
theorem itr_ok {lo n : Int} {G : Hp} : ItOk U (Itr lo n.toNat) (rangeT lo n) G := fun i G1 H s1 s2 => by
  refine ⟨fun t ht => ?_, fun hl => ?_⟩
  · unfold rangeT at ht
    rw [List.getElem?_map, Option.map_eq_some_iff] at ht
    obtain ⟨k, h1, rfl⟩ := ht
    have hk : i < n.toNat ∧ k = i := by
      by_cases hi : i < n.toNat
      · rw [List.getElem?_range hi] at h1
        cases h1
        exact ⟨hi, rfl⟩
      · rw [List.getElem?_eq_none (by rw [List.length_range]; omega)] at h1
        cases h1
    obtain ⟨h2, rfl⟩ := hk
    refine ⟨h2, fun x H' y => ?_⟩
    obtain ⟨rfl, rfl⟩ := y
    exact ⟨G1, Grow.refl s2, Rep.int _⟩
  · show n.toNat ≤ i
    unfold rangeT at hl
    rw [List.length_map, List.length_range] at hl
    exact hl
theorem cb_iter {tg e : Expr} {r : List Sl → Oc Rs} (hK : X.K = U.K) (he : PE X e (tR U W B r)) : PI X tg e (tIt U W B fun env => r env >>= Rs.fz >>= itemsOf) :=
  PI.weak (pi_seq he) fun σ H R ⟨G, env, I, h⟩ => by
    refine tR_fz ⟨G, env, I, ?_⟩
    show PostT U W (r env >>= Rs.fz) G H σ _
    dsimp only at h
    unfold PostT
    cases e : (r env >>= Rs.fz) with
    | no => rw [e] at h; exact h
    | ex c => rw [e] at h; exact h
    | ok t =>
      rw [e, Oc.ok_bind] at h
      intro v G1 H1 g1 k1
      cases e2 : itemsOf t with
      | no => rw [e2] at h; exact h.elim
      | ex c => exact absurd e2 itemsOf_ex
      | ok xs =>
        rw [e2] at h
        rcases itemsOf_ok e2 with rfl | rfl
        · cases k1 with
          | lst h1 h2 =>
            rw [← hK] at h1
            exact ⟨_, rfl, .inl ⟨⟨_, sqL_mono g1.gh h1⟩, h _ G1 H1 g1 (itl_ok h1 h2)⟩⟩
        · cases k1 with
          | tup h1 h2 =>
            rw [← hK] at h1
            exact ⟨_, rfl, .inr ⟨⟨_, sqT_mono g1.gh h1⟩, h _ G1 H1 g1 (itt_ok h1 h2)⟩⟩
theorem smallI_ok {i : Int} (h : smallI i = true) : -(2 ^ 62) ≤ i ∧ i < 2 ^ 62 := by
  unfold smallI at h
  rw [Bool.and_eq_true] at h
  exact ⟨of_decide_eq_true h.1, of_decide_eq_true h.2⟩
theorem cb_rng1 {tg a : Expr} {p pos : Pos} {r : List Sl → Oc Rs} (hg : Gl X "range") (hm : X.mg "range" = none) (hst : nostar a = true) (he : PE X a (tR U W B r)) :
    PI X tg (.Call (.Name "range" p) [a] [] pos) (tIt U W B fun env => r env >>= fun x => oInt x.see >>= fun n => if smallI n then .ok (rangeT 0 n) else .no) :=
  PI.weak (pi_range1 hg hm (pa_cons he pa_nil (star_cons hst)) (star_cons hst)) fun σ H R ⟨G, env, I, h⟩ => by
    refine ⟨G, env, I, ?_⟩
    dsimp only at h
    unfold Post
    cases e : r env with
    | no => rw [e] at h; exact h
    | ex c => rw [e] at h; exact h
    | ok x =>
      rw [e, Oc.ok_bind] at h
      intro v G1 H1 g1 k1
      cases e2 : oInt x.see with
      | no => rw [e2] at h; exact h.elim
      | ex c => exact absurd e2 oInt_ex
      | ok n =>
        rw [e2, Oc.ok_bind] at h
        by_cases hs : smallI n = true
        · rw [if_pos hs] at h
          obtain ⟨s1, s2⟩ := smallI_ok hs
          rw [k1.int (oInt_ok e2)]
          exact ⟨n, rfl, s1, s2, h _ G1 H1 g1 itr_ok⟩
        · rw [if_neg hs] at h
          exact h.elim
theorem cb_rng2 {tg a b : Expr} {p pos : Pos} {ra rb : List Sl → Oc Rs} (hg : Gl X "range") (hm : X.mg "range" = none) (ha : nostar a = true) (hb : nostar b = true) (h1 : PE X a (tR U W B ra)) (h2 : PE X b (tR U W B rb)) :
    PI X tg (.Call (.Name "range" p) [a, b] [] pos) (tIt U W B fun env => ra env >>= fun x => rb env >>= fun y => oInt x.see >>= fun lo => oInt y.see >>= fun n => if smallI lo && smallI n then .ok (rangeT lo (n - lo)) else .no) :=
  PI.weak (pi_range2 hg hm (pa_cons h1 (pa_cons h2 pa_nil (star_cons hb)) (star_cons ha)) (by rw [star_cons ha, star_cons hb]; rfl) (star_cons hb)) fun σ H R ⟨G, env, I, h⟩ => by
    refine ⟨G, env, I, ?_⟩
    dsimp only at h
    unfold Post
    cases e : ra env with
    | no => rw [e] at h; exact h
    | ex c => rw [e] at h; exact h
    | ok x =>
      rw [e, Oc.ok_bind] at h
      intro v G1 H1 g1 k1
      refine ⟨G1, env, I.later g1, ?_⟩
      unfold Post
      cases e2 : rb env with
      | no => rw [e2] at h; exact h
      | ex c => rw [e2] at h; exact fun G' H' g => h G' H' (g1.trans g)
      | ok y =>
        rw [e2, Oc.ok_bind] at h
        intro w G2 H2 g2 k2
        cases e3 : oInt x.see with
        | no => rw [e3] at h; exact h.elim
        | ex c => exact absurd e3 oInt_ex
        | ok lo =>
          rw [e3, Oc.ok_bind] at h
          cases e4 : oInt y.see with
          | no => rw [e4] at h; exact h.elim
          | ex c => exact absurd e4 oInt_ex
          | ok n =>
            rw [e4, Oc.ok_bind] at h
            by_cases hs : (smallI lo && smallI n) = true
            · rw [if_pos hs] at h
              rw [Bool.and_eq_true] at hs
              obtain ⟨s1, s2⟩ := smallI_ok hs.1
              obtain ⟨s3, s4⟩ := smallI_ok hs.2
              rw [k1.int (oInt_ok e3), k2.int (oInt_ok e4)]
              exact ⟨lo, n, rfl, ⟨s1, s2, s3, s4⟩, h _ G2 H2 (g1.trans g2) itr_ok⟩
            · rw [if_neg hs] at h
              exact h.elim

/-! ### targets -/
/-- only these slots have changed -/
def SetOn (is : List Nat) (σ σ' : L2.St) : Prop := σ'.length = σ.length ∧ ∀ j, j ∉ is → σ'[j]? = σ[j]?
def tTg (U : Uni) (B : Hp) (is : List Nat) (b : Tr → List Sl → Oc (List Sl)) : TG := fun v σ H Q => ∃ G env t, EnvOk U B G H env σ ∧ Rep U G v t ∧
  match b t env with
  | .ok env' => ∀ σ', SetOn is σ σ' → EnvOk U B G H env' σ' → Q σ' H
  | _ => False
theorem EnvOk.set {G H : Hp} {env : List Sl} {σ : L2.St} {i : Nat} {v : V} {t : Tr} (I : EnvOk U B G H env σ) (r : Rep U G v t) : EnvOk U B G H (env.set i (.im t)) (σ.set i (some v)) := by
  refine ⟨I.sub, I.old, by rw [List.length_set, List.length_set]; exact I.len, fun j s h => ?_, fun j k xs ys p h1 h2 h3 h4 => ?_⟩
  · by_cases hj : i = j
    · subst hj
      by_cases hl : i < env.length
      · rw [List.getElem?_set_self hl] at h
        cases h
        exact ⟨v, by rw [List.getElem?_set_self (by rw [I.len]; exact hl)], r⟩
      · rw [List.getElem?_eq_none (by rw [List.length_set]; omega)] at h
        cases h
    · rw [List.getElem?_set_ne hj] at h ⊢
      exact I.rep j s h
  · have n1 : i ≠ j := fun e => by
      subst e
      by_cases hl : i < env.length
      · rw [List.getElem?_set_self hl] at h1; cases h1
      · rw [List.getElem?_eq_none (by rw [List.length_set]; omega)] at h1; cases h1
    have n2 : i ≠ k := fun e => by
      subst e
      by_cases hl : i < env.length
      · rw [List.getElem?_set_self hl] at h2; cases h2
      · rw [List.getElem?_eq_none (by rw [List.length_set]; omega)] at h2; cases h2
    rw [List.getElem?_set_ne n1] at h1 h3
    rw [List.getElem?_set_ne n2] at h2 h4
    exact I.sep j k xs ys p h1 h2 h3 h4
theorem setOn_one {σ : L2.St} {i : Nat} {v : Option V} : SetOn [i] σ (σ.set i v) := by
  refine ⟨List.length_set, fun j hj => ?_⟩
  rw [List.getElem?_set_ne]
  intro e
  exact hj (by rw [e]; exact List.mem_singleton.mpr rfl)
theorem bindNm_ok {env env' : List Sl} {i : Nat} {t : Tr} (h : bindNm env i t = .ok env') : env' = env.set i (.im t) := by
  unfold bindNm at h
  split at h
  · cases h; rfl
  · cases h
theorem PG.weak {tg : Expr} {t t' : TG} (h : PG X tg t) (hw : ∀ v σ H Q, t' v σ H Q → t v σ H Q) : PG X tg t' := ⟨fun pins s σ H v u Q I r q => h.run pins s σ H v u Q I r (hw _ _ _ _ q)⟩
theorem cb_gnm {i : Nat} {x : Str} {pos : Pos} (hN : X.N.Nodup) (hi : X.N[i]? = some x) (hx : Loc X.env.scope x) (hf : X.fn x = true ∨ X.env.scope.names.lookup x = some .local) : PG X (.Name x pos) (tTg U B [i] (bindTg (.nm i))) :=
  PG.weak (pg_name hN hi hx hf) fun v σ H Q ⟨G, env, t, I, r, h⟩ => by
    cases e : bindTg (.nm i) t env with
    | no => rw [e] at h; exact h.elim
    | ex c => rw [e] at h; exact h.elim
    | ok env' =>
      rw [e] at h
      have e' := bindNm_ok e
      subst e'
      exact h _ setOn_one (I.set r)
/-- several names -/
def gNms : List Nat → TGs
  | [] => gNil
  | i :: is => gCons (gName i) (gNms is)
theorem gNms_run : ∀ {is : List Nat} {ts : List Tr} {vs : List V} {G H : Hp} {env env' : List Sl} {σ : L2.St} {Q : L2.St → Hp → Prop}, EnvOk U B G H env σ → RepL U G vs ts → bindTp is ts env = .ok env' →
    (∀ σ', SetOn is σ σ' → EnvOk U B G H env' σ' → Q σ' H) → gNms is vs σ H Q
  | [], _, _, G, H, env, env', σ, Q, I, .nil, h, q => by
    cases h
    exact ⟨rfl, q σ ⟨rfl, fun _ _ => rfl⟩ I⟩
  | [], _, _, _, _, _, _, _, _, _, .cons _ _, h, _ => by cases h
  | i :: is, _, _, _, _, _, _, _, _, _, .nil, h, _ => by cases h
  | i :: is, _, _, G, H, env, env', σ, Q, I, .cons (v := v) (t := t) (vs := vs) (ts := ts) r rr, h, q => by
    unfold bindTp at h
    cases e : bindNm env i t with
    | no => rw [e] at h; cases h
    | ex c => rw [e] at h; cases h
    | ok env1 =>
      rw [e, Oc.ok_bind] at h
      have e' := bindNm_ok e
      subst e'
      refine ⟨v, vs, rfl, gNms_run (I.set r) rr h fun σ' so I' => q σ' ⟨?_, fun j hj => ?_⟩ I'⟩
      · rw [so.1, List.length_set]
      · rw [List.mem_cons, not_or] at hj
        rw [so.2 j hj.2, List.getElem?_set_ne (fun z => hj.1 z.symm)]
/-- the names of a tuple target stand at their places -/
def nmsOk (N : List Str) (loc : Str → Bool) : List Expr → List Nat → Bool
  | [], [] => true
  | .Name x _ :: es, i :: is => decide (N[i]? = some x) && loc x && nmsOk N loc es is
  | _, _ => false
theorem nms_len {loc : Str → Bool} : ∀ {es : List Expr} {is : List Nat}, nmsOk X.N loc es is = true → (assignEach es X.env).length = is.length ∧ (assignEach es X.env).findIdx? (·.1) = none
  | [], [], _ => ⟨rfl, rfl⟩
  | .Name x p :: es, i :: is, h => by
    unfold nmsOk at h
    rw [Bool.and_eq_true] at h
    obtain ⟨h1, h2⟩ := nms_len h.2
    refine ⟨by show (assignEach es X.env).length + 1 = is.length + 1; rw [h1], ?_⟩
    show (((false, assign (.Name x p) X.env) :: assignEach es X.env).findIdx? (·.1)) = none
    rw [List.findIdx?_cons]
    simp [h2]
theorem cb_nms {loc : Str → Bool} (hN : X.N.Nodup) (hl : ∀ x, loc x = true → Loc X.env.scope x ∧ (X.fn x = true ∨ X.env.scope.names.lookup x = some .local)) : ∀ {es : List Expr} {is : List Nat}, nmsOk X.N loc es is = true → PGs X es (gNms is)
  | [], [], _ => pgs_nil
  | .Name x p :: es, i :: is, h => by
    unfold nmsOk at h
    rw [Bool.and_eq_true, Bool.and_eq_true] at h
    obtain ⟨h1, h2⟩ := hl x h.1.2
    exact pgs_cons (pg_name hN (of_decide_eq_true h.1.1) h1 h2) (cb_nms hN hl h.2) rfl
theorem cb_gtp {loc : Str → Bool} {es : List Expr} {is : List Nat} {k : Nat} {pos : Pos} (hK : X.K = U.K) (hc : X.calm = true) (hN : X.N.Nodup) (hl : ∀ x, loc x = true → Loc X.env.scope x ∧ (X.fn x = true ∨ X.env.scope.names.lookup x = some .local)) (h : nmsOk X.N loc es is = true) :
    PG X (.Tuple es k pos) (tTg U B is (bindTg (.tp is))) :=
  PG.weak (pg_tup (n := is.length) hc (cb_nms hN hl h) (nms_len h).1 (nms_len h).2) fun v σ H Q ⟨G, env, t, I, r, h⟩ => by
    cases r with
    | @tup _ _ ts h1 h2 =>
      have h : match (if is.length = ts.length then bindTp is ts env else .no : Oc (List Sl)) with
        | .ok env' => ∀ σ', SetOn is σ σ' → EnvOk U B G H env' σ' → Q σ' H
        | _ => False := h
      split at h
      · rename_i env' he
        split at he
        · rename_i hl
          rw [← hK] at h1
          exact ⟨_, _, rfl, sqT_mono I.sub h1, by rw [h2.length, hl], gNms_run I h2 he h⟩
        · cases he
      · exact h.elim
    | _ => exact h.elim

/-! ### comprehensions -/
theorem wipe_get {σ : L2.St} : ∀ {vs : List Nat} {j : Nat}, j ∉ vs → (wipe σ vs)[j]? = σ[j]?
  | [], _, _ => rfl
  | v :: vs, j, h => by
    rw [List.mem_cons, not_or] at h
    unfold wipe
    rw [List.getElem?_set_ne (fun z => h.1 z.symm)]
    exact wipe_get h.2
theorem wipe_in {σ : L2.St} : ∀ {vs : List Nat} {j : Nat}, j ∈ vs → j < σ.length → (wipe σ vs)[j]? = some none
  | v :: vs, j, h, hl => by
    unfold wipe
    by_cases e : v = j
    · subst e
      rw [List.getElem?_set_self (by rw [wipe_length]; exact hl)]
    · rw [List.getElem?_set_ne e]
      exact wipe_in ((List.mem_cons.mp h).resolve_left fun z => e z.symm) hl
theorem wipe_same {σ σ' : L2.St} {vs is : List Nat} (h : SetOn is (wipe σ vs) σ') (hs : ∀ i ∈ is, i ∈ vs) : wipe σ' vs = wipe σ vs := by
  apply List.ext_getElem?
  intro j
  have hl : σ'.length = σ.length := h.1.trans (wipe_length σ vs)
  by_cases hj : j ∈ vs
  · by_cases hk : j < σ.length
    · rw [wipe_in hj (by rw [hl]; exact hk), wipe_in hj hk]
    · rw [List.getElem?_eq_none (by rw [wipe_length, hl]; omega), List.getElem?_eq_none (by rw [wipe_length]; omega)]
  · rw [wipe_get hj, wipe_get hj, h.2 j (fun z => hj (hs j z)), wipe_get hj]
theorem wipeE_len (env : List Sl) : ∀ vs : List Nat, (wipeE env vs).length = env.length
  | [] => rfl
  | v :: vs => by unfold wipeE; rw [List.length_set, wipeE_len env vs]
theorem wipeE_get {env : List Sl} : ∀ {vs : List Nat} {j : Nat} {s : Sl}, (wipeE env vs)[j]? = some s → s = .un ∨ (j ∉ vs ∧ env[j]? = some s)
  | [], _, _, h => .inr ⟨by simp, h⟩
  | v :: vs, j, s, h => by
    unfold wipeE at h
    by_cases e : v = j
    · subst e
      by_cases hl : v < (wipeE env vs).length
      · rw [List.getElem?_set_self hl] at h; cases h; exact .inl rfl
      · rw [List.getElem?_eq_none (by rw [List.length_set]; omega)] at h; cases h
    · rw [List.getElem?_set_ne e] at h
      rcases wipeE_get h with q | ⟨q1, q2⟩
      · exact .inl q
      · exact .inr ⟨by rw [List.mem_cons, not_or]; exact ⟨fun z => e z.symm, q1⟩, q2⟩
theorem EnvOk.wipe {G H : Hp} {env : List Sl} {σ : L2.St} (I : EnvOk U B G H env σ) (vs : List Nat) : EnvOk U B G H (wipeE env vs) (wipe σ vs) := by
  refine ⟨I.sub, I.old, by rw [wipe_length, wipeE_len]; exact I.len, fun i s h => ?_, fun i j xs ys p h1 h2 h3 h4 => ?_⟩
  · rcases wipeE_get h with rfl | ⟨n, h⟩
    · trivial
    · rw [wipe_get n]; exact I.rep i s h
  · rcases wipeE_get h1 with q | ⟨n1, h1⟩
    · cases q
    · rcases wipeE_get h2 with q | ⟨n2, h2⟩
      · cases q
      · rw [wipe_get n1] at h3
        rw [wipe_get n2] at h4
        exact I.sep i j xs ys p h1 h2 h3 h4
/-- one turn of a comprehension -/
def lcTurn (b : Tr → List Sl → Oc (List Sl)) (rc : List Sl → Oc Bool) (re : List Sl → Oc Rs) (env : List Sl) (x : Tr) : Oc (Option Tr) :=
  (b x env >>= fun env' => rc env' >>= fun k => if k then re env' >>= Rs.fz >>= fun y => .ok (some y) else .ok none).noex
theorem noex_ok {α : Type} {o : Oc α} {a : α} (h : o.noex = .ok a) : o = .ok a := by
  cases o <;> first | exact h | cases h
theorem lcGo_cons {f : Tr → Oc (Option Tr)} {x : Tr} {xs ys : List Tr} (h : lcGo f (x :: xs) = .ok ys) : ∃ o zs, f x = .ok o ∧ lcGo f xs = .ok zs ∧ ys = o.toList ++ zs := by
  unfold lcGo at h
  cases e : f x with
  | no => rw [e] at h; cases h
  | ex c => rw [e] at h; cases h
  | ok o =>
    rw [e, Oc.ok_bind] at h
    cases e2 : lcGo f xs with
    | no => rw [e2] at h; cases h
    | ex c => rw [e2] at h; cases h
    | ok zs =>
      rw [e2] at h
      cases h
      refine ⟨o, zs, rfl, rfl, ?_⟩
      cases o <;> rfl
theorem lcGo_len {f : Tr → Oc (Option Tr)} : ∀ {xs ys : List Tr}, lcGo f xs = .ok ys → ys.length ≤ xs.length
  | [], ys, h => by cases h; exact Nat.le_refl _
  | x :: xs, ys, h => by
    obtain ⟨o, zs, _, h2, rfl⟩ := lcGo_cons h
    have ih := lcGo_len h2
    cases o with
    | none => show zs.length ≤ xs.length + 1; omega
    | some y => show zs.length + 1 ≤ xs.length + 1; omega
theorem lcGo_ex {b : Tr → List Sl → Oc (List Sl)} {rc : List Sl → Oc Bool} {re : List Sl → Oc Rs} {env : List Sl} : ∀ {xs : List Tr} {c : Nat}, lcGo (lcTurn b rc re env) xs ≠ .ex c
  | [], _, h => by cases h
  | x :: xs, c, h => by
    unfold lcGo at h
    cases e : lcTurn b rc re env x with
    | no => rw [e] at h; cases h
    | ex c =>
      unfold lcTurn Oc.noex at e
      split at e <;> cases e
    | ok o =>
      rw [e, Oc.ok_bind] at h
      cases e2 : lcGo (lcTurn b rc re env) xs with
      | no => rw [e2] at h; cases h
      | ex c => exact lcGo_ex e2
      | ok zs => rw [e2] at h; cases h
abbrev W0 : WX := fun _ _ _ _ => False
theorem lc_run {ri : List Sl → Oc (List Tr)} {b : Tr → List Sl → Oc (List Sl)} {is own : List Nat} {rc : List Sl → Oc Bool} {re : List Sl → Oc Rs} {σ : L2.St} {H : Hp} {Q : VK} (hs : ∀ i ∈ is, i ∈ own)
    (h : tR U W B (fun env => ri env >>= fun xs => lcGo (lcTurn b rc re (wipeE env own)) xs >>= fun ys => if sizeOk (xs.length + 1) then .ok (.ow ys) else .no) σ H Q) :
    tLc (tIt U W B ri) (tTg U B is b) (tBo U W0 B rc) (tR U W0 B re) own σ H Q := by
  obtain ⟨G, env, I, h⟩ := h
  have h : Post U W B (ri env >>= fun xs => lcGo (lcTurn b rc re (wipeE env own)) xs >>= fun ys => if sizeOk (xs.length + 1) then .ok (.ow ys) else .no) G H σ Q := h
  refine ⟨G, env, I, ?_⟩
  cases e : ri env with
  | no => rw [e] at h; exact h
  | ex c => rw [e] at h; exact h
  | ok xs =>
    rw [e, Oc.ok_bind] at h
    intro J G1 H1 g1 ok
    cases e2 : lcGo (lcTurn b rc re (wipeE env own)) xs with
    | no => rw [e2] at h; exact h.elim
    | ex c => exact absurd e2 lcGo_ex
    | ok ys =>
      rw [e2, Oc.ok_bind] at h
      split at h
      · rename_i hsz
        have hsz := sizeOk_le hsz
        intro D hD
        refine ⟨fun i m H2 => ∃ G2 acc as zs, m = xs.length - i ∧ i ≤ xs.length ∧ Grow G1 H1 G2 H2 ∧ G2 D = none ∧ H2 D = some (.lst acc) ∧ RepL U G2 acc as ∧ as.length ≤ i ∧ lcGo (lcTurn b rc re (wipeE env own)) (xs.drop i) = .ok zs ∧ ys = as ++ zs,
          ⟨xs.length, G1, [], [], ys, rfl, Nat.zero_le _, Grow.made0 g1.gh hD, ghost_none g1.gh hD, upd_same, .nil, Nat.le_refl _, e2, rfl⟩, ?_⟩
        rintro i m H2 ⟨G2, acc, as, zs, rfl, hi, g2, gD, hDa, rA, hla, ez, ey⟩
        have g12 := g1.trans g2
        obtain ⟨hgo, hstop⟩ := ok i G2 H2 g2.gg g2.gh
        by_cases hlt : i < xs.length
        · have hx : xs[i]? = some xs[i] := List.getElem?_eq_getElem hlt
          obtain ⟨hg, hy⟩ := hgo _ hx
          rw [List.drop_eq_getElem_cons hlt] at ez
          obtain ⟨o, zs', ef, ez', ezs⟩ := lcGo_cons ez
          have ef := noex_ok ef
          refine .inr ⟨hg, fun H3 => ∃ G3 acc' as', Grow G1 H1 G3 H3 ∧ G3 D = none ∧ H3 D = some (.lst acc') ∧ RepL U G3 acc' as' ∧ as'.length ≤ i + 1 ∧ ys = as' ++ zs', fun H3 hN => ?_, fun x H3 y => ?_⟩
          · obtain ⟨G3, acc', as', g3, gD3, hD3, r3, hl3, ey3⟩ := hN
            exact ⟨xs.length - (i + 1), by omega, G3, acc', as', zs', rfl, hlt, g3, gD3, hD3, r3, hl3, ez', ey3⟩
          · obtain ⟨G3, g3, r3⟩ := hy x H3 y
            have g13 := g2.trans g3
            have gD3 : G3 D = none := g3.new D gD (by rw [hDa]; simp)
            have hD3 : H3 D = some (.lst acc) := g3.keep D _ gD hDa
            refine ⟨G3, wipeE env own, xs[i], ((I.later g12).later g3).wipe own, r3, ?_⟩
            cases eb : b xs[i] (wipeE env own) with
            | no => rw [eb] at ef; cases ef
            | ex c => rw [eb] at ef; cases ef
            | ok env' =>
              rw [eb, Oc.ok_bind] at ef
              intro σ' so I'
              refine ⟨wipe_same so hs, G3, env', I', ?_⟩
              cases ec : rc env' with
              | no => rw [ec] at ef; cases ef
              | ex c => rw [ec] at ef; cases ef
              | ok k =>
                rw [ec, Oc.ok_bind] at ef
                intro G4 H4 g4
                have gD4 : G4 D = none := g4.new D gD3 (by rw [hD3]; simp)
                have hD4 : H4 D = some (.lst acc) := g4.keep D _ gD3 hD3
                cases k with
                | false =>
                  cases ef
                  show ∃ G3 acc' as', _
                  exact ⟨G4, acc, as, g13.trans g4, gD4, hD4, (rA.mono g3.gg).mono g4.gg, by omega, by rw [ey, ezs]; rfl⟩
                | true =>
                  show tR U W0 B re σ' H4 _
                  refine tR_fz ⟨G4, env', I'.later g4, ?_⟩
                  show PostT U W0 (re env' >>= Rs.fz) G4 H4 σ' _
                  unfold PostT
                  have ef : ((re env' >>= Rs.fz) >>= fun y => Oc.ok (some y)) = .ok o := ef
                  cases ee : (re env' >>= Rs.fz) with
                  | no => rw [ee] at ef; cases ef
                  | ex c => rw [ee] at ef; cases ef
                  | ok t =>
                    rw [ee] at ef
                    cases ef
                    intro v G5 H5 g5 r5
                    have gD5 : G5 D = none := g5.new D gD4 (by rw [hD4]; simp)
                    have hD5 : H5 D = some (.lst acc) := g5.keep D _ gD4 hD4
                    have gA := (g13.trans g4).trans g5
                    have rA5 : RepL U G5 acc as := ((rA.mono g3.gg).mono g4.gg).mono g5.gg
                    refine ⟨acc, hD5, ?_, G5, acc ++ [v], as ++ [t], ?_, gD5, upd_same, rA5.append (.cons r5 .nil), by rw [List.length_append]; simp; omega, by rw [ey, ezs]; simp⟩
                    · rw [rA.length]; omega
                    · refine ⟨gA.gg, fun c o hc => ?_, fun c o hc hh => ?_, gA.new⟩
                      · have : c ≠ D := fun z => by subst z; rw [gD5] at hc; cases hc
                        rw [upd_ne this]; exact gA.gh c o hc
                      · have : c ≠ D := fun z => by subst z; rw [hD] at hh; cases hh
                        rw [upd_ne this]; exact gA.keep c o hc hh
        · have ei : i = xs.length := by omega
          subst ei
          refine .inl ⟨hstop (Nat.le_refl _), ?_⟩
          rw [List.drop_length] at ez
          cases ez
          rw [List.append_nil] at ey
          subst ey
          exact h _ G2 H2 g12 ⟨D, acc, rfl, g1.there I.sub hD, gD, hDa, rA⟩
      · exact h.elim
end
end PF
namespace PF
open PySem PySem.Spec PyProof.Rows L2
section
variable {U : Uni} {W : WX} {B : Hp} {X : Cx}
/-! ### isinstance of a caught error, of None -/
theorem isxE_ex {tb : List (Nat × Bool)} {a : Tr} {c : Nat} : isxE tb a ≠ .ex c := by
  cases a with
  | err c' => intro h; unfold isxE at h; dsimp only at h; split at h <;> cases h
  | _ => intro h; cases h
theorem isxsE_ex {a : Tr} {c : Nat} : ∀ {tbs : List (List (Nat × Bool))}, isxsE tbs a ≠ .ex c
  | [], h => by cases h
  | tb :: tbs, h => by
    unfold isxsE at h
    cases e : isxE tb a with
    | no => rw [e] at h; cases h
    | ex c => exact isxE_ex e
    | ok b =>
      rw [e, Oc.ok_bind] at h
      cases e2 : isxsE tbs a with
      | no => rw [e2] at h; cases h
      | ex c => exact isxsE_ex e2
      | ok b2 => rw [e2] at h; cases h
/-- what is known of a class's name in a look: its value, what the table says -/
structure ClsFx (K : PySem.W.Frag) (exc : Nat → Addr) (mg : Str → Option Value) (x : Str) (tb : List (Nat × Bool)) : Prop where
  ex : ∃ (v : V) (cv : Value), ClsV v cv ∧ RelV v cv ∧ (mg x = some cv ∨ (mg x = none ∧ bootBuiltins x = some cv ∧ x ≠ "__name__")) ∧ PySem.W.kitOne K (.type "NoneType") cv = some false ∧
    ∀ c b, tb.lookup c = some b → ExcC K (exc c) ∧ PySem.W.kitOne K (.ref (exc c)) cv = some b ∧ PySem.W.exmOne K (.ref (exc c)) cv = some b
/-- isinstance(e, C), C one class -/
def rIx (K : PySem.W.Frag) : List V → Hp → VK → Prop := fun xs H Q => ∃ (x c : V) (cv : Value) (b : Bool), xs = [x, c] ∧ ClsV c cv ∧
  ((x = .non ∧ PySem.W.kitOne K (.type "NoneType") cv = some b) ∨ ∃ a D, x = .ref a ∧ H a = some (.ext (errP a D)) ∧ ExcC K D ∧ PySem.W.kitOne K (.ref D) cv = some b) ∧ Q (.bl b) H
def rIxT (K : PySem.W.Frag) : List V → Hp → VK → Prop := fun xs H Q => ∃ (x : V) (tp : Addr) (cs : List V) (us : List Value) (b : Bool), xs = [x, .ref tp] ∧ H tp = some (.tup cs) ∧ Paired ClsV cs us ∧
  ((x = .non ∧ PySem.W.kitAny K (.type "NoneType") us = some b) ∨ ∃ a D, x = .ref a ∧ H a = some (.ext (errP a D)) ∧ ExcC K D ∧ PySem.W.kitAny K (.ref D) us = some b) ∧ Q (.bl b) H
theorem call_ix : CallR X (.builtin "isinstance") (rIx X.K) := by
  intro pins s σ H xs us Q I r h
  obtain ⟨x, c, cv, b, rfl, kc, hx, q⟩ := h
  obtain ⟨u1, u2, rfl, r1, r2⟩ := vals2 r
  have e2 := kc.eq r2
  subst e2
  rcases hx with ⟨rfl, e⟩ | ⟨a, D, rfl, ha, C, e⟩
  · cases (show u1 = Value.none from r1)
    exact PySem.W.kia_one PySem.W.kitx_none I.kIn True.intro e (fun z => nomatch z) fun tk => ⟨.bl b, H, I.tok tk, rfl, q⟩
  · cases (show u1 = Value.ref a from r1)
    obtain ⟨⟨oe, J⟩, _, _⟩ := (show ObjOk X.prog X.w H s.heap a (.ext (errP a D)) from I.hok a _ ha)
    exact PySem.W.kia_one (PySem.W.handS_kitx_exc C.hg C.hk C.hs C.hd C.ha C.hn C.ht C.hm) I.kIn J e (fun z => nomatch z) fun tk => ⟨.bl b, H, I.tok tk, rfl, q⟩
theorem call_ixT : CallR X (.builtin "isinstance") (rIxT X.K) := by
  intro pins s σ H xs us Q I r h
  obtain ⟨x, tp, cs, ws, b, rfl, there, kc, hx, q⟩ := h
  obtain ⟨u1, u2, rfl, r1, r2⟩ := vals2 r
  cases (show u2 = Value.ref tp from r2)
  obtain ⟨_, its, rv, ob, a1, a2, num, a3⟩ := (show ObjOk X.prog X.w H s.heap tp (.tup cs) from I.hok tp _ there)
  have same := ClsV.all kc rv
  subst same
  obtain ⟨oc, od, dt, sl⟩ := ob
  simp only at a2 a3
  subst a2 a3
  rcases hx with ⟨rfl, e⟩ | ⟨a, D, rfl, ha, C, e⟩
  · cases (show u1 = Value.none from r1)
    exact PySem.W.kia_tup PySem.W.kitx_none I.kIn True.intro a1 e (fun z => nomatch z) fun tk => ⟨.bl b, H, I.tok tk, rfl, q⟩
  · cases (show u1 = Value.ref a from r1)
    obtain ⟨⟨oe, J⟩, _, _⟩ := (show ObjOk X.prog X.w H s.heap a (.ext (errP a D)) from I.hok a _ ha)
    exact PySem.W.kia_tup (PySem.W.handS_kitx_exc C.hg C.hk C.hs C.hd C.ha C.hn C.ht C.hm) I.kIn J a1 e (fun z => nomatch z) fun tk => ⟨.bl b, H, I.tok tk, rfl, q⟩
theorem isx_rep {mg : Str → Option Value} {x : Str} {tb : List (Nat × Bool)} {K : PySem.W.Frag} (hK : K = U.K) {H : Hp} {v : V} {a : Tr} {b : Bool} {cv : Value}
    (hf : PySem.W.kitOne K (.type "NoneType") cv = some false ∧ ∀ c b, tb.lookup c = some b → ExcC K (U.exc c) ∧ PySem.W.kitOne K (.ref (U.exc c)) cv = some b ∧ PySem.W.exmOne K (.ref (U.exc c)) cv = some b)
    (r : Rep U H v a) (e : isxE tb a = .ok b) : (v = .non ∧ PySem.W.kitOne K (.type "NoneType") cv = some b) ∨ ∃ ad D, v = .ref ad ∧ H ad = some (.ext (errP ad D)) ∧ ExcC K D ∧ PySem.W.kitOne K (.ref D) cv = some b := by
  cases r with
  | non => cases e; exact .inl ⟨rfl, hf.1⟩
  | @err ad c h =>
    have e : (match tb.lookup c with
      | some b => Oc.ok b
      | none => .no) = .ok b := e
    split at e
    · rename_i b' hb
      cases e
      obtain ⟨h1, h2, _⟩ := hf.2 c _ hb
      exact .inr ⟨ad, _, rfl, h, h1, h2⟩
    · cases e
  | bl k => cases e
  | int i => cases e
  | str x => cases e
  | tup h1 h2 => cases e
  | lst h1 h2 => cases e
  | ins h1 h2 h3 => cases e
  | dct h1 h2 h3 => cases e
  | raw a => cases e
  | hd h => cases e
theorem pe_clsx {x : Str} {p : Pos} {v : V} {cv : Value} (g : Gl X x) (gd : (x == ("__debug__" : Str)) = false) (rv : RelV v cv) (hm : X.mg x = some cv ∨ (X.mg x = none ∧ bootBuiltins x = some cv ∧ x ≠ "__name__")) : PE X (.Name x p) (tC v) := by
  rcases hm with hm | ⟨hm, hb, hn⟩
  · exact pe_glob g hm rv gd
  · exact pe_bltn g hm hb rv hn gd
theorem cb_isx {x : Str} {tb : List (Nat × Bool)} {p p2 pos : Pos} {e : Expr} {r : List Sl → Oc Rs} (hK : X.K = U.K) (hg : Gl X "isinstance") (hm : X.mg "isinstance" = none) (hg2 : Gl X x) (hd : (x == ("__debug__" : Str)) = false) (cf : ClsFx X.K U.exc X.mg x tb) (hst : nostar e = true) (he : PE X e (tR U W B r)) :
    PE X (.Call (.Name "isinstance" p) [e, .Name x p2] [] pos) (tR U W B fun env => r env >>= fun x => isxE tb x.see >>= fun b => .ok (.im (.bl b))) := by
  obtain ⟨v, cv, c1, c2, c3, c4, c5⟩ := cf.ex
  have h2 : PE X (.Name x p2) (tC v) := pe_clsx hg2 hd c2 c3
  refine PE.weak (pe_callB call_ix hg hm (by decide +kernel) (pa_cons he (pa_cons h2 pa_nil rfl) (star_cons hst)) (by decide) (by decide) (star_cons hst) rfl) fun σ H Q h => tR_one h (fun x c => by cases e : isxE tb x.see <;> simp [e] <;> exact fun z => isxE_ex (z ▸ e)) fun G H1 v' x z s k e q => by
    cases e2 : isxE tb x.see with
    | no => rw [e2] at e; cases e
    | ex c => rw [e2] at e; cases e
    | ok b =>
      rw [e2] at e
      cases e
      exact ⟨v', v, cv, b, rfl, c1, isx_rep (mg := X.mg) (x := "") hK ⟨c4, c5⟩ (k.seen s) e2, q _ G H1 (Grow.refl s) (Rep.bl _)⟩
/-- the names of a tuple of classes -/
def tCs : List V → TA := fun vs _ H Q => Q vs H
def TbOk (K : PySem.W.Frag) (exc : Nat → Addr) (tb : List (Nat × Bool)) (cv : Value) : Prop :=
  PySem.W.kitOne K (.type "NoneType") cv = some false ∧ ∀ c b, tb.lookup c = some b → ExcC K (exc c) ∧ PySem.W.kitOne K (.ref (exc c)) cv = some b ∧ PySem.W.exmOne K (.ref (exc c)) cv = some b
theorem isxs_non {K : PySem.W.Frag} {exc : Nat → Addr} : ∀ {tbs : List (List (Nat × Bool))} {cvs : List Value} {b : Bool}, Paired (TbOk K exc) tbs cvs → isxsE tbs .non = .ok b → PySem.W.kitAny K (.type "NoneType") cvs = some b
  | [], _, _, .nil, e => by cases e; rfl
  | tb :: tbs, _, b, .cons hf t, e => by
    have e : (isxsE tbs .non >>= fun b' => Oc.ok (false || b')) = .ok b := e
    cases e2 : isxsE tbs .non with
    | no => rw [e2] at e; cases e
    | ex c => rw [e2] at e; cases e
    | ok b2 =>
      rw [e2] at e
      cases e
      exact kitAny_cons hf.1 (fun _ => isxs_non t e2) (fun z => by cases z)
theorem isxs_err {K : PySem.W.Frag} {exc : Nat → Addr} {c : Nat} : ∀ {tbs : List (List (Nat × Bool))} {cvs : List Value} {b : Bool}, Paired (TbOk K exc) tbs cvs → isxsE tbs (.err c) = .ok b → PySem.W.kitAny K (.ref (exc c)) cvs = some b ∧ (tbs ≠ [] → ExcC K (exc c))
  | [], _, _, .nil, e => by cases e; exact ⟨rfl, fun z => absurd rfl z⟩
  | tb :: tbs, _, b, .cons hf t, e => by
    unfold isxsE at e
    cases e1 : tb.lookup c with
    | none =>
      have : isxE tb (.err c) = .no := by unfold isxE; dsimp only; rw [e1]
      rw [this] at e
      cases e
    | some b1 =>
      have : isxE tb (.err c) = .ok b1 := by unfold isxE; dsimp only; rw [e1]
      rw [this, Oc.ok_bind] at e
      cases e2 : isxsE tbs (.err c) with
      | no => rw [e2] at e; cases e
      | ex c => rw [e2] at e; cases e
      | ok b2 =>
        rw [e2] at e
        cases e
        obtain ⟨h1, h2, _⟩ := hf.2 c _ e1
        exact ⟨kitAny_cons h2 (fun z => by subst z; exact (isxs_err t e2).1) (fun z => by rw [z]; rfl), fun _ => h1⟩
theorem isxs_rep {K : PySem.W.Frag} {H : Hp} {v : V} {a : Tr} (r : Rep U H v a) {tbs : List (List (Nat × Bool))} {cvs : List Value} {b : Bool} (t : Paired (TbOk K U.exc) tbs cvs) (e : isxsE tbs a = .ok b) (hn : tbs ≠ []) :
    (v = .non ∧ PySem.W.kitAny K (.type "NoneType") cvs = some b) ∨ ∃ ad D, v = .ref ad ∧ H ad = some (.ext (errP ad D)) ∧ ExcC K D ∧ PySem.W.kitAny K (.ref D) cvs = some b := by
  have no : ∀ a, isxE (tbs.head hn) a = .no → isxsE tbs a ≠ .ok b := fun a h e => by
    cases tbs with
    | nil => exact hn rfl
    | cons tb tbs => unfold isxsE at e; have h : isxE tb a = .no := h; rw [h] at e; cases e
  cases r with
  | non => exact .inl ⟨rfl, isxs_non t e⟩
  | @err ad c h => obtain ⟨h1, h2⟩ := isxs_err t e; exact .inr ⟨ad, _, rfl, h, h2 hn, h1⟩
  | bl k => exact absurd e (no _ rfl)
  | int i => exact absurd e (no _ rfl)
  | str x => exact absurd e (no _ rfl)
  | tup h1 h2 => exact absurd e (no _ rfl)
  | lst h1 h2 => exact absurd e (no _ rfl)
  | ins h1 h2 h3 => exact absurd e (no _ rfl)
  | dct h1 h2 h3 => exact absurd e (no _ rfl)
  | raw a => exact absurd e (no _ rfl)
  | hd h => exact absurd e (no _ rfl)
/-- the names of the classes in a tuple -/
structure ClNs (X : Cx) (U : Uni) (es : List Expr) (tbs : List (List (Nat × Bool))) : Prop where
  ex : ∃ (vs : List V) (cvs : List Value), PA X es (fun _ H Q => Q vs H) ∧ Paired ClsV vs cvs ∧ Paired (TbOk X.K U.exc) tbs cvs ∧ es.all nostar = true
theorem clns_nil : ClNs X U [] [] := ⟨[], [], pa_nil, .nil, .nil, rfl⟩
theorem clns_cons {x : Str} {p : Pos} {es : List Expr} {tb : List (Nat × Bool)} {tbs : List (List (Nat × Bool))} (hg2 : Gl X x) (hd : (x == ("__debug__" : Str)) = false) (cf : ClsFx X.K U.exc X.mg x tb) (h : ClNs X U es tbs) : ClNs X U (.Name x p :: es) (tb :: tbs) := by
  obtain ⟨v, cv, c1, c2, c3, c4, c5⟩ := cf.ex
  obtain ⟨vs, cvs, h1, h2, h3, h4⟩ := h.ex
  exact ⟨v :: vs, cv :: cvs, pa_cons (pe_clsx hg2 hd c2 c3) h1 rfl, .cons c1 h2, .cons ⟨c4, c5⟩ h3, by rw [List.all_cons, h4]; rfl⟩
theorem pair_len {α β : Type} {F : α → β → Prop} : ∀ {l₁ : List α} {l₂ : List β}, Paired F l₁ l₂ → l₁.length = l₂.length
  | _, _, .nil => rfl
  | _, _, .cons _ t => by rw [List.length_cons, List.length_cons, pair_len t]
theorem cb_isxs {tbs : List (List (Nat × Bool))} {es : List Expr} {kt : Nat} {p p2 pos : Pos} {e : Expr} {r : List Sl → Oc Rs} (hg : Gl X "isinstance") (hm : X.mg "isinstance" = none) (cn : ClNs X U es tbs) (hn : tbs ≠ []) (hz : tbs.length ≤ 1000) (hst : nostar e = true) (he : PE X e (tR U W B r)) :
    PE X (.Call (.Name "isinstance" p) [e, .Tuple es kt p2] [] pos) (tR U W B fun env => r env >>= fun x => isxsE tbs x.see >>= fun b => .ok (.im (.bl b))) := by
  obtain ⟨vs, cvs, c1, c2, c3, c4⟩ := cn.ex
  have h2 := pe_tup (pos := p2) (x1 := kt) c1
  refine PE.weak (pe_callB call_ixT hg hm (by decide +kernel) (pa_cons he (pa_cons h2 pa_nil rfl) (star_cons hst)) (by decide) (by decide) (star_cons hst) rfl) fun σ H Q h => tR_one h (fun x c => by cases e : isxsE tbs x.see <;> simp [e] <;> exact fun z => isxsE_ex (z ▸ e)) fun G H1 v' x z s k e q => by
    cases e2 : isxsE tbs x.see with
    | no => rw [e2] at e; cases e
    | ex c => rw [e2] at e; cases e
    | ok b =>
      rw [e2] at e
      cases e
      refine ⟨?_, fun p hp => ?_⟩
      · have l1 := pair_len c2; have l2 := pair_len c3; rw [sizeLine_eq]; omega
      · have g := Grow.made (o := .tup vs) s hp
        refine ⟨v', p, vs, cvs, b, rfl, upd_same, c2, ?_, q _ _ _ g (Rep.bl _)⟩
        have hh := isxs_rep (k.seen s) c3 e2 hn
        rcases hh with hh | ⟨ad, D, z1, z2, z3, z4⟩
        · exact .inl hh
        · exact .inr ⟨ad, D, z1, by rw [upd_ne (fun z => by subst z; rw [hp] at z2; cases z2)]; exact z2, z3, z4⟩
/-! ### {k: v, ..}, small numbers -/
def dTrs (kvs : List (Int × Int)) : List (TE × TE) := kvs.map fun kv => (tC (.int kv.1), tC (.int kv.2))
theorem tPairs_const {σ : L2.St} {H : Hp} : ∀ {kvs : List (Int × Int)} {Q : List (V × V) → Hp → Prop}, Q (kvs.map fun kv => (V.int kv.1, V.int kv.2)) H → tPairs (dTrs kvs) σ H Q
  | [], _, h => h
  | _ :: kvs, _, h => tPairs_const (kvs := kvs) h
theorem upd_upd {H : Hp} {p : Addr} {o o' : HO} : upd (upd H p o) p o' = upd H p o' := by
  funext a
  by_cases z : a = p
  · subst z; rw [upd_same, upd_same]
  · rw [upd_ne z, upd_ne z, upd_ne z]
theorem cb_dsp {keys : List (Option Expr)} {values : List Expr} {pos : Pos} {kvs : List (Int × Int)} (h : PPs X pos keys values (dTrs kvs)) (h1 : keys.all (·.isSome) = true) (h2 : keys.length = values.length) (h3 : keys ≠ []) (h4 : keys.length ≤ 15) (h5 : kvs.length ≤ 15) :
    PE X (.Dict keys values pos) (tR U W B fun _ => .ok (.im .hd)) :=
  PE.weak (pe_disp h h1 h2 h3 h4) fun σ H Q h p hp => by
    obtain ⟨G, env, I, q⟩ := h
    refine tPairs_const ⟨upd_same, kvs.map fun kv => (Sum.inl kv.1, V.int kv.2), by rw [List.map_map]; rfl, by rw [List.length_map]; exact h5, ?_⟩
    rw [upd_upd]
    have g := Grow.made (o := .dK (mergeK [] (kvs.map fun kv => (Sum.inl kv.1, V.int kv.2)))) I.sub hp
    exact q _ _ _ g (.hd upd_same)
theorem cb_dsp0 {pos : Pos} : PE X (.Dict [] [] pos) (tR U W B fun _ => .ok (.im .hd)) :=
  PE.weak pe_dnewK fun σ H Q h p hp => by
    obtain ⟨G, env, I, q⟩ := h
    exact q _ _ _ (Grow.made (o := .dK []) I.sub hp) (.hd upd_same)
def dspIs : List (Option Expr) → List Expr → List (Int × Int) → Bool
  | [], [], [] => true
  | some (.Constant (.int k) _ _) :: ks, .Constant (.int v) _ _ :: vs, kv :: kvs => decide (k = kv.1) && decide (v = kv.2) && dspIs ks vs kvs
  | _, _, _ => false
theorem dsp_ok {pos : Pos} : ∀ {ks : List (Option Expr)} {vs : List Expr} {kvs : List (Int × Int)}, dspIs ks vs kvs = true → PPs X pos ks vs (dTrs kvs) ∧ ks.all (·.isSome) = true ∧ ks.length = kvs.length ∧ ks.length = vs.length := by
  intro ks vs kvs h
  induction ks, vs, kvs using dspIs.induct with
  | case1 => exact ⟨pps_nil, rfl, rfl, rfl⟩
  | case2 k _ _ ks v _ _ vs kv kvs ih =>
    unfold dspIs at h
    simp only [Bool.and_eq_true, decide_eq_true_eq] at h
    obtain ⟨⟨rfl, rfl⟩, h⟩ := h
    obtain ⟨q1, q2, q3, q4⟩ := ih h
    exact ⟨pps_cons pe_int pe_int q1, by rw [List.all_cons, q2]; rfl, by rw [List.length_cons, List.length_cons, q3], by rw [List.length_cons, List.length_cons, q4]⟩
  | case3 ks vs kvs h1 h2 =>
    unfold dspIs at h
    split at h
    · exact absurd rfl (h1 rfl rfl)
    · exact (h2 _ _ _ _ _ _ _ _ _ _ rfl rfl rfl).elim
    · cases h
end
end PF

namespace PF
open PySem PySem.Spec PyProof.Rows L2 PySem.HandSPX
/-! ### the look at a text -/
structure SE where
  N : List Str
  sc : Scope
  fn : Str → Bool
structure PSt where
  fnN : List (Str × Nat)
  mtN : List (Str × Nat × Nat)
  glN : List (Str × Nat)
  fldN : List (Str × Nat × Nat)
  blN : List Str
  excN : List (Str × Nat)
  isN : List (Str × List (Nat × Bool)) := []
def SE.comp (S : SE) (scope : Scope) : SE := ⟨S.N, relS scope S.sc, fun x => scope.names.lookup x == some .cell⟩
def visB (S : SE) (x : Str) : Bool := match S.sc.names.lookup x with
  | some .local => true | some .cell => true | some .free => true | _ => false
def locB (S : SE) (x : Str) : Bool := match S.sc.names.lookup x with
  | some .local => true | some .cell => S.fn x | _ => false
def notDbg (x : Str) : Bool := !(x == ("__debug__" : Str)) && !(x == ("__classdict__" : Str))
def okLoc (S : SE) (x : Str) (i : Nat) : Bool := decide (S.N[i]? = some x) && visB S x && notDbg x
def okGl (S : SE) (x : Str) : Bool := (match S.sc.names.lookup x with
  | some .globalImplicit => true | _ => false) && notDbg x
def okBl (P : PSt) (S : SE) (x : Str) : Bool := okGl S x && decide (x ∈ P.blN)
def all2 {α β : Type} (f : α → β → Bool) : List α → List β → Bool
  | [], [] => true
  | a :: as, b :: bs => f a b && all2 f as bs
  | _, _ => false
def opIs (o : Op) : Operator → Bool
  | .Add => decide (o = .add) | .Sub => decide (o = .sub) | .Mult => decide (o = .mul) | .FloorDiv => decide (o = .fdiv) | .Mod => decide (o = .mod) | .Pow => decide (o = .pow) | .BitAnd => decide (o = .band) | .RShift => decide (o = .shr) | _ => false
theorem opIs_ok {o : Op} {op : Operator} (h : opIs o op = true) : op = opOf o := by
  cases op <;> first | (have := of_decide_eq_true h; subst this; rfl) | cases h
def coIs (o : CO) : CmpOp → Bool
  | .Eq => decide (o = .eq) | .NotEq => decide (o = .ne) | .Lt => decide (o = .lt) | .LtE => decide (o = .le) | .Gt => decide (o = .gt) | .GtE => decide (o = .ge) | _ => false
theorem coIs_ok {o : CO} {op : CmpOp} (h : coIs o op = true) : op = coOf o := by
  cases op <;> first | (have := of_decide_eq_true h; subst this; rfl) | cases h
def notSlice : Expr → Bool
  | .Slice .. => false
  | _ => true
theorem plainIx_of {b : Expr} (h : notSlice b = true) : PlainIx b := by
  intro o i
  cases b <;> first | rfl | cases h
def notSet : Expr → Bool
  | .Set .. => false
  | _ => true
theorem notSet_fold {e : Expr} (h : notSet e = true) (env : Env) : ∀ x, foldedSetIterable e env x = pure x := by
  intro x
  cases e <;> first | rfl | cases h
theorem notSet_mark {e : Expr} {op : CmpOp} (h : notSet e = true) : behindInMarks op e = false := by
  cases e <;> first | rfl | cases h
def chkTg (S : SE) (tg : Expr) : Tg → Bool
  | .nm i => match tg with
    | .Name x _ => decide (S.N[i]? = some x) && locB S x
    | _ => false
  | .tp is => match tg with
    | .Tuple es _ _ => nmsOk S.N (locB S) es is
    | _ => false
def tgIs : Tg → List Nat
  | .nm i => [i]
  | .tp is => is
def isEmptyL {α : Type} : List α → Bool
  | [] => true
  | _ => false
def clsIs (P : PSt) (S : SE) (e : Expr) (tb : List (Nat × Bool)) : Bool := match e with
  | .Name x _ => okGl S x && decide (P.isN.lookup x = some tb)
  | _ => false
def chkE (P : PSt) : Nat → SE → Expr → Ex → Bool
  | 0, _, _, _ => false
  | n + 1, S, e, x => match x with
    | .lo i => match e with
      | .Name id _ => okLoc S id i
      | _ => false
    | .gl g => match e with
      | .Name id _ => okGl S id && decide (P.glN.lookup id = some g)
      | _ => false
    | .non => match e with
      | .Constant .none _ _ => true
      | _ => false
    | .bl b => match e with
      | .Constant (.bool c) _ _ => b == c
      | _ => false
    | .int i => match e with
      | .Constant (.int j) _ _ => decide (i = j)
      | _ => false
    | .str s => match e with
      | .Constant (.str t) _ _ => decide (s = t)
      | _ => false
    | .bin o a' b' => match e with
      | .BinOp a op b _ => opIs o op && chkE P n S a a' && chkE P n S b b'
      | _ => false
    | .neg a' => match e with
      | .UnaryOp .USub a _ => chkE P n S a a'
      | _ => false
    | .not a' => match e with
      | .UnaryOp .Not a _ => chkE P n S a a'
      | _ => false
    | .cmp o a' b' => match e with
      | .Compare a [op] [b] _ => coIs o op && chkE P n S a a' && chkE P n S b b'
      | _ => false
    | .isN a' => match e with
      | .Compare a [.Is] [.Constant .none _ _] _ => chkE P n S a a'
      | _ => false
    | .notN a' => match e with
      | .Compare a [.IsNot] [.Constant .none _ _] _ => chkE P n S a a'
      | _ => false
    | .isin neg a' b' => match e with
      | .Compare a [op] [b] _ => (match op with | .In => !neg | .NotIn => neg | _ => false) && notSet b && chkE P n S a a' && chkE P n S b b'
      | _ => false
    | .rev a' => match e with
      | .Subscript a (.Slice none none (some (.UnaryOp .USub (.Constant (.int 1) _ _) _)) _) _ => chkE P n S a a'
      | _ => false
    | .isB g b a' => match e with
      | .Compare a [.Is] [.Constant (.bool c) _ _] _ => !g && b == c && chkE P n S a a'
      | .Compare a [.IsNot] [.Constant (.bool c) _ _] _ => g && b == c && chkE P n S a a'
      | _ => false
    | .chain o o' a' b' c' => match e with
      | .Compare a [op, op'] [b, c] _ => ordC o && coIs o op && coIs o' op' && chkE P n S a a' && chkE P n S b b' && chkE P n S c c'
      | _ => false
    | .and a' b' => match e with
      | .BoolOp .And (a :: b :: r) pos => chkE P n S a a' && (if isEmptyL r then chkE P n S b b' else chkE P n S (.BoolOp .And (b :: r) pos) b')
      | _ => false
    | .or a' b' => match e with
      | .BoolOp .Or (a :: b :: r) pos => chkE P n S a a' && (if isEmptyL r then chkE P n S b b' else chkE P n S (.BoolOp .Or (b :: r) pos) b')
      | _ => false
    | .ite c' a' b' => match e with
      | .IfExp c a b _ => chkE P n S c c' && chkE P n S a a' && chkE P n S b b'
      | _ => false
    | .tup es' => match e with
      | .Tuple es _ _ => es.all nostar && all2 (chkE P n S) es es'
      | _ => false
    | .lst es' => match e with
      | .List es _ => es.all nostar && all2 (chkE P n S) es es'
      | _ => false
    | .ix a' b' => match e with
      | .Subscript a b _ => notSlice b && chkE P n S a a' && chkE P n S b b'
      | _ => false
    | .sl a' lo' hi' => match e with
      | .Subscript a (.Slice lo hi none _) _ => chkE P n S a a' &&
          (match lo with | none => lo'.isNon | some l => !lo'.isNon && chkE P n S l lo') &&
          (match hi with | none => hi'.isNon | some l => !hi'.isNon && chkE P n S l hi')
      | _ => false
    | .call f es' => match e with
      | .Call (.Name id _) es [] _ => okGl S id && decide (P.fnN.lookup id = some f) && es.all nostar && all2 (chkE P n S) es es'
      | _ => false
    | .meth f c o' es' => match e with
      | .Call (.Attribute o m apos) es [] pos => decide (P.mtN.lookup m = some (f, c)) && plainRecv o && (apos.endLine == pos.line) && decide (es.length < 30) && es.all nostar && chkE P n S o o' && all2 (chkE P n S) es es'
      | _ => false
    | .fld c j o' => match e with
      | .Attribute o m _ => decide (P.fldN.lookup m = some (c, j)) && plainRecv o && chkE P n S o o'
      | _ => false
    | .blt b es' => match e with
      | .Call (.Name id _) (a :: es) [] _ => decide (id = blName b) && okBl P S id && (a :: es).all nostar && all2 (chkE P n S) (a :: es) es'
      | _ => false
    | .isi a' t => match e with
      | .Call (.Name id _) [a, .Name ty _] [] _ => decide (id = "isinstance") && decide (ty = tyStr t) && okBl P S id && okBl P S ty && nostar a && chkE P n S a a'
      | _ => false
    | .isx a' tb => match e with
      | .Call (.Name id _) [a, .Name x p2] [] _ => decide (id = "isinstance") && okBl P S id && clsIs P S (.Name x p2) tb && nostar a && chkE P n S a a'
      | _ => false
    | .isxs a' tbs => match e with
      | .Call (.Name id _) [a, .Tuple es _ _] [] _ => decide (id = "isinstance") && okBl P S id && all2 (clsIs P S) es tbs && !isEmptyL tbs && decide (tbs.length ≤ 1000) && nostar a && chkE P n S a a'
      | _ => false
    | .dsp kvs => match e with
      | .Dict ks vs _ => dspIs ks vs kvs && decide (kvs.length ≤ 15)
      | _ => false
    | .lc tg' it' cs' e' own => match e with
      | .ListComp elt [⟨tg, iter, ifs, 0⟩] scope _ =>
        chkTg (S.comp scope) tg tg' && (tgIs tg').all (fun i => decide (i ∈ own)) && notSet iter &&
        (match it' with
          | .ex x' => chkE P n S iter x'
          | .rng1 a' => (match iter with
            | .Call (.Name id _) [a] [] _ => decide (id = "range") && okBl P S id && nostar a && chkE P n S a a'
            | _ => false)
          | .rng2 a' b' => (match iter with
            | .Call (.Name id _) [a, b] [] _ => decide (id = "range") && okBl P S id && nostar a && nostar b && chkE P n S a a' && chkE P n S b b'
            | _ => false)) &&
        decide (ifs.length ≤ 1) && all2 (chkE P n (S.comp scope)) ifs cs' && chkE P n (S.comp scope) elt e' &&
        blkC S.N S.sc scope (own.map fun i => (S.N.getD i (Str.ofString ""), i))
      | _ => false
def chkIt (P : PSt) (n : Nat) (S : SE) (iter : Expr) : Ii → Bool
  | .ex x' => chkE P n S iter x'
  | .rng1 a' => (match iter with
    | .Call (.Name id _) [a] [] _ => decide (id = "range") && okBl P S id && nostar a && chkE P n S a a'
    | _ => false)
  | .rng2 a' b' => (match iter with
    | .Call (.Name id _) [a, b] [] _ => decide (id = "range") && okBl P S id && nostar a && nostar b && chkE P n S a a' && chkE P n S b b'
    | _ => false)

/-! ### the world around -/
structure At (prog : Program) (w : World) (K : PySem.W.Frag) (mg : Str → Option Value) (base : Heap) (X : Cx) : Prop where
  prog : X.prog = prog
  w : X.w = w
  K : X.K = K
  mg : X.mg = mg
  base : X.base = base
structure Wd (P : PSt) (U : Uni) (C : Ctx) (k : Nat) (prog : Program) (w : World) (K : PySem.W.Frag) (mg : Str → Option Value) (base : Heap) : Prop where
  KU : K = U.K
  nb : NoBr C
  calls : ∀ x f, P.fnN.lookup x = some f → ∃ u, mg x = some u ∧ ∀ X W, At prog w K mg base X → Takes X W → Room k X.A → X.calm = true → Callable U C W X f u
  meths : ∀ m f c, P.mtN.lookup m = some (f, c) → ∃ fa, ∀ X W, At prog w K mg base X → Takes X W → Room k X.A → X.calm = true → MethOk U X c m fa ∧ Callable U C W X f (.ref fa)
  flds : ∀ m c j, P.fldN.lookup m = some (c, j) → ∀ X, At prog w K mg base X → FldOk U X c j m
  gls : ∀ x g, P.glN.lookup x = some g → ∃ u v, mg x = some u ∧ RelV v u ∧ ∀ G, Rep U G v (C.gl g)
  blt : ∀ x, x ∈ P.blN → mg x = none
  dct : ∀ X, At prog w K mg base X → DctOk U X
  excs : ∀ x c, P.excN.lookup x = some c → mg x = some (.ref (U.exc c)) ∧ PySem.W.excIn K (U.exc c) veTail "ValueError.__new__" = true ∧ PySem.W.keepIn K (.ref (U.exc c)) = true ∧
    PySem.W.subIn K (.ref (U.exc c)) (.type "BaseException") = some true ∧ PySem.W.typeIn K (.ref (U.exc c)) = some (.type "type")
  isx : ∀ x tb, P.isN.lookup x = some tb → ClsFx K U.exc mg x tb
structure XOk (k : Nat) (prog : Program) (w : World) (K : PySem.W.Frag) (mg : Str → Option Value) (base : Heap) (S : SE) (W : WX) (X : Cx) : Prop where
  at_ : At prog w K mg base X
  tk : Takes X W
  room : Room k X.A
  calm : X.calm = true
  sc : X.env.scope = S.sc
  N : X.N = S.N
  nd : S.N.Nodup
  fn : ∀ x, X.fn x = S.fn x
section
variable {P : PSt} {U : Uni} {C : Ctx} {k : Nat} {prog : Program} {w : World} {K : PySem.W.Frag} {mg : Str → Option Value} {base : Heap} {S : SE} {W : WX} {X : Cx}
theorem visB_ok (h : XOk k prog w K mg base S W X) {x : Str} (v : visB S x = true) : Vis X.env.scope x := by
  unfold visB at v
  rw [← h.sc] at v
  unfold Vis
  split at v
  · exact .inl (by assumption)
  · exact .inr (.inl (by assumption))
  · exact .inr (.inr (by assumption))
  · cases v
theorem locB_ok (h : XOk k prog w K mg base S W X) {x : Str} (v : locB S x = true) : L2.Loc X.env.scope x ∧ (X.fn x = true ∨ X.env.scope.names.lookup x = some .local) := by
  unfold locB at v
  rw [← h.sc] at v
  unfold L2.Loc
  split at v
  · rename_i e
    exact ⟨.inl e, .inr e⟩
  · rename_i e
    refine ⟨.inr e, .inl ?_⟩
    rw [h.fn]
    exact v
  · cases v
theorem okGl_ok (h : XOk k prog w K mg base S W X) {x : Str} (v : okGl S x = true) : Gl X x ∧ (x == ("__debug__" : Str)) = false := by
  unfold okGl at v
  rw [Bool.and_eq_true] at v
  obtain ⟨v1, v2⟩ := v
  rw [← h.sc] at v1
  unfold notDbg at v2
  rw [Bool.and_eq_true] at v2
  refine ⟨?_, by simpa using v2.1⟩
  split at v1
  · assumption
  · cases v1
theorem okLoc_ok (h : XOk k prog w K mg base S W X) {x : Str} {i : Nat} (v : okLoc S x i = true) : X.N[i]? = some x ∧ Vis X.env.scope x ∧ (x == ("__debug__" : Str)) = false ∧ (x == ("__classdict__" : Str)) = false := by
  unfold okLoc at v
  rw [Bool.and_eq_true, Bool.and_eq_true] at v
  obtain ⟨⟨v1, v2⟩, v3⟩ := v
  unfold notDbg at v3
  rw [Bool.and_eq_true] at v3
  exact ⟨by rw [h.N]; exact of_decide_eq_true v1, visB_ok h v2, by simpa using v3.1, by simpa using v3.2⟩
theorem okBl_ok (hw : Wd P U C k prog w K mg base) (h : XOk k prog w K mg base S W X) {x : Str} (v : okBl P S x = true) : Gl X x ∧ X.mg x = none := by
  unfold okBl at v
  rw [Bool.and_eq_true] at v
  refine ⟨(okGl_ok h v.1).1, ?_⟩
  rw [h.at_.mg]
  exact hw.blt x (of_decide_eq_true v.2)
theorem chkTg_ok (hw : Wd P U C k prog w K mg base) (h : XOk k prog w K mg base S W X) {tg : Expr} {t : Tg} {B : Hp} (v : chkTg S tg t = true) : PG X tg (tTg U B (tgIs t) (bindTg t)) := by
  have hK : X.K = U.K := h.at_.K.trans hw.KU
  have hN : X.N.Nodup := by rw [h.N]; exact h.nd
  cases t with
  | nm i =>
    unfold chkTg at v
    dsimp only at v
    split at v
    · rw [Bool.and_eq_true] at v
      obtain ⟨h1, h2⟩ := locB_ok h v.2
      exact cb_gnm hN (by rw [h.N]; exact of_decide_eq_true v.1) h1 h2
    · cases v
  | tp is =>
    unfold chkTg at v
    dsimp only at v
    split at v
    · exact cb_gtp hK h.calm hN (fun x hx => locB_ok h hx) (by rw [h.N]; exact v)
    · cases v
theorem XOk.blk (h : XOk k prog w K mg base S W X) (s : Shared) (H : Hp) (scope : Scope) (cl : List (Str × Addr)) (Ca : Addr) (fp : List Addr) :
    XOk k prog w K mg base (S.comp scope) W0 (X.blk s H scope (compEnvC scope cl Ca X.env) fp) where
  at_ := ⟨h.at_.prog, h.at_.w, h.at_.K, h.at_.mg, h.at_.base⟩
  tk := takes0
  room := h.room
  calm := h.calm
  sc := by
    show relS scope X.env.scope = relS scope S.sc
    rw [h.sc]
  N := h.N
  nd := h.nd
  fn := fun x => rfl
theorem chkE_star {n : Nat} {e : Expr} {x : Ex} (h : chkE P n S e x = true) : nostar e = true := by
  cases e <;> first | rfl | skip
  cases n with
  | zero => cases h
  | succ n => cases x <;> cases h

abbrev ClE (P : PSt) (U : Uni) (C : Ctx) (k : Nat) (prog : Program) (w : World) (K : PySem.W.Frag) (mg : Str → Option Value) (base : Heap) (n : Nat) : Prop :=
  ∀ (S : SE) (X : Cx) (W : WX) (B : Hp) (e : Expr) (x : Ex), XOk k prog w K mg base S W X → chkE P n S e x = true → PE X e (tR U W B (ev C x))
abbrev ClT (P : PSt) (U : Uni) (C : Ctx) (k : Nat) (prog : Program) (w : World) (K : PySem.W.Frag) (mg : Str → Option Value) (base : Heap) (n : Nat) : Prop :=
  ∀ (S : SE) (X : Cx) (W : WX) (B : Hp) (e : Expr) (x : Ex), XOk k prog w K mg base S W X → chkE P n S e x = true → PT X e (tBo U W B (asB (ev C x)))
abbrev ClW (P : PSt) (U : Uni) (C : Ctx) (k : Nat) (prog : Program) (w : World) (K : PySem.W.Frag) (mg : Str → Option Value) (base : Heap) (n : Nat) : Prop :=
  ∀ (S : SE) (X : Cx) (W : WX) (B : Hp) (op : BoolOp) (vs : List Expr) (pos : Pos) (x : Ex), XOk k prog w K mg base S W X → chkE P n S (.BoolOp op vs pos) x = true → PW X (.BoolOp op vs pos) (tBo U W B (asB (ev C x)))
theorem args_ok {n : Nat} {B : Hp} (hE : ClE P U C k prog w K mg base n) (h : XOk k prog w K mg base S W X) : ∀ {es : List Expr} {xs : List Ex}, es.all nostar = true → all2 (chkE P n S) es xs = true → PA X es (tAr U W B (evs C xs))
  | [], [], _, _ => cb_nil
  | e :: es, x :: xs, hs, ha => by
    rw [List.all_cons, Bool.and_eq_true] at hs
    unfold all2 at ha
    rw [Bool.and_eq_true] at ha
    exact cb_cons (hE S X W B e x h ha.1) (args_ok hE h hs.2 ha.2) (star_cons hs.1)
  | [], _ :: _, _, ha => by cases ha
  | _ :: _, [], _, ha => by cases ha
theorem args_okb {n : Nat} {B : Hp} (hE : ClE P U C k prog w K mg base n) (h : XOk k prog w K mg base S W X) : ∀ {es : List Expr} {xs : List Ex}, es.all nostar = true → all2 (chkE P n S) es xs = true → PA X es (tAb U W B (evb C xs))
  | [], [], _, _ => cb_bnil
  | e :: es, x :: xs, hs, ha => by
    rw [List.all_cons, Bool.and_eq_true] at hs
    unfold all2 at ha
    rw [Bool.and_eq_true] at ha
    exact cb_bcons (hE S X W B e x h ha.1) (args_okb hE h hs.2 ha.2) (star_cons hs.1)
  | [], _ :: _, _, ha => by cases ha
  | _ :: _, [], _, ha => by cases ha
theorem iter_ok {n : Nat} {B : Hp} {tg iter : Expr} {it : Ii} (hw : Wd P U C k prog w K mg base) (hE : ClE P U C k prog w K mg base n) (h : XOk k prog w K mg base S W X) (hc : chkIt P n S iter it = true) : PI X tg iter (tIt U W B (evIt C it)) := by
  have hK : X.K = U.K := h.at_.K.trans hw.KU
  cases it with
  | ex x => exact cb_iter hK (hE S X W B iter x h hc)
  | rng1 a' =>
    unfold chkIt at hc
    dsimp only at hc
    split at hc
    · simp only [Bool.and_eq_true, decide_eq_true_eq] at hc
      obtain ⟨⟨⟨rfl, h1⟩, h2⟩, h3⟩ := hc
      obtain ⟨g1, g2⟩ := okBl_ok hw h h1
      exact cb_rng1 g1 g2 h2 (hE S X W B _ a' h h3)
    · cases hc
  | rng2 a' b' =>
    unfold chkIt at hc
    dsimp only at hc
    split at hc
    · simp only [Bool.and_eq_true, decide_eq_true_eq] at hc
      obtain ⟨⟨⟨⟨⟨rfl, h1⟩, h2⟩, h3⟩, h4⟩, h5⟩ := hc
      obtain ⟨g1, g2⟩ := okBl_ok hw h h1
      exact cb_rng2 g1 g2 h2 h3 (hE S X W B _ a' h h4) (hE S X W B _ b' h h5)
    · cases hc
theorem clns_ok (hw : Wd P U C k prog w K mg base) (h : XOk k prog w K mg base S W X) : ∀ {es : List Expr} {tbs : List (List (Nat × Bool))}, all2 (clsIs P S) es tbs = true → ClNs X U es tbs
  | [], [], _ => clns_nil
  | [], _ :: _, hc => by cases hc
  | _ :: _, [], hc => by cases hc
  | e :: es, tb :: tbs, hc => by
    unfold all2 at hc
    rw [Bool.and_eq_true] at hc
    obtain ⟨h1, h2⟩ := hc
    unfold clsIs at h1
    split at h1
    · simp only [Bool.and_eq_true, decide_eq_true_eq] at h1
      obtain ⟨g3, g4⟩ := okGl_ok h h1.1
      exact clns_cons g3 g4 (by rw [h.at_.K, h.at_.mg]; exact hw.isx _ _ h1.2) (clns_ok hw h h2)
    · cases h1
theorem tBo_cong {B : Hp} {r r' : List Sl → Oc Bool} (e : ∀ env, r env = r' env) {σ : L2.St} {H : Hp} {Q : Bool → Hp → Prop} (h : tBo U W B r σ H Q) : tBo U W B r' σ H Q := by
  obtain ⟨G, env, I, h⟩ := h
  refine ⟨G, env, I, ?_⟩
  rw [← e]
  exact h
theorem ifs_ok {n : Nat} {B : Hp} (hT : ClT P U C k prog w K mg base n) (h : XOk k prog w K mg base S W X) : ∀ {es : List Expr} {xs : List Ex}, es.length ≤ 1 → all2 (chkE P n S) es xs = true → PTs X es (tBo U W B (evc C xs))
  | [], [], _, _ => ⟨fun pins s σ H Q I h => pts_nil.run pins s σ H Q I (tBo_pure h)⟩
  | [e], [x], _, ha => by
    unfold all2 at ha
    rw [Bool.and_eq_true] at ha
    refine ⟨fun pins s σ H Q I h' => (pts_one (hT S X W B e x h ha.1)).run pins s σ H Q I (tBo_cong (fun env => ?_) h')⟩
    show (ev C x env >>= fun x => oBool x.see >>= fun k => if k then Oc.ok true else Oc.ok false) = (ev C x env >>= fun x => oBool x.see)
    cases ev C x env with
    | no => rfl
    | ex c => rfl
    | ok r =>
      show (oBool r.see >>= fun k => if k then Oc.ok true else Oc.ok false) = oBool r.see
      cases oBool r.see with
      | no => rfl
      | ex c => rfl
      | ok k => cases k <;> rfl
  | [], _ :: _, _, ha => by cases ha
  | _ :: _, [], _, ha => by cases ha
  | [_], _ :: _ :: _, _, ha => by unfold all2 at ha; rw [Bool.and_eq_true] at ha; cases ha.2
  | _ :: _ :: _, _, hl, _ => by simp at hl

theorem pt_ifExp {c a b : Expr} {pos : Pos} {t1 t2 t3 : TT} (hc : PT X c t1) (ha : PT X a t2) (hb : PT X b t3) : PT X (.IfExp c a b pos) (fun σ H Q => t1 σ H fun k H1 => if k = true then t2 σ H1 Q else t3 σ H1 Q) := by
  refine ⟨fun pins s σ H Q I h => ?_⟩
  show wpAny _ _ (do if ← isTrue c X.env (eval c X.env) then isTrue a X.env (eval a X.env) else isTrue b X.env (eval b X.env)) _ _ _
  refine wpAny_bind (thn (hc.run pins s σ H _ I h) fun d s1 ⟨H1, I1, q1⟩ => ?_)
  cases d with
  | true => exact ha.run pins s1 σ H1 Q I1 q1
  | false => exact hb.run pins s1 σ H1 Q I1 q1
theorem cb_tite {B : Hp} {c a b : Expr} {pos : Pos} {rc ra rb : List Sl → Oc Rs} (hc : PT X c (tBo U W B (asB rc))) (ha : PT X a (tBo U W B (asB ra))) (hb : PT X b (tBo U W B (asB rb))) :
    PT X (.IfExp c a b pos) (tBo U W B (asB fun env => rc env >>= fun x => oBool x.see >>= fun k => if k then ra env else rb env)) :=
  PT.weak (pt_ifExp hc ha hb) fun σ H Q h => by
    have h : tBo U W B (fun env => asB rc env >>= fun k => if k then asB ra env else asB rb env) σ H Q := by
      refine tBo_cong (fun env => ?_) h
      unfold asB
      dsimp only
      cases rc env with
      | no => rfl
      | ex c => rfl
      | ok x =>
        show ((oBool x.see >>= fun k => if k then ra env else rb env) >>= fun x => oBool x.see) = (oBool x.see >>= fun k => if k = true then ra env >>= fun x => oBool x.see else rb env >>= fun x => oBool x.see)
        cases oBool x.see with
        | no => rfl
        | ex c => rfl
        | ok k => cases k <;> rfl
    refine tBo_then (f := fun k env => if k then asB ra env else asB rb env) h fun H1 x q => ?_
    cases x with
    | true => exact q
    | false => exact q
theorem sound_E (hw : Wd P U C k prog w K mg base) : ∀ n, ClE P U C k prog w K mg base n ∧ ClT P U C k prog w K mg base n ∧ ClW P U C k prog w K mg base n := by
  intro n
  induction n with
  | zero =>
    refine ⟨?_, ?_, ?_⟩
    · intro S X W B e x h hc
      cases hc
    · intro S X W B e x h hc
      cases hc
    · intro S X W B op vs pos x h hc
      cases hc
  | succ n ih =>
    obtain ⟨hE, hT, hW⟩ := ih
    have hE1 : ClE P U C k prog w K mg base (n + 1) := by
      intro S X W B e x h hc
      have hK : X.K = U.K := h.at_.K.trans hw.KU
      have hN : X.N.Nodup := by rw [h.N]; exact h.nd
      have hu : X.A.units + 64 < cLine := h.room.units
      cases x with
      | lo i =>
        unfold chkE at hc
        dsimp only at hc
        split at hc
        · obtain ⟨h1, h2, h3, h4⟩ := okLoc_ok h hc
          exact cb_lo h1 h2 h3 h4
        · cases hc
      | gl g =>
        unfold chkE at hc
        dsimp only at hc
        split at hc
        · simp only [Bool.and_eq_true, decide_eq_true_eq] at hc
          obtain ⟨h1, h2⟩ := okGl_ok h hc.1
          obtain ⟨u, v, h3, h4, h5⟩ := hw.gls _ _ hc.2
          exact cb_ct (pe_glob h1 (by rw [h.at_.mg]; exact h3) h4 h2) h5
        · cases hc
      | non =>
        unfold chkE at hc
        dsimp only at hc
        split at hc
        · exact cb_ct pe_non fun _ => Rep.non
        · cases hc
      | bl b =>
        unfold chkE at hc
        dsimp only at hc
        split at hc
        · have e := eq_of_beq hc
          subst e
          exact cb_ct pe_bl fun _ => Rep.bl _
        · cases hc
      | int i =>
        unfold chkE at hc
        dsimp only at hc
        split at hc
        · have e := of_decide_eq_true hc
          subst e
          exact cb_ct pe_int fun _ => Rep.int _
        · cases hc
      | str s =>
        unfold chkE at hc
        dsimp only at hc
        split at hc
        · have e := of_decide_eq_true hc
          subst e
          exact cb_ct pe_str fun _ => Rep.str _
        · cases hc
      | bin o a' b' =>
        unfold chkE at hc
        dsimp only at hc
        split at hc
        · simp only [Bool.and_eq_true] at hc
          have e := opIs_ok hc.1.1
          subst e
          exact cb_bin hK (hE S X W B _ a' h hc.1.2) (hE S X W B _ b' h hc.2)
        · cases hc
      | neg a' =>
        unfold chkE at hc
        dsimp only at hc
        split at hc
        · exact cb_un (op := .USub) (hE S X W B _ a' h hc)
        · cases hc
      | not a' =>
        unfold chkE at hc
        dsimp only at hc
        split at hc
        · exact cb_not (hE S X W B _ a' h hc)
        · cases hc
      | cmp o a' b' =>
        unfold chkE at hc
        dsimp only at hc
        split at hc
        · simp only [Bool.and_eq_true] at hc
          have e := coIs_ok hc.1.1
          subst e
          exact cb_cmp hK hu (hE S X W B _ a' h hc.1.2) (hE S X W B _ b' h hc.2)
        · cases hc
      | isN a' =>
        unfold chkE at hc
        dsimp only at hc
        split at hc
        · exact cb_isN (hE S X W B _ a' h hc)
        · cases hc
      | notN a' =>
        unfold chkE at hc
        dsimp only at hc
        split at hc
        · exact cb_notN (hE S X W B _ a' h hc)
        · cases hc
      | isin neg a' b' =>
        unfold chkE at hc
        dsimp only at hc
        split at hc
        · rename_i op b _
          simp only [Bool.and_eq_true] at hc
          have e : op = inOf neg := by
            have h1 := hc.1.1.1
            cases op <;> cases neg <;> first | rfl | cases h1
          subst e
          exact cb_isin hu hK (notSet_mark hc.1.1.2) (hE S X W B _ a' h hc.1.2) (hE S X W B _ b' h hc.2)
        · cases hc
      | rev a' =>
        unfold chkE at hc
        dsimp only at hc
        split at hc
        · exact cb_rev hK (hE S X W B _ a' h hc)
        · cases hc
      | isB g b a' =>
        unfold chkE at hc
        dsimp only at hc
        split at hc
        · simp only [Bool.and_eq_true] at hc
          obtain ⟨⟨h1, h2⟩, h3⟩ := hc
          obtain rfl := eq_of_beq h2
          cases g with
          | true => cases h1
          | false => exact cb_isB (hE S X W B _ a' h h3)
        · simp only [Bool.and_eq_true] at hc
          obtain ⟨⟨h1, h2⟩, h3⟩ := hc
          obtain rfl := eq_of_beq h2
          cases g with
          | false => cases h1
          | true => exact cb_isnB (hE S X W B _ a' h h3)
        · cases hc
      | chain o o' a' b' c' =>
        unfold chkE at hc
        dsimp only at hc
        split at hc
        · simp only [Bool.and_eq_true] at hc
          have e1 := coIs_ok hc.1.1.1.1.2
          have e2 := coIs_ok hc.1.1.1.2
          subst e1 e2
          exact cb_chain hc.1.1.1.1.1 hK hu (hE S X W B _ a' h hc.1.1.2) (hE S X W B _ b' h hc.1.2) (hE S X W B _ c' h hc.2)
        · cases hc
      | and a' b' =>
        unfold chkE at hc
        dsimp only at hc
        split at hc
        · rename_i a b r pos
          rw [Bool.and_eq_true] at hc
          cases r with
          | nil => exact cb_and (hE S X W B _ a' h hc.1) (pe_one (hE S X W B _ b' h hc.2))
          | cons b2 r => exact cb_and (hE S X W B _ a' h hc.1) (hE S X W B _ b' h hc.2)
        · cases hc
      | or a' b' =>
        unfold chkE at hc
        dsimp only at hc
        split at hc
        · rename_i a b r pos
          rw [Bool.and_eq_true] at hc
          cases r with
          | nil => exact cb_or (hE S X W B _ a' h hc.1) (pe_one (hE S X W B _ b' h hc.2))
          | cons b2 r => exact cb_or (hE S X W B _ a' h hc.1) (hE S X W B _ b' h hc.2)
        · cases hc
      | ite c' a' b' =>
        unfold chkE at hc
        dsimp only at hc
        split at hc
        · simp only [Bool.and_eq_true] at hc
          exact cb_ite (hT S X W B _ c' h hc.1.1) (hE S X W B _ a' h hc.1.2) (hE S X W B _ b' h hc.2)
        · cases hc
      | tup es' =>
        unfold chkE at hc
        dsimp only at hc
        split at hc
        · rw [Bool.and_eq_true] at hc
          exact cb_tup (args_ok hE h hc.1 hc.2)
        · cases hc
      | lst es' =>
        unfold chkE at hc
        dsimp only at hc
        split at hc
        · rw [Bool.and_eq_true] at hc
          exact cb_lst (args_ok hE h hc.1 hc.2)
        · cases hc
      | ix a' b' =>
        unfold chkE at hc
        dsimp only at hc
        split at hc
        · simp only [Bool.and_eq_true] at hc
          exact cb_ix hK (hw.dct X h.at_) (plainIx_of hc.1.1) (hE S X W B _ a' h hc.1.2) (hE S X W B _ b' h hc.2)
        · cases hc
      | sl a' lo' hi' =>
        unfold chkE at hc
        dsimp only at hc
        split at hc
        · rename_i a lo hi p2 p
          rw [Bool.and_eq_true, Bool.and_eq_true] at hc
          have part : ∀ {l : Option Expr} {l' : Ex}, (match l with | none => l'.isNon | some l => !l'.isNon && chkE P n S l l') = true → PO X l (tPo U W B fun env => if l'.isNon then .ok none else ev C l' env >>= fun l => oInt l.see >>= fun i => .ok (some i)) := fun {l l'} hl => by
            cases l with
            | none =>
              have hl : l'.isNon = true := hl
              simp only [hl, if_true]
              exact cb_po0
            | some l =>
              have hl : (!l'.isNon && chkE P n S l l') = true := hl
              rw [Bool.and_eq_true] at hl
              have hf : l'.isNon = false := by simpa using hl.1
              simp only [hf, Bool.false_eq_true, if_false]
              exact cb_po1 (hE S X W B _ l' h hl.2)
          exact cb_sl hK (hE S X W B _ a' h hc.1.1) (part hc.1.2) (part hc.2)
        · cases hc
      | call f es' =>
        unfold chkE at hc
        dsimp only at hc
        split at hc
        · rename_i id p es pos
          simp only [Bool.and_eq_true, decide_eq_true_eq] at hc
          obtain ⟨⟨⟨h1, h2⟩, h3⟩, h4⟩ := hc
          obtain ⟨g1, g2⟩ := okGl_ok h h1
          obtain ⟨u, h5, h6⟩ := hw.calls _ _ h2
          have hc := h6 X W h.at_ h.tk h.room h.calm
          cases es with
          | nil =>
            cases es' with
            | nil => exact cb_call0 hw.nb g1 g2 (by rw [h.at_.mg]; exact h5) hc
            | cons _ _ => cases h4
          | cons e es => exact cb_call hw.nb g1 g2 (by rw [h.at_.mg]; exact h5) hc h3 (args_ok hE h h3 h4)
        · cases hc
      | meth f c o' es' =>
        unfold chkE at hc
        dsimp only at hc
        split at hc
        · rename_i o m apos es pos
          simp only [Bool.and_eq_true, decide_eq_true_eq] at hc
          obtain ⟨⟨⟨⟨⟨⟨h1, h2⟩, h3⟩, h4⟩, h5⟩, h6⟩, h7⟩ := hc
          obtain ⟨fa, h8⟩ := hw.meths _ _ _ h1
          obtain ⟨mo, hc⟩ := h8 X W h.at_ h.tk h.room h.calm
          cases es with
          | nil =>
            cases es' with
            | nil => exact cb_meth0 hw.nb mo hc h2 h3 (hE S X W B _ o' h h6)
            | cons _ _ => cases h7
          | cons e es => exact cb_meth hw.nb mo hc h2 h3 (decide_eq_true h4) h5 (hE S X W B _ o' h h6) (args_ok hE h h5 h7)
        · cases hc
      | fld c j o' =>
        unfold chkE at hc
        dsimp only at hc
        split at hc
        · simp only [Bool.and_eq_true, decide_eq_true_eq] at hc
          exact cb_fld (hw.flds _ _ _ hc.1.1 X h.at_) hc.1.2 (hE S X W B _ o' h hc.2)
        · cases hc
      | blt b es' =>
        unfold chkE at hc
        dsimp only at hc
        split at hc
        · simp only [Bool.and_eq_true, decide_eq_true_eq] at hc
          obtain ⟨⟨⟨rfl, h1⟩, h2⟩, h3⟩ := hc
          obtain ⟨g1, g2⟩ := okBl_ok hw h h1
          exact cb_blt h.calm hu hK g1 g2 (by simpa using h2) (args_okb hE h (by simpa using h2) h3)
        · cases hc
      | isi a' t =>
        unfold chkE at hc
        dsimp only at hc
        split at hc
        · simp only [Bool.and_eq_true, decide_eq_true_eq] at hc
          obtain ⟨⟨⟨⟨⟨rfl, rfl⟩, h1⟩, h2⟩, h3⟩, h4⟩ := hc
          obtain ⟨g1, g2⟩ := okBl_ok hw h h1
          obtain ⟨g3, g4⟩ := okBl_ok hw h h2
          exact cb_isi hK g1 g2 g3 g4 h3 (hE S X W B _ a' h h4)
        · cases hc
      | isx a' tb =>
        unfold chkE at hc
        dsimp only at hc
        split at hc
        · simp only [clsIs, Bool.and_eq_true, decide_eq_true_eq] at hc
          obtain ⟨⟨⟨⟨rfl, h1⟩, h2, h2'⟩, h3⟩, h4⟩ := hc
          obtain ⟨g1, g2⟩ := okBl_ok hw h h1
          obtain ⟨g3, g4⟩ := okGl_ok h h2
          exact cb_isx hK g1 g2 g3 g4 (by rw [h.at_.K, h.at_.mg]; exact hw.isx _ _ h2') h3 (hE S X W B _ a' h h4)
        · cases hc
      | isxs a' tbs =>
        unfold chkE at hc
        dsimp only at hc
        split at hc
        · simp only [Bool.and_eq_true, decide_eq_true_eq] at hc
          obtain ⟨⟨⟨⟨⟨⟨rfl, h1⟩, h2⟩, h5⟩, h6⟩, h3⟩, h4⟩ := hc
          obtain ⟨g1, g2⟩ := okBl_ok hw h h1
          exact cb_isxs g1 g2 (clns_ok hw h h2) (by intro z; subst z; cases h5) h6 h3 (hE S X W B _ a' h h4)
        · cases hc
      | dsp kvs =>
        unfold chkE at hc
        dsimp only at hc
        split at hc
        · simp only [Bool.and_eq_true, decide_eq_true_eq] at hc
          obtain ⟨h1, h5⟩ := hc
          obtain ⟨q1, q2, q3, q4⟩ := dsp_ok (X := X) h1
          rename_i ks vs pos
          cases ks with
          | nil =>
            cases vs with
            | nil => exact cb_dsp0
            | cons v vs => cases q4
          | cons k ks => exact cb_dsp q1 q2 q4 (List.cons_ne_nil _ _) (by rw [q3]; exact h5) h5
        · cases hc
      | lc tg' it' cs' e' own =>
        unfold chkE at hc
        dsimp only at hc
        split at hc
        · rename_i elt tg iter ifs scope pos
          simp only [Bool.and_eq_true] at hc
          obtain ⟨⟨⟨⟨⟨⟨⟨h1, h2⟩, h3⟩, h4⟩, h5⟩, h6⟩, h7⟩, h8⟩ := hc
          have hi : chkIt P n S iter it' = true := by cases it' <;> exact h4
          have own_eq : (own.map fun i => (S.N.getD i (Str.ofString ""), i)).map (·.2) = own := by
            rw [List.map_map]
            exact List.map_id' own
          have hl := pe_lc (own := own.map fun i => (S.N.getD i (Str.ofString ""), i)) (pos := pos) h.calm hN (iter_ok (B := B) hw hE h hi) (blkOk_by (by rw [h.N, h.sc]; exact h8))
            (fun s H Ca cl fp => chkTg_ok (B := B) hw (h.blk s H scope cl Ca fp) h1) (fun s H Ca cl fp => ifs_ok (B := B) hT (h.blk s H scope cl Ca fp) (of_decide_eq_true h5) h6) (fun s H Ca cl fp => hE _ _ _ B _ e' (h.blk s H scope cl Ca fp) h7) (notSet_fold h3 _)
          rw [own_eq] at hl
          refine PE.weak hl fun σ H Q hq => lc_run (fun i hi => ?_) hq
          have h2 := List.all_eq_true.mp h2 i hi
          exact of_decide_eq_true h2
        · cases hc
    have hW1 : ClW P U C k prog w K mg base (n + 1) := by
      intro S X W B op vs pos x h hc
      cases x with
      | and a' b' =>
        unfold chkE at hc
        dsimp only at hc
        split at hc
        · rename_i a b r pos e
          cases e
          rw [Bool.and_eq_true] at hc
          cases r with
          | nil => exact cb_wand (hT S X W B _ a' h hc.1) (pw_and1 (hT S X W B _ b' h hc.2))
          | cons b2 r => exact cb_wand (hT S X W B _ a' h hc.1) (hW S X W B _ _ _ b' h hc.2)
        · cases hc
      | or a' b' =>
        unfold chkE at hc
        dsimp only at hc
        split at hc
        · rename_i a b r pos e
          cases e
          rw [Bool.and_eq_true] at hc
          cases r with
          | nil => exact cb_wor (hT S X W B _ a' h hc.1) (pw_or1 (hT S X W B _ b' h hc.2))
          | cons b2 r => exact cb_wor (hT S X W B _ a' h hc.1) (hW S X W B _ _ _ b' h hc.2)
        · cases hc
      | _ => cases hc
    refine ⟨hE1, ?_, hW1⟩
    intro S X W B e x h hc
    have hK : X.K = U.K := h.at_.K.trans hw.KU
    have hu : X.A.units + 64 < cLine := h.room.units
    have dflt : (∀ whole, isTrue e X.env whole = (do let v ← whole; standAt e.pos; holding [v] (truthy v))) → PT X e (tBo U W B (asB (ev C x))) := fun he => cb_tval (hE1 S X W B e x h hc) he
    cases e with
    | BoolOp op vs pos => exact (hW1 S X W B op vs pos x h hc).pt
    | UnaryOp op a pos =>
      cases x with
      | neg a' =>
        cases op <;> first | (exact dflt fun _ => rfl) | cases hc
      | not a' =>
        cases op with
        | Not => exact cb_tnot (hT S X W B a a' h hc)
        | _ => cases hc
      | _ => cases hc
    | Compare a ops bs pos =>
      cases x with
      | cmp o a' b' =>
        unfold chkE at hc
        dsimp only at hc
        split at hc
        · rename_i a op b pos e
          cases e
          simp only [Bool.and_eq_true] at hc
          have e := coIs_ok hc.1.1
          subst e
          exact cb_tcmp hK hu (hE S X W B _ a' h hc.1.2) (hE S X W B _ b' h hc.2)
        · cases hc
      | isN a' =>
        unfold chkE at hc
        dsimp only at hc
        split at hc
        · rename_i e
          cases e
          exact cb_tisN (hE S X W B _ a' h hc)
        · cases hc
      | notN a' =>
        unfold chkE at hc
        dsimp only at hc
        split at hc
        · rename_i e
          cases e
          exact cb_tnotN (hE S X W B _ a' h hc)
        · cases hc
      | isin neg a' b' =>
        unfold chkE at hc
        dsimp only at hc
        split at hc
        · rename_i a op b pos e
          cases e
          simp only [Bool.and_eq_true] at hc
          have e : op = inOf neg := by
            have h1 := hc.1.1.1
            cases op <;> cases neg <;> first | rfl | cases h1
          subst e
          exact cb_tisin hu hK (notSet_mark hc.1.1.2) (hE S X W B _ a' h hc.1.2) (hE S X W B _ b' h hc.2)
        · cases hc
      | isB g b a' =>
        unfold chkE at hc
        dsimp only at hc
        split at hc
        · rename_i e
          cases e
          simp only [Bool.and_eq_true] at hc
          obtain ⟨⟨h1, h2⟩, h3⟩ := hc
          obtain rfl := eq_of_beq h2
          cases g with
          | true => cases h1
          | false => exact cb_tisB (hE S X W B _ a' h h3)
        · rename_i e
          cases e
          simp only [Bool.and_eq_true] at hc
          obtain ⟨⟨h1, h2⟩, h3⟩ := hc
          obtain rfl := eq_of_beq h2
          cases g with
          | false => cases h1
          | true => exact cb_tisnB (hE S X W B _ a' h h3)
        · cases hc
      | chain o o' a' b' c' =>
        unfold chkE at hc
        dsimp only at hc
        split at hc
        · rename_i e
          cases e
          simp only [Bool.and_eq_true] at hc
          have e1 := coIs_ok hc.1.1.1.1.2
          have e2 := coIs_ok hc.1.1.1.2
          subst e1 e2
          exact cb_tchain hc.1.1.1.1.1 hK hu (hE S X W B _ a' h hc.1.1.2) (hE S X W B _ b' h hc.1.2) (hE S X W B _ c' h hc.2)
        · cases hc
      | _ => cases hc
    | IfExp c a b pos =>
      cases x with
      | ite c' a' b' =>
        exact cb_tite (hT S X W B _ c' h (by have := hc; simp only [chkE, Bool.and_eq_true] at this; exact this.1.1)) (hT S X W B _ a' h (by have := hc; simp only [chkE, Bool.and_eq_true] at this; exact this.1.2)) (hT S X W B _ b' h (by have := hc; simp only [chkE, Bool.and_eq_true] at this; exact this.2))
      | _ => cases hc
    | _ => exact dflt fun _ => rfl
end
end PF

namespace PF
open PySem PySem.Spec PyProof.Rows L2 PySem.HandSPX
section
variable {U : Uni} {W : WX} {B G0 : Hp} {X : Cx}
/-! ### statements -/
def PostS (U : Uni) (W : WX) (G0 B : Hp) (o : Oc Fl) (D : Ends) : Prop :=
  match o with
  | .no => False
  | .ex c => ∀ σ' G' H', Grow G0 B G' H' → W (.ref (U.exc c)) none σ' H'
  | .ok (.nx env') => ∀ σ' G' H', EnvOk U B G' H' env' σ' → Grow G0 B G' H' → D.nx σ' H'
  | .ok (.bk env') => ∀ σ' G' H', EnvOk U B G' H' env' σ' → Grow G0 B G' H' → D.bk σ' H'
  | .ok (.ct env') => ∀ σ' G' H', EnvOk U B G' H' env' σ' → Grow G0 B G' H' → D.ct σ' H'
  | .ok (.rt r) => ∀ v G' H', Grow G0 B G' H' → RsOk U B G' H' B v r → D.rt v H'
def tS (U : Uni) (W : WX) (B : Hp) (m : List Sl → Oc Fl) : TS := fun D σ H => ∃ G0 G env, EnvOk U B G H env σ ∧ Grow G0 B G H ∧ PostS U W G0 B (m env) D
theorem Grow.down {G1 H1 G' H' : Hp} (g : Grow G0 B G1 H1) (h : Grow G1 B G' H') : Grow G0 B G' H' where
  gg := g.gg.trans h.gg
  gh := h.gh
  keep := fun a o hg hb => h.keep a o (g.new a hg (by rw [hb]; simp)) hb
  new := fun a hg hb => h.new a (g.new a hg hb) hb
theorem Grow.up {G1 H1 G' H' : Hp} (g : Grow G0 B G1 H1) (h : Grow G0 B G' H') (s : Same G1 G') : Grow G1 B G' H' where
  gg := s
  gh := h.gh
  keep := fun a o hg hb => by
    refine h.keep a o ?_ hb
    cases e : G0 a with
    | none => rfl
    | some u => rw [g.gg a u e] at hg; cases hg
  new := fun a hg hb => by
    refine h.new a ?_ hb
    cases e : G0 a with
    | none => rfl
    | some u => rw [g.gg a u e] at hg; cases hg
theorem PostS.up {G1 H1 : Hp} {o : Oc Fl} {D : Ends} (g : Grow G0 B G1 H1) (h : PostS U W G0 B o D) : PostS U W G1 B o D := by
  unfold PostS at h ⊢
  split at h
  · exact h
  · exact fun σ' G' H' q => h σ' G' H' (g.down q)
  · exact fun σ' G' H' I q => h σ' G' H' I (g.down q)
  · exact fun σ' G' H' I q => h σ' G' H' I (g.down q)
  · exact fun σ' G' H' I q => h σ' G' H' I (g.down q)
  · exact fun v G' H' q => h v G' H' (g.down q)
/-- an expression ahead -/
theorem tS_ev {r : List Sl → Oc Rs} {k : Rs → List Sl → Oc Fl} {D : Ends} {σ : L2.St} {H : Hp} {Q : VK}
    (h : tS U W B (fun env => r env >>= fun x => k x env) D σ H)
    (hop : ∀ G0 G1 H1 G env v x, EnvOk U B G H env σ → EnvOk U B G1 H1 env σ → Grow G0 B G1 H1 → RsOk U B G1 H1 H v x → PostS U W G0 B (k x env) D → Q v H1) : tR U W B r σ H Q := by
  obtain ⟨G0, G, env, I, g0, h⟩ := h
  dsimp only at h
  refine ⟨G, env, I, ?_⟩
  unfold Post
  cases e : r env with
  | no => rw [e] at h; exact h
  | ex c => rw [e] at h; exact fun G' H' g => h σ G' H' (g0.trans g)
  | ok x =>
    rw [e, Oc.ok_bind] at h
    exact fun v G1 H1 g1 k1 => hop G0 G1 H1 G env v x I (I.later g1) (g0.trans g1) k1 h
theorem tS_evf {r : List Sl → Oc Rs} {k : Tr → List Sl → Oc Fl} {D : Ends} {σ : L2.St} {H : Hp} {Q : VK}
    (h : tS U W B (fun env => r env >>= Rs.fz >>= fun x => k x env) D σ H)
    (hop : ∀ G0 G1 H1 G env v x, EnvOk U B G H env σ → Grow G H G1 H1 → EnvOk U B G1 H1 env σ → Grow G0 B G1 H1 → Rep U G1 v x → PostS U W G0 B (k x env) D → Q v H1) : tR U W B r σ H Q := by
  obtain ⟨G0, G, env, I, g0, h⟩ := h
  have h : PostS U W G0 B ((r env >>= Rs.fz) >>= fun x => k x env) D := h
  refine tR_fz ⟨G, env, I, ?_⟩
  show PostT U W (r env >>= Rs.fz) G H σ _
  unfold PostT
  cases e : (r env >>= Rs.fz) with
  | no => rw [e] at h; exact h
  | ex c => rw [e] at h; exact fun G' H' g => h σ G' H' (g0.trans g)
  | ok x =>
    rw [e, Oc.ok_bind] at h
    exact fun v G1 H1 g1 k1 => hop G0 G1 H1 G env v x I g1 (I.later g1) (g0.trans g1) k1 h
/-- a list of one's own into a slot -/
theorem EnvOk.setO {G H H1 : Hp} {env : List Sl} {σ : L2.St} {i : Nat} {p : Addr} {vs : List V} {xs : List Tr} (I0 : EnvOk U B G H env σ) {G1 : Hp} (I : EnvOk U B G1 H1 env σ) (hp : H p = none) (hg : G1 p = none) (hh : H1 p = some (.lst vs)) (r : RepL U G1 vs xs) :
    EnvOk U B G1 H1 (env.set i (.ow xs)) (σ.set i (some (.ref p))) := by
  have other : ∀ j ys q, env[j]? = some (Sl.ow ys) → σ[j]? = some (some (V.ref q)) → q ≠ p := fun j ys q h1 h2 z => by
    subst z
    obtain ⟨p', vs', e1, _, _, e2, _⟩ := I0.rep j _ h1
    rw [h2] at e1
    cases e1
    rw [hp] at e2
    cases e2
  refine ⟨I.sub, I.old, by rw [List.length_set, List.length_set]; exact I.len, fun j s h => ?_, fun j k as bs q h1 h2 h3 h4 => ?_⟩
  · by_cases hj : i = j
    · subst hj
      by_cases hl : i < env.length
      · rw [List.getElem?_set_self hl] at h
        cases h
        exact ⟨p, vs, by rw [List.getElem?_set_self (by rw [I.len]; exact hl)], I0.old p hp, hg, hh, r⟩
      · rw [List.getElem?_eq_none (by rw [List.length_set]; omega)] at h
        cases h
    · rw [List.getElem?_set_ne hj] at h ⊢
      exact I.rep j s h
  · by_cases hj : i = j
    · by_cases hk : i = k
      · exact hj.symm.trans hk
      · exfalso
        subst hj
        rw [List.getElem?_set_ne hk] at h2 h4
        by_cases hl : i < σ.length
        · rw [List.getElem?_set_self hl] at h3
          cases h3
          exact other k bs p h2 h4 rfl
        · rw [List.getElem?_eq_none (by rw [List.length_set]; omega)] at h3
          cases h3
    · by_cases hk : i = k
      · exfalso
        subst hk
        rw [List.getElem?_set_ne hj] at h1 h3
        by_cases hl : i < σ.length
        · rw [List.getElem?_set_self hl] at h4
          cases h4
          exact other j as p h1 h3 rfl
        · rw [List.getElem?_eq_none (by rw [List.length_set]; omega)] at h4
          cases h4
      · rw [List.getElem?_set_ne hj] at h1 h3
        rw [List.getElem?_set_ne hk] at h2 h4
        exact I.sep j k as bs q h1 h2 h3 h4
theorem tAsg_nm {r : List Sl → Oc Rs} {te : TE} {i : Nat} {D : Ends} {σ : L2.St} {H : Hp} (hte : ∀ Q : VK, tR U W B r σ H Q → te σ H Q)
    (h : tS U W B (fun env => r env >>= fun x => asgR (.nm i) x env >>= fun env' => .ok (.nx env')) D σ H) : tAsg te (gName i) D σ H := by
  refine hte _ (tS_ev (k := fun x env => asgR (.nm i) x env >>= fun env' => .ok (.nx env')) h fun G0 G1 H1 G env v x I0 I g k q => ?_)
  show D.nx (σ.set i (some v)) H1
  have e : asgR (.nm i) x env = putR i x env := rfl
  rw [e] at q
  unfold putR at q
  split at q
  · cases x with
    | im t => exact q _ G1 H1 (I.set k) g
    | ow xs =>
      obtain ⟨p, vs, rfl, hp, hg, hh, rr⟩ := k
      exact q _ G1 H1 (I0.setO I hp hg hh rr) g
    | br xs => exact q.elim
  · exact q.elim
theorem tAsg_tp {r : List Sl → Oc Rs} {is : List Nat} {D : Ends} {σ : L2.St} {H : Hp}
    (h : tS U W B (fun env => r env >>= fun x => asgR (.tp is) x env >>= fun env' => .ok (.nx env')) D σ H) : tAsg (tR U W B r) (tTg U B is (bindTg (.tp is))) D σ H := by
  refine tS_ev (k := fun x env => asgR (.tp is) x env >>= fun env' => .ok (.nx env')) h fun G0 G1 H1 G env v x I0 I g k q => ?_
  cases x with
  | ow xs => exact q.elim
  | br xs => exact q.elim
  | im t =>
    refine ⟨G1, env, t, I, k, ?_⟩
    have e : asgR (.tp is) (.im t) env = bindTg (.tp is) t env := by cases t <;> rfl
    rw [e] at q
    cases e2 : bindTg (.tp is) t env with
    | no => rw [e2] at q; exact q
    | ex c =>
      exfalso
      cases t <;> first | cases e2 | skip
      have e2 : (if is.length = _ then bindTp is _ env else .no : Oc (List Sl)) = .ex c := e2
      split at e2
      · exact bindTp_ex e2
      · cases e2
    | ok env' =>
      rw [e2] at q
      exact fun σ' _ I' => q σ' G1 H1 I' g
where
  bindTp_ex : ∀ {is : List Nat} {ts : List Tr} {env : List Sl} {c : Nat}, bindTp is ts env ≠ .ex c
    | [], [], _, _, h => by cases h
    | [], _ :: _, _, _, h => by cases h
    | _ :: _, [], _, _, h => by cases h
    | i :: is, t :: ts, env, c, h => by
      unfold bindTp at h
      cases e : bindNm env i t with
      | no => rw [e] at h; cases h
      | ex c => unfold bindNm at e; split at e <;> cases e
      | ok env' => rw [e, Oc.ok_bind] at h; exact bindTp_ex h
/-- freezing a slot -/
theorem EnvOk.freeze {G H : Hp} {env : List Sl} {σ : L2.St} {i : Nat} {xs : List Tr} (I : EnvOk U B G H env σ) (g : Grow G0 B G H) (h : env[i]? = some (.ow xs)) : ∃ G1, EnvOk U B G1 H (env.set i (.im (.lst xs))) σ ∧ Grow G0 B G1 H := by
  obtain ⟨p, vs, e1, e2, e3, e4, e5⟩ := I.rep i _ h
  have gs : Same G (upd G p (.lst vs)) := ghost_same e3
  refine ⟨upd G p (.lst vs), ⟨?_, I.old, by rw [List.length_set]; exact I.len, fun j s hj => ?_, fun j k as bs q h1 h2 h3 h4 => ?_⟩, g.ghost e2 e4 e3⟩
  · exact (g.ghost e2 e4 e3).gh
  · by_cases hij : i = j
    · subst hij
      by_cases hl : i < env.length
      · rw [List.getElem?_set_self hl] at hj
        cases hj
        exact ⟨_, e1, .lst (.inl (.inl upd_same)) (e5.mono gs)⟩
      · rw [List.getElem?_eq_none (by rw [List.length_set]; omega)] at hj
        cases hj
    · rw [List.getElem?_set_ne hij] at hj
      have q := I.rep j s hj
      cases s with
      | un => trivial
      | im t => obtain ⟨v, q1, q2⟩ := q; exact ⟨v, q1, q2.mono gs⟩
      | ow ys =>
        obtain ⟨p', vs', q1, q2, q3, q4, q5⟩ := q
        have hne : p' ≠ p := fun z => by
          subst z
          exact hij (I.sep i j xs ys p' h hj e1 q1)
        exact ⟨p', vs', q1, q2, by rw [upd_ne hne]; exact q3, q4, q5.mono gs⟩
  · have n1 : i ≠ j := fun e => by
      subst e
      by_cases hl : i < env.length
      · rw [List.getElem?_set_self hl] at h1; cases h1
      · rw [List.getElem?_eq_none (by rw [List.length_set]; omega)] at h1; cases h1
    have n2 : i ≠ k := fun e => by
      subst e
      by_cases hl : i < env.length
      · rw [List.getElem?_set_self hl] at h2; cases h2
      · rw [List.getElem?_eq_none (by rw [List.length_set]; omega)] at h2; cases h2
    rw [List.getElem?_set_ne n1] at h1
    rw [List.getElem?_set_ne n2] at h2
    exact I.sep j k as bs q h1 h2 h3 h4
/-- what stands at a slot is changed -/
theorem EnvOk.mut {G H : Hp} {env : List Sl} {σ : L2.St} {i : Nat} {p : Addr} {ws : List V} {xs ys : List Tr} (I : EnvOk U B G H env σ) (g : Grow G0 B G H) (h : env[i]? = some (.ow xs)) (hp : σ[i]? = some (some (V.ref p))) (r : RepL U G ws ys) :
    EnvOk U B G (upd H p (.lst ws)) (env.set i (.ow ys)) σ ∧ Grow G0 B G (upd H p (.lst ws)) := by
  obtain ⟨p', vs, e1, e2, e3, e4, e5⟩ := I.rep i _ h
  rw [hp] at e1
  cases e1
  have hi : i < env.length := (List.getElem?_eq_some_iff.mp h).1
  have sub : Same G (upd H p (.lst ws)) := fun c o hc => by
    have : c ≠ p := fun z => by subst z; rw [e3] at hc; cases hc
    rw [upd_ne this]; exact I.sub c o hc
  refine ⟨⟨sub, fun a ha => ?_, by rw [List.length_set]; exact I.len, fun j s hj => ?_, fun j k as bs q h1 h2 h3 h4 => ?_⟩, ⟨g.gg, sub, fun a o hg hb => ?_, g.new⟩⟩
  · by_cases z : a = p
    · subst z; rw [upd_same] at ha; cases ha
    · rw [upd_ne z] at ha; exact I.old a ha
  · by_cases hij : i = j
    · subst hij
      rw [List.getElem?_set_self hi] at hj
      cases hj
      exact ⟨p, ws, hp, e2, e3, upd_same, r⟩
    · rw [List.getElem?_set_ne hij] at hj
      have q := I.rep j s hj
      cases s with
      | un => trivial
      | im t => exact q
      | ow zs =>
        obtain ⟨p', vs', q1, q2, q3, q4, q5⟩ := q
        have hne : p' ≠ p := fun z => by
          subst z
          exact hij (I.sep i j xs zs p' h hj hp q1)
        exact ⟨p', vs', q1, q2, q3, by rw [upd_ne hne]; exact q4, q5⟩
  · have sl : ∀ (j : Nat) (zs : List Tr), (env.set i (Sl.ow ys))[j]? = some (Sl.ow zs) → ∃ zs', env[j]? = some (Sl.ow zs') := fun j zs hz => by
      by_cases hij : i = j
      · subst hij; exact ⟨xs, h⟩
      · rw [List.getElem?_set_ne hij] at hz; exact ⟨zs, hz⟩
    obtain ⟨as', h1⟩ := sl j as h1
    obtain ⟨bs', h2⟩ := sl k bs h2
    exact I.sep j k as' bs' q h1 h2 h3 h4
  · have : a ≠ p := fun z => by subst z; rw [e2] at hb; cases hb
    rw [upd_ne this]; exact g.keep a o hg hb
/-- a name's list, as it stands -/
theorem slot_at {G H : Hp} {env : List Sl} {σ : L2.St} {i : Nat} {xs : List Tr} (I : EnvOk U B G H env σ) (h : env[i]? = some (.ow xs)) : ∃ p vs, σ[i]? = some (some (V.ref p)) ∧ G p = none ∧ H p = some (.lst vs) ∧ RepL U G vs xs := by
  obtain ⟨p, vs, e1, e2, e3, e4, e5⟩ := I.rep i _ h
  exact ⟨p, vs, e1, e3, e4, e5⟩
theorem slotO_ok {env : List Sl} {i : Nat} {xs : List Tr} (h : slotO env i = .ok xs) : env[i]? = some (.ow xs) := by
  unfold slotO at h
  split at h
  · cases h; assumption
  · cases h
theorem slotO_ex {env : List Sl} {i c : Nat} : slotO env i ≠ .ex c := by
  unfold slotO
  split <;> intro h <;> cases h
theorem tS_app {r : List Sl → Oc Rs} {i : Nat} {D : Ends} {σ : L2.St} {H : Hp} {K : PySem.W.Frag}
    (h : tS U W B (fun env => slotO env i >>= fun xs => r env >>= Rs.fz >>= fun t => if sizeOk (xs.length + 1) then .ok (.nx (env.set i (.ow (xs ++ [t])))) else .no) D σ H) : tDrop (tBM K "list" rAppend (tVar i) (tCons (tR U W B r) tNil)) D σ H := by
  obtain ⟨G0, G, env, I, g, h⟩ := h
  dsimp only at h
  cases e : slotO env i with
  | no => rw [e] at h; exact h.elim
  | ex c => exact absurd e slotO_ex
  | ok xs =>
    rw [e, Oc.ok_bind] at h
    have hs := slotO_ok e
    obtain ⟨p, vs, e1, e2, e3, e4⟩ := slot_at I hs
    refine ⟨.ref p, e1, Or.inl ⟨rfl, vs, .inl (.inl e3)⟩, ?_⟩
    show tR U W B r σ H _
    have h2 : PostS U W G0 B ((r env >>= Rs.fz) >>= fun t => if sizeOk (xs.length + 1) then .ok (.nx (env.set i (.ow (xs ++ [t])))) else .no) D := h
    refine tR_fz ⟨G, env, I, ?_⟩
    show PostT U W (r env >>= Rs.fz) G H σ _
    unfold PostT
    cases ee : (r env >>= Rs.fz) with
    | no => rw [ee] at h2; exact h2
    | ex c => rw [ee] at h2; exact fun G' H' g1 => h2 σ G' H' (g.trans g1)
    | ok t =>
      rw [ee, Oc.ok_bind] at h2
      intro v G1 H1 g1 k1
      split at h2
      · rename_i hz
        have r1 : RepL U G1 (vs ++ [v]) (xs ++ [t]) := (e4.mono g1.gg).append (.cons k1 .nil)
        obtain ⟨J, gJ⟩ := (I.later g1).mut (g.trans g1) hs e1 r1
        refine ⟨p, vs, v, rfl, rfl, g1.keep p _ e2 e3, ?_, h2 _ _ _ J gJ⟩
        have := sizeOk_le hz
        rw [e4.length]
        omega
      · exact h2.elim
theorem RepL.eraseIdx {G : Hp} : ∀ {vs : List V} {ts : List Tr} (k : Nat), RepL U G vs ts → RepL U G (vs.eraseIdx k) (ts.eraseIdx k)
  | _, _, _, .nil => .nil
  | _, _, 0, .cons r rr => rr
  | _, _, k + 1, .cons r rr => .cons r (rr.eraseIdx k)
theorem popT_ok {xs ys : List Tr} {t : Tr} (h : popT xs t = .ok ys) : ∃ j : Int, t = .int j ∧ smallI j = true ∧ 0 ≤ j ∧ j < xs.length ∧ ys = xs.eraseIdx j.toNat := by
  unfold popT at h
  split at h
  · rename_i j
    split at h
    · rename_i hc
      cases h
      simp only [Bool.and_eq_true, decide_eq_true_eq] at hc
      exact ⟨j, rfl, hc.1.1, hc.1.2, hc.2, rfl⟩
    · cases h
  · cases h
theorem popT_ex {xs : List Tr} {t : Tr} {c : Nat} : popT xs t ≠ .ex c := by
  unfold popT
  split
  · split <;> intro h <;> cases h
  · intro h; cases h
theorem seqIx {j : Int} {n : Nat} (h0 : 0 ≤ j) (h : j < n) : seqIndex? j n = some j.toNat := by
  have e : (if j < 0 then j + (n : Int) else j) = j := if_neg (by omega)
  have e2 : (decide (0 ≤ j) && decide (j < (n : Int))) = true := by
    rw [Bool.and_eq_true]
    exact ⟨decide_eq_true h0, decide_eq_true h⟩
  show (if (decide (0 ≤ (if j < 0 then j + (n : Int) else j)) && decide ((if j < 0 then j + (n : Int) else j) < (n : Int))) = true then some (if j < 0 then j + (n : Int) else j).toNat else none) = _
  rw [e, if_pos e2]
theorem tS_pop {r : List Sl → Oc Rs} {i : Nat} {D : Ends} {σ : L2.St} {H : Hp} {K : PySem.W.Frag}
    (h : tS U W B (fun env => slotO env i >>= fun xs => r env >>= Rs.fz >>= fun t => popT xs t >>= fun ys => .ok (.nx (env.set i (.ow ys)))) D σ H) : tDrop (tBM K "list" rPopAt (tVar i) (tCons (tR U W B r) tNil)) D σ H := by
  obtain ⟨G0, G, env, I, g, h⟩ := h
  dsimp only at h
  cases e : slotO env i with
  | no => rw [e] at h; exact h.elim
  | ex c => exact absurd e slotO_ex
  | ok xs =>
    rw [e, Oc.ok_bind] at h
    have hs := slotO_ok e
    obtain ⟨p, vs, e1, e2, e3, e4⟩ := slot_at I hs
    refine ⟨.ref p, e1, Or.inl ⟨rfl, vs, .inl (.inl e3)⟩, ?_⟩
    show tR U W B r σ H _
    have h2 : PostS U W G0 B ((r env >>= Rs.fz) >>= fun t => popT xs t >>= fun ys => .ok (.nx (env.set i (.ow ys)))) D := h
    refine tR_fz ⟨G, env, I, ?_⟩
    show PostT U W (r env >>= Rs.fz) G H σ _
    unfold PostT
    cases ee : (r env >>= Rs.fz) with
    | no => rw [ee] at h2; exact h2
    | ex c => rw [ee] at h2; exact fun G' H' g1 => h2 σ G' H' (g.trans g1)
    | ok t =>
      rw [ee, Oc.ok_bind] at h2
      intro v G1 H1 g1 k1
      cases e5 : popT xs t with
      | no => rw [e5] at h2; exact h2.elim
      | ex c => exact absurd e5 popT_ex
      | ok ys =>
        rw [e5, Oc.ok_bind] at h2
        obtain ⟨j, rfl, hj, j0, j1, rfl⟩ := popT_ok e5
        cases k1
        have r1 : RepL U G1 (vs.eraseIdx j.toNat) (xs.eraseIdx j.toNat) := (e4.mono g1.gg).eraseIdx _
        obtain ⟨J, gJ⟩ := (I.later g1).mut (g.trans g1) hs e1 r1
        have hl := e4.length
        have hk : j.toNat < vs.length := by omega
        unfold smallI at hj
        rw [Bool.and_eq_true] at hj
        have q1 := of_decide_eq_true hj.1
        have q2 := of_decide_eq_true hj.2
        exact ⟨p, vs, j, j.toNat, vs[j.toNat], rfl, rfl, g1.keep p _ e2 e3, by omega, by omega, seqIx j0 (by omega), List.getElem?_eq_getElem hk, h2 _ _ _ J gJ⟩
theorem tS_rvs {i : Nat} {D : Ends} {σ : L2.St} {H : Hp} {K : PySem.W.Frag}
    (h : tS U W B (fun env => slotO env i >>= fun xs => .ok (.nx (env.set i (.ow xs.reverse)))) D σ H) : tDrop (tBM0 K "list" rReverse (tVar i)) D σ H := by
  obtain ⟨G0, G, env, I, g, h⟩ := h
  dsimp only at h
  cases e : slotO env i with
  | no => rw [e] at h; exact h.elim
  | ex c => exact absurd e slotO_ex
  | ok xs =>
    rw [e, Oc.ok_bind] at h
    have hs := slotO_ok e
    obtain ⟨p, vs, e1, e2, e3, e4⟩ := slot_at I hs
    refine ⟨.ref p, e1, Or.inl ⟨rfl, vs, .inl (.inl e3)⟩, ?_⟩
    obtain ⟨J, gJ⟩ := I.mut g hs e1 e4.reverse
    exact ⟨p, vs, rfl, rfl, e3, h _ _ _ J gJ⟩
theorem tS_clr {i : Nat} {D : Ends} {σ : L2.St} {H : Hp} {K : PySem.W.Frag}
    (h : tS U W B (fun env => slotO env i >>= fun _ => .ok (.nx (env.set i (.ow [])))) D σ H) : tDrop (tBM0 K "list" rClear (tVar i)) D σ H := by
  obtain ⟨G0, G, env, I, g, h⟩ := h
  dsimp only at h
  cases e : slotO env i with
  | no => rw [e] at h; exact h.elim
  | ex c => exact absurd e slotO_ex
  | ok xs =>
    rw [e, Oc.ok_bind] at h
    have hs := slotO_ok e
    obtain ⟨p, vs, e1, e2, e3, e4⟩ := slot_at I hs
    refine ⟨.ref p, e1, Or.inl ⟨rfl, vs, .inl (.inl e3)⟩, ?_⟩
    obtain ⟨J, gJ⟩ := I.mut (ys := []) (ws := []) g hs e1 .nil
    exact ⟨p, vs, rfl, rfl, e3, h _ _ _ J gJ⟩
theorem setT_ok {xs ys : List Tr} {k : Int} {t : Tr} (h : setT xs k t = .ok ys) : ∃ j, ixN xs.length k = some j ∧ ys = xs.set j t := by
  unfold setT at h
  split at h
  · rename_i j e
    cases h
    exact ⟨j, e, rfl⟩
  · cases h
theorem setT_ex {xs : List Tr} {k : Int} {t : Tr} {c : Nat} : setT xs k t ≠ .ex c := by
  unfold setT
  split <;> intro h <;> cases h
theorem tS_seti {r rk : List Sl → Oc Rs} {i : Nat} {D : Ends} {σ : L2.St} {H : Hp}
    (h : tS U W B (fun env => slotO env i >>= fun xs => r env >>= Rs.fz >>= fun t => rk env >>= fun z => oInt z.see >>= fun j => setT xs j t >>= fun ys => .ok (.nx (env.set i (.ow ys)))) D σ H) :
    tAsg (tR U W B r) (gSub (tVar i) (tR U W B rk) rSetL) D σ H := by
  obtain ⟨G0, G, env, I, g, h⟩ := h
  dsimp only at h
  cases e : slotO env i with
  | no => rw [e] at h; exact h.elim
  | ex c => exact absurd e slotO_ex
  | ok xs =>
    rw [e, Oc.ok_bind] at h
    have hs := slotO_ok e
    obtain ⟨p, vs, e1, e2, e3, e4⟩ := slot_at I hs
    have h2 : PostS U W G0 B ((r env >>= Rs.fz) >>= fun t => rk env >>= fun z => oInt z.see >>= fun j => setT xs j t >>= fun ys => .ok (.nx (env.set i (.ow ys)))) D := h
    refine tR_fz ⟨G, env, I, ?_⟩
    show PostT U W (r env >>= Rs.fz) G H σ _
    unfold PostT
    cases ee : (r env >>= Rs.fz) with
    | no => rw [ee] at h2; exact h2
    | ex c => rw [ee] at h2; exact fun G' H' g1 => h2 σ G' H' (g.trans g1)
    | ok t =>
      rw [ee, Oc.ok_bind] at h2
      intro v G1 H1 g1 k1
      refine ⟨.ref p, e1, G1, env, I.later g1, ?_⟩
      unfold Post
      cases e5 : rk env with
      | no => rw [e5] at h2; exact h2
      | ex c => rw [e5] at h2; exact fun G' H' g2 => h2 σ G' H' ((g.trans g1).trans g2)
      | ok z =>
        rw [e5, Oc.ok_bind] at h2
        intro w G2 H2 g2 k2
        cases e6 : oInt z.see with
        | no => rw [e6] at h2; exact h2.elim
        | ex c => exact absurd e6 oInt_ex
        | ok j =>
          rw [e6, Oc.ok_bind] at h2
          cases e7 : setT xs j t with
          | no => rw [e7] at h2; exact h2.elim
          | ex c => exact absurd e7 setT_ex
          | ok ys =>
            rw [e7] at h2
            obtain ⟨n, e8, rfl⟩ := setT_ok e7
            have g12 := g1.trans g2
            have r1 : RepL U G2 (vs.set n v) (xs.set n t) := RepL.set (k1.mono g2.gg) n (e4.mono g12.gg)
            obtain ⟨J, gJ⟩ := (I.later g12).mut (g.trans g12) hs e1 r1
            exact ⟨p, vs, j, n, rfl, k2.int (oInt_ok e6), g12.keep p _ e2 e3, by rw [e4.length]; exact e8, h2 _ _ _ J gJ⟩
theorem RsOk.end {G0 B G H G1 H1 : Hp} {v : V} {x : Rs} (old : ∀ a, H a = none → B a = none) (k : RsOk U B G1 H1 H v x) : x.out.isBr = false ∧ RsOk U B G1 H1 B v x.out := by
  cases x with
  | im t => exact ⟨rfl, k⟩
  | ow xs =>
    obtain ⟨p, vs, e, hp, hg, hh, r⟩ := k
    exact ⟨rfl, p, vs, e, old p hp, hg, hh, r⟩
  | br xs =>
    obtain ⟨p, vs, e, hp, hg, hh, r⟩ := k
    exact ⟨rfl, p, vs, e, hp, hg, hh, r⟩
theorem tS_ret {r : List Sl → Oc Rs} {D : Ends} {σ : L2.St} {H : Hp} (h : tS U W B (fun env => r env >>= fun x => .ok (.rt x.out)) D σ H) : tRet (tR U W B r) D σ H :=
  tS_ev (k := fun x _ => .ok (.rt x.out)) h fun G0 G1 H1 G env v x I0 I g k q => by
    obtain ⟨k1, k2⟩ := RsOk.end (G0 := G0) (G := G) I0.old k
    exact q v G1 H1 g k2
/-! tests -/
theorem tS_if {rc : List Sl → Oc Rs} {ma mb : List Sl → Oc Fl} {D : Ends} {σ : L2.St} {H : Hp} (h : tS U W B (fun env => rc env >>= fun x => oBool x.see >>= fun k => if k then ma env else mb env) D σ H) :
    tIfS (tBo U W B (asB rc)) (tS U W B ma) (tS U W B mb) D σ H := by
  obtain ⟨G0, G, env, I, g, h⟩ := h
  dsimp only at h
  refine ⟨G, env, I, ?_⟩
  unfold asB
  dsimp only
  cases e : rc env with
  | no => rw [e] at h; exact h
  | ex c => rw [e] at h; exact fun G' H' g1 => h σ G' H' (g.trans g1)
  | ok x =>
    rw [e, Oc.ok_bind] at h
    rw [Oc.ok_bind]
    cases e2 : oBool x.see with
    | no => rw [e2] at h; exact h
    | ex c => exact absurd e2 oBool_ex
    | ok k =>
      rw [e2, Oc.ok_bind] at h
      intro G1 H1 g1
      cases k with
      | true => exact ⟨G0, G1, env, I.later g1, g.trans g1, h⟩
      | false => exact ⟨G0, G1, env, I.later g1, g.trans g1, h⟩
/-! loops -/
theorem tS_for {ri : List Sl → Oc (List Tr)} {is : List Nat} {b : Tr → List Sl → Oc (List Sl)} {m : List Sl → Oc Fl} {D : Ends} {σ : L2.St} {H : Hp} (hb : ∀ t env c, b t env ≠ .ex c)
    (h : tS U W B (fun env => ri env >>= fun xs => forGo (fun x e => b x e >>= fun e' => m e') xs env) D σ H) : tFor (tIt U W B ri) (tTg U B is b) (tS U W B m) D σ H := by
  obtain ⟨G0, G, env, I, g, h⟩ := h
  dsimp only at h
  refine ⟨G, env, I, ?_⟩
  cases e : ri env with
  | no => rw [e] at h; exact h
  | ex c => rw [e] at h; exact fun G' H' g1 => h σ G' H' (g.trans g1)
  | ok xs =>
    rw [e, Oc.ok_bind] at h
    intro J G1 H1 g1 ok
    have gA := g.trans g1
    have h := h.up gA
    refine ⟨fun i m' σ' H' => ∃ G' env', EnvOk U B G' H' env' σ' ∧ Grow G1 B G' H' ∧ m' = xs.length - i ∧ i ≤ xs.length ∧ PostS U W G1 B (forGo (fun x e => b x e >>= fun e' => m e') (xs.drop i) env') D,
      ⟨xs.length, G1, env, I.later g1, gA.up gA (Same.refl _), rfl, Nat.zero_le _, h⟩, ?_⟩
    rintro i m' σ' H' ⟨G', env', I', g', rfl, hi, h'⟩
    obtain ⟨hgo, hstop⟩ := ok i G' H' g'.gg I'.sub
    by_cases hlt : i < xs.length
    · have hx : xs[i]? = some xs[i] := List.getElem?_eq_getElem hlt
      obtain ⟨hg, hy⟩ := hgo _ hx
      rw [List.drop_eq_getElem_cons hlt] at h'
      unfold forGo at h'
      refine .inr ⟨hg, fun σ2 H2 => ∃ G2 env2, EnvOk U B G2 H2 env2 σ2 ∧ Grow G1 B G2 H2 ∧ PostS U W G1 B (forGo (fun x e => b x e >>= fun e' => m e') (xs.drop (i + 1)) env2) D, fun σ2 H2 hN => ?_, fun x H2 y => ?_⟩
      · obtain ⟨G2, env2, I2, g2, h2⟩ := hN
        exact ⟨xs.length - (i + 1), by omega, G2, env2, I2, g2, rfl, hlt, h2⟩
      · obtain ⟨G2, g2, r2⟩ := hy x H2 y
        refine ⟨G2, env', xs[i], I'.later g2, r2, ?_⟩
        cases eb : b xs[i] env' with
        | no => rw [eb] at h'; exact h'
        | ex c => exact absurd eb (hb _ _ _)
        | ok env2 =>
          rw [eb, Oc.ok_bind] at h'
          intro σ2 _ I2
          refine ⟨G1, G2, env2, I2, g'.trans g2, ?_⟩
          unfold PostS
          cases em : m env2 with
          | no => rw [em] at h'; exact h'
          | ex c => rw [em] at h'; exact h'
          | ok f =>
            rw [em, Oc.ok_bind] at h'
            cases f with
            | nx e3 => exact fun σ3 G3 H3 I3 g3 => ⟨G3, e3, I3, g3, h'⟩
            | ct e3 => exact fun σ3 G3 H3 I3 g3 => ⟨G3, e3, I3, g3, h'⟩
            | bk e3 => exact h'
            | rt r => exact h'
    · have ei : i = xs.length := by omega
      subst ei
      refine .inl ⟨hstop (Nat.le_refl _), ?_⟩
      rw [List.drop_length] at h'
      exact h' σ' G' H' I' g'
theorem tS_while {rc : List Sl → Oc Rs} {m : List Sl → Oc Fl} {n : Nat} {D : Ends} {σ : L2.St} {H : Hp}
    (h : tS U W B (fun env => whlGo (fun e => rc e >>= fun x => oBool x.see) m n env) D σ H) : tWhile (tBo U W B (asB rc)) (tS U W B m) D σ H := by
  obtain ⟨G0, G, env, I, g, h⟩ := h
  refine ⟨fun n σ' H' => ∃ G' env', EnvOk U B G' H' env' σ' ∧ Grow G0 B G' H' ∧ PostS U W G0 B (whlGo (fun e => rc e >>= fun x => oBool x.see) m n env') D, ⟨n, G, env, I, g, h⟩, ?_⟩
  rintro n σ' H' ⟨G', env', I', g', h'⟩
  cases n with
  | zero => exact h'.elim
  | succ n =>
    unfold whlGo at h'
    have h' : PostS U W G0 B (asB rc env' >>= fun k => if k then m env' >>= fun
      | .nx e => whlGo (fun e => rc e >>= fun x => oBool x.see) m n e
      | .ct e => whlGo (fun e => rc e >>= fun x => oBool x.see) m n e
      | .bk e => .ok (.nx e)
      | .rt r => .ok (.rt r)
      else .ok (.nx env')) D := h'
    refine ⟨G', env', I', ?_⟩
    cases e : asB rc env' with
    | no => rw [e] at h'; exact h'
    | ex c => rw [e] at h'; exact fun G2 H2 g2 => h' σ' G2 H2 (g'.trans g2)
    | ok k =>
      rw [e, Oc.ok_bind] at h'
      intro G2 H2 g2
      cases k with
      | false => exact h' σ' G2 H2 (I'.later g2) (g'.trans g2)
      | true =>
        refine ⟨fun σ3 H3 => ∃ G3 env3, EnvOk U B G3 H3 env3 σ3 ∧ Grow G0 B G3 H3 ∧ PostS U W G0 B (whlGo (fun e => rc e >>= fun x => oBool x.see) m n env3) D, fun σ3 H3 hN => ⟨n, Nat.lt_succ_self _, hN⟩, ?_⟩
        refine ⟨G0, G2, env', I'.later g2, g'.trans g2, ?_⟩
        unfold PostS
        cases em : m env' with
        | no => simp only [em] at h'; exact h'
        | ex c => simp only [em] at h'; exact h'
        | ok f =>
          simp only [em] at h'
          cases f with
          | nx e3 => exact fun σ3 G3 H3 I3 g3 => ⟨G3, e3, I3, g3, h'⟩
          | ct e3 => exact fun σ3 G3 H3 I3 g3 => ⟨G3, e3, I3, g3, h'⟩
          | bk e3 => exact h'
          | rt r => exact h'
/-- one after another -/
theorem tS_seq {m1 m2 : List Sl → Oc Fl} {D : Ends} {σ : L2.St} {H : Hp} (h : tS U W B (fun env => m1 env >>= fun
    | .nx e => m2 e
    | f => .ok f) D σ H) : tSeq (tS U W B m1) (tS U W B m2) D σ H := by
  obtain ⟨G0, G, env, I, g, h⟩ := h
  refine ⟨G0, G, env, I, g, ?_⟩
  dsimp only at h
  unfold PostS at h ⊢
  cases e : m1 env with
  | no => rw [e] at h; exact h
  | ex c => rw [e] at h; exact h
  | ok f =>
    rw [e, Oc.ok_bind] at h
    cases f with
    | nx e2 => exact fun σ' G' H' I' g' => ⟨G0, G', e2, I', g', h⟩
    | ct e2 => exact h
    | bk e2 => exact h
    | rt r => exact h
theorem tS_fre {i : Nat} {m2 : List Sl → Oc Fl} {D : Ends} {σ : L2.St} {H : Hp} (h : tS U W B (fun env => (match env[i]? with
    | some (.ow xs) => .ok (.nx (env.set i (.im (.lst xs))))
    | _ => .ok (.nx env) : Oc Fl) >>= fun
    | .nx e => m2 e
    | f => .ok f) D σ H) : tS U W B m2 D σ H := by
  obtain ⟨G0, G, env, I, g, h⟩ := h
  dsimp only at h
  split at h
  · rename_i xs e
    obtain ⟨G1, I1, g1⟩ := I.freeze g e
    exact ⟨G0, G1, _, I1, g1, h⟩
  · exact ⟨G0, G, env, I, g, h⟩
theorem tS_nx {D : Ends} {σ : L2.St} {H : Hp} (h : tS U W B (fun env => .ok (.nx env)) D σ H) : D.nx σ H := by
  obtain ⟨G0, G, env, I, g, h⟩ := h
  exact h σ G H I g
theorem tS_par {i j : Nat} {rs : List Sl → Oc (List Tr)} {D : Ends} {σ : L2.St} {H : Hp} (h : tS U W B (fun env => rs env >>= fun ts => bindTp [i, j] ts env >>= fun env' => .ok (.nx env')) D σ H) : tPar i j (tAr U W B rs) D σ H := by
  obtain ⟨G0, G, env, I, g, h⟩ := h
  dsimp only at h
  refine ⟨G, env, I, ?_⟩
  unfold PostL
  cases e : rs env with
  | no => rw [e] at h; exact h
  | ex c => rw [e] at h; exact fun G' H' g1 => h σ G' H' (g.trans g1)
  | ok ts =>
    rw [e, Oc.ok_bind] at h
    intro vs G1 H1 g1 r
    cases r with
    | nil => exact h.elim
    | @cons v1 vs1 t1 ts1 r1 r =>
      have e2 : bindTp [i, j] (t1 :: ts1) env = bindNm env i t1 >>= fun env' => bindTp [j] ts1 env' := rfl
      rw [e2] at h
      cases e3 : bindNm env i t1 with
      | no => rw [e3] at h; exact h.elim
      | ex c => unfold bindNm at e3; split at e3 <;> cases e3
      | ok env1 =>
        rw [e3, Oc.ok_bind] at h
        cases r with
        | nil => exact h.elim
        | @cons v2 vs2 t2 ts2 r2 r =>
          have e4 : bindTp [j] (t2 :: ts2) env1 = bindNm env1 j t2 >>= fun env' => bindTp [] ts2 env' := rfl
          rw [e4] at h
          cases e5 : bindNm env1 j t2 with
          | no => rw [e5] at h; exact h.elim
          | ex c => unfold bindNm at e5; split at e5 <;> cases e5
          | ok env2 =>
            rw [e5, Oc.ok_bind] at h
            cases r with
            | cons _ _ => exact h.elim
            | nil =>
              have e3 := bindNm_ok e3
              have e5 := bindNm_ok e5
              subst e3 e5
              exact ⟨v1, v2, rfl, h _ G1 H1 (((I.later g1).set r1).set r2) (g.trans g1)⟩
theorem noex_ex {α : Type} {o : Oc α} {c : Nat} : o.noex ≠ .ex c := by
  cases o <;> intro h <;> cases h
theorem sub_step {rk : List Sl → Oc Rs} {i : Nat} {G0 G H : Hp} {env env' : List Sl} {σ : L2.St} {v : V} {t : Tr} {Q : L2.St → Hp → Prop} (I : EnvOk U B G H env σ) (g : Grow G0 B G H) (kv : Rep U G v t) (h : subO rk i t env = .ok env')
    (cont : ∀ G' H', EnvOk U B G' H' env' σ → Grow G0 B G' H' → Same G G' → Q σ H') : gSub (tVar i) (tR U W B rk) rSetL v σ H Q := by
  unfold subO at h
  cases e : slotO env i with
  | no => rw [e] at h; cases h
  | ex c => exact absurd e slotO_ex
  | ok xs =>
    rw [e, Oc.ok_bind] at h
    have hs := slotO_ok e
    obtain ⟨p, vs, e1, e2, e3, e4⟩ := slot_at I hs
    cases e5 : (rk env).noex with
    | no => rw [e5] at h; cases h
    | ex c => exact absurd e5 noex_ex
    | ok z =>
      rw [e5, Oc.ok_bind] at h
      cases e6 : oInt z.see with
      | no => rw [e6] at h; cases h
      | ex c => exact absurd e6 oInt_ex
      | ok j =>
        rw [e6, Oc.ok_bind] at h
        cases e7 : setT xs j t with
        | no => rw [e7] at h; cases h
        | ex c => exact absurd e7 setT_ex
        | ok ys =>
          rw [e7, Oc.ok_bind] at h
          cases h
          obtain ⟨n, e8, rfl⟩ := setT_ok e7
          refine ⟨.ref p, e1, G, env, I, ?_⟩
          rw [noex_ok e5]
          intro w G2 H2 g2 k2
          have r1 : RepL U G2 (vs.set n v) (xs.set n t) := RepL.set (kv.mono g2.gg) n (e4.mono g2.gg)
          obtain ⟨J, gJ⟩ := (I.later g2).mut (g.trans g2) hs e1 r1
          exact ⟨p, vs, j, n, rfl, k2.int (oInt_ok e6), g2.keep p _ e2 e3, by rw [e4.length]; exact e8, cont _ _ J gJ g2.gg⟩
theorem tS_swp {r rk1 rk2 : List Sl → Oc Rs} {i : Nat} {D : Ends} {σ : L2.St} {H : Hp}
    (h : tS U W B (fun env => r env >>= fun x => swpO rk1 rk2 i x env) D σ H) :
    tAsg (tR U W B r) (gTup U.K 2 (gCons (gSub (tVar i) (tR U W B rk1) rSetL) (gCons (gSub (tVar i) (tR U W B rk2) rSetL) gNil))) D σ H := by
  refine tS_ev (k := fun x env => swpO rk1 rk2 i x env) h fun G0 G1 H1 G env v x I0 I g k q => ?_
  unfold swpO at q
  split at q
  · rename_i a b
    have k : Rep U G1 v (.tup [a, b]) := k
    cases k with
    | tup hs r =>
      cases r with
      | cons ra r =>
        cases r with
        | cons rb r =>
          cases r
          cases e1 : subO rk1 i a env with
          | no => rw [e1] at q; exact q.elim
          | ex c =>
            exfalso
            exact subO_ex e1
          | ok env1 =>
            rw [e1, Oc.ok_bind] at q
            cases e2 : subO rk2 i b env1 with
            | no => rw [e2] at q; exact q.elim
            | ex c => exact (subO_ex e2).elim
            | ok env2 =>
              rw [e2, Oc.ok_bind] at q
              refine ⟨_, _, rfl, sqT_mono I.sub hs, rfl, _, _, rfl, sub_step I g ra e1 fun G2 H2 I2 g2 s2 => ⟨_, _, rfl, sub_step I2 g2 (rb.mono s2) e2 fun G3 H3 I3 g3 _ => ⟨rfl, q _ _ _ I3 g3⟩⟩⟩
  · exact q.elim
where
  subO_ex : ∀ {rk : List Sl → Oc Rs} {i : Nat} {t : Tr} {env : List Sl} {c : Nat}, subO rk i t env = .ex c → False := by
    intro rk i t env c h
    unfold subO at h
    cases e : slotO env i with
    | no => rw [e] at h; cases h
    | ex c => exact absurd e slotO_ex
    | ok xs =>
      rw [e, Oc.ok_bind] at h
      cases e5 : (rk env).noex with
      | no => rw [e5] at h; cases h
      | ex c => exact absurd e5 noex_ex
      | ok z =>
        rw [e5, Oc.ok_bind] at h
        cases e6 : oInt z.see with
        | no => rw [e6] at h; cases h
        | ex c => exact absurd e6 oInt_ex
        | ok j =>
          rw [e6, Oc.ok_bind] at h
          cases e7 : setT xs j t with
          | no => rw [e7] at h; cases h
          | ex c => exact absurd e7 setT_ex
          | ok ys => rw [e7] at h; cases h
end
end PF
set_option maxHeartbeats 2000000
namespace PF
open PySem PySem.Spec PyProof.Rows L2 PySem.HandSPX
/-! ### try: body / except x as n: kept = n -/
def wTrk (K : PySem.W.Frag) (c : Value) (i k : Nat) (Wout : WX) (D : Ends) : WX := fun cls d σ H =>
  ∃ (Dc : Addr) (b : Bool), cls = .ref Dc ∧ d = none ∧ PySem.W.exmOne K cls c = some b ∧
    (b = true → ∀ ad, H ad = none → D.nx (((σ.set i (some (.ref ad))).set k (some (.ref ad))).set i none) (upd H ad (.ext (errP ad Dc)))) ∧
    (b = false → Wout cls d σ H)
theorem objOk_more {prog : Program} {w : World} {H H' : Hp} {h : Heap} {a : Addr} {o : HO} (m : ∀ b u, H b = some u → H' b = some u) (z : ObjOk prog w H h a o) : ObjOk prog w H' h a o := by
  cases o with
  | lst xs => exact z
  | tup xs => exact z
  | dK kvs => exact z
  | dT kvs =>
    obtain ⟨h1, h2, xs, h3, h4⟩ := z
    exact ⟨h1, h2, xs, L2.Paired.mapP h3 fun p q ⟨e1, e2, e3⟩ => ⟨e1, m _ _ e2, e3⟩, h4⟩
  | set S n => exact z
  | ins C dx fs =>
    obtain ⟨h1, h2⟩ := z
    exact ⟨m _ _ h1, h2⟩
  | own x => exact z
  | xd fs => exact z
  | met f x => exact z
  | rng lo hi => exact z
  | frz ob u =>
    obtain ⟨h1, h2⟩ := z
    exact ⟨h1, objOk_more m h2⟩
  | tbl ps => exact z
  | ext φ => exact z
section
variable {X : Cx} {x n kx : Str} {c : Value} {i k : Nat} {body : List Stmt} {np kp ep ap pos posh : Pos} {tb : WX → TS} {Wout : WX}
/-- behind the suite the error is known to the ghost -/
theorem inv_known {pins : List (Addr × Obj)} {σ : L2.St} {H : Hp} {s : Shared} {ad Dc : Addr} {oe : Obj} {xe : Value → Shared → Prop} (I : Inv (X.tr ((ad, oe) :: (X.pn ++ pins)) xe) [] σ H s) (ok : X.Ok)
    (hz : Zc (.ref Dc) none oe) (hf : ∃ vs, oe.data = .fields vs) (new0 : ∀ o, X.s_0.heap.get? ad = some o → ad ∈ X.ex) (newp : ∀ p ∈ X.pn ++ pins, p.1 ≠ ad) : Inv X pins σ (upd H ad (.ext (errP ad Dc))) s := by
  obtain ⟨there, na, nL, nF, nC⟩ := I.pin (ad, oe) (List.mem_append.mpr (.inl List.mem_cons_self))
  have there : s.heap.get? ad = some oe := there
  have na : H ad = none := na
  have nL : ad ≠ X.env.locals := nL
  have nF : ad ∉ X.fs := nF
  have nC : ∀ v, oe.data ≠ .cell v := nC
  have J : PySem.W.InstAt s.heap ad oe Dc none := by
    obtain ⟨vs, hv⟩ := hf
    obtain ⟨oc, od, oda, osl⟩ := oe
    obtain ⟨h1, h2⟩ := hz
    dsimp only at h1 h2 hv
    subst h1 h2 hv
    exact ⟨there, rfl, rfl, trivial⟩
  have m : ∀ b u, H b = some u → upd H ad (.ext (errP ad Dc)) b = some u := fun b u e => by
    rw [upd_ne (fun z => by subst z; rw [na] at e; cases e)]
    exact e
  refine ⟨ok, I.os, I.bare, ⟨I.base.keep, I.base.slot, fun b o e n hx => ?_, I.base.there, fun b xs e => m _ _ (I.base.tups b xs e), fun b o u e => m _ _ (I.base.frzs b o u e), fun b ps e => ?_⟩, I.loc, I.cell, ?_, fun y q e => ?_, fun p hp => ?_, fun a o e => ?_, I.len⟩
  · have hb : b ≠ ad := fun z => by subst z; exact hx (new0 _ e)
    rw [upd_ne hb]
    exact I.base.free b o e n hx
  · obtain ⟨more, q⟩ := I.base.tbls b ps e
    exact ⟨more, m _ _ q⟩
  · rw [upd_ne (Ne.symm nL)]; exact I.free
  · have hq : q ≠ ad := fun z => by
      subst z
      obtain ⟨v, hv⟩ := I.cell y q e
      obtain ⟨o, ho, hd⟩ := hv
      rw [there] at ho
      cases ho
      exact nC _ hd
    rw [upd_ne hq]
    exact I.freeC y q e
  · obtain ⟨h1, h2, h3, h4, h5⟩ := I.pin p (List.mem_append.mpr (.inl (List.mem_cons_of_mem _ hp)))
    exact ⟨h1, by rw [upd_ne (newp p hp)]; exact h2, h3, h4, h5⟩
  · by_cases z : a = ad
    · subst z
      rw [upd_same] at e
      cases e
      refine ⟨⟨oe, J⟩, ⟨oe, there⟩, fun h1 h2 ⟨o1, J1⟩ kk => ⟨o1, ?_⟩⟩
      refine ⟨kk _ J1.1, J1.2, J1.3, ?_⟩
      have q := J1.4
      cases e2 : o1.dict with
      | none => trivial
      | some dx => rw [e2] at q; exact q.elim
    · rw [upd_ne z] at e
      exact objOk_more m (I.hok a o e)
theorem ps_trk (hst : X.stack = X.env :: X.outer) (hfr : X.env.frame = some X.env.locals) (nd : X.N.Nodup) (hi : X.N[i]? = some n) (loc : X.env.kindOf n = some .local) (hk : X.N[k]? = some kx) (lock : X.env.kindOf kx = some .local)
    (dbg : (n == ("__debug__" : Str)) = false) (cdct : (n == ("__classdict__" : Str)) = false) (nm : Names X x c) (tk : Takes X Wout)
    (hb : ∀ (W : WX) (pn : List (Addr × Obj)) (xe : Value → Shared → Prop), Takes (X.tr pn xe) W → PassesOwn (model X.prog X.w) X.A X.env xe → PSs (X.tr pn xe) body (tb W)) :
    PS X (.Try body [.ExceptHandler (some (.Name x np)) (some n) [.Assign [.Name kx kp] (.Name n ep) ap] posh] [] [] pos) (fun D σ H => tb (wTrk X.K c i k Wout D) D σ H) := by
  refine ⟨fun pins s σ H D I h => ?_⟩
  have ok := I.ok
  have fr2 : X.A.frames = some (X.env :: X.outer) := by rw [ok.frames, hst]
  have vis : Loc X.env.scope n := .inl loc
  have visk : Loc X.env.scope kx := .inl lock
  let after : Value → Shared → Prop := fun e s1 => wpAny (model X.prog X.w) X.A (noteFrame e X.env) (fun _ s2 => wpAny (model X.prog X.w) X.A (setFlight e none) (fun _ s3 =>
      wpAny (model X.prog X.w) X.A (handleBy e X.env [.ExceptHandler (some (.Name x np)) (some n) [.Assign [.Name kx kp] (.Name n ep) ap] posh]) (SP X pins D) X.xe s3) X.xe s2) X.xe s1
  have take : Takes (X.tr (X.pn ++ pins) after) (wTrk X.K c i k Wout D) := by
    intro u0 s1 xx
    obtain ⟨ad, B0, sI, pins1, σ1, H1, cls, d, rfl, J0, nb, up, sky, na, os, ag, Dc, b, rfl, rfl, ex1, yes, no⟩ := xx
    have J : Inv X pins σ1 H1 sI := J0.ofTry ok
    have sky1 : Sky B0 (X.env :: X.outer) ad (Zc (.ref Dc) none) X.env.locals s1.heap := by
      rw [← hst]
      exact sky
    show wpAny (model X.prog X.w) X.A (noteFrame (.ref ad) X.env) _ _ _
    refine Sky.land Zc.steady fr2 hfr sky1 fun g3 fly3 up3 => ?_
    have J3 : Inv X pins σ1 H1 { s1 with heap := g3 } := J.landed nb fly3.1 (up.trans up3) os ag
    obtain ⟨ob3, vs3, at3, zc3, dt3⟩ := fly3.there
    have nfr : ad ∉ frs (X.env :: X.outer) := fun hm => by
      obtain ⟨_, o1, at1, nf⟩ := fly3.2.2.1.mem hm
      rw [at3] at at1
      cases at1
      exact nf _ dt3
    have notL : ad ≠ X.env.locals := fun z => nfr (List.mem_filterMap.mpr ⟨X.env, List.mem_cons_self, hfr.trans (by rw [z])⟩)
    have notF : ad ∉ X.fs := fun hm => by
      obtain ⟨e1, m1, q1⟩ := List.mem_filterMap.mp hm
      exact nfr (List.mem_filterMap.mpr ⟨e1, List.mem_cons_of_mem _ m1, q1⟩)
    have isNew : ∀ o, sI.heap.get? ad = some o → False := fun o e => by
      have q := nb ad o e (by show ad ∉ frs X.stack; rw [hst]; exact nfr)
      rw [fly3.2.1] at q
      cases q
    have new0 : ∀ o, X.s_0.heap.get? ad = some o → ad ∈ X.ex := fun o e => by
      by_cases hx : ad ∈ X.ex
      · exact hx
      · obtain ⟨o', q⟩ := J.base.there ad o e hx
        exact (isNew _ q).elim
    have newp : ∀ p ∈ X.pn ++ pins, p.1 ≠ ad := fun p hp z => by
      obtain ⟨q, _⟩ := J.pin p hp
      rw [z] at q
      exact isNew _ q
    have S3 := J3.suite at3 dt3 na notL notF
    refine wpAny_handleBy_cons (codeAny_handlers_test ?_) (fun q => by cases q)
    have seen : PySem.W.Looks (model X.prog X.w) g3 (typeOf (.ref ad)) (.ref Dc) := fun A1 Q1 E1 s2 keep w => wpAny_typeOf_ref (keep _ _ at3) (by rw [zc3.1]; exact w)
    have asks := PySem.W.exm_one (M := model X.prog X.w) (J3.kIn) seen ex1
    have name : ∀ {Q1 E1 : Value → Shared → Prop}, Q1 c { s1 with heap := g3 } → wpAny (model X.prog X.w) (X.A.mark (some (.ref ad))) (eval (.Name x np) X.env) Q1 E1 { s1 with heap := g3 } := fun {Q1 E1} w => by
      obtain ⟨gl, dbg, own | ⟨none_, boot, nn⟩⟩ := nm
      · exact ld_glob (X := X.suite ad ((ad, ob3) :: (X.pn ++ pins))) S3 gl own w dbg
      · exact ld_blt (X := X.suite ad ((ad, ob3) :: (X.pn ++ pins))) S3 gl none_ boot w nn dbg
    refine name (asks.here ?_)
    cases b with
    | true =>
      refine codeAny_handlers_suite_as (HandSPX.lands_againZ fly3 fun g4 fly4 up4 => ?_)
      have J4 : Inv X pins σ1 H1 { s1 with heap := g4 } := J.landed nb fly4.1 ((up.trans up3).trans up4) os ag
      obtain ⟨ob4, vs4, at4, zc4, dt4⟩ := fly4.there
      have S4 := J4.suite at4 dt4 na notL notF
      refine store_ok (X := X.suite ad ((ad, ob4) :: (X.pn ++ pins))) (v := .ref ad) S4 nd hi vis rfl (fun s5 S5 => ?_) (.inr loc)
      have il : i < σ1.length := by rw [J.len]; exact (List.getElem?_eq_some_iff.mp hi).1
      have suite : PSs (X.suite ad ((ad, ob4) :: (X.pn ++ pins))) [.Assign [.Name kx kp] (.Name n ep) ap] (tAsg (tVar i) (gName k)) :=
        pss_one (ps_set (X := X.suite ad ((ad, ob4) :: (X.pn ++ pins))) nd hk visk (pe_var hi (.inl loc) dbg cdct) rfl (.inr lock))
      refine wpAny_mono (suite.run [] s5 (σ1.set i (some (.ref ad))) H1 ⟨fun σ' H' => D.nx (σ'.set i none) (upd H' ad (.ext (errP ad Dc))), fun _ _ => False, fun _ _ => False, fun _ _ => False⟩ S5 ?_) (fun f s6 w => ?_) (fun _ _ z => False.elim z)
      · exact ⟨.ref ad, by rw [List.getElem?_set_self il], yes rfl ad na⟩
      · cases f with
        | next =>
          obtain ⟨σ6, H6, S6, w6⟩ := w
          refine gone_ok (X := X.tr ((ad, ob4) :: (X.pn ++ pins)) X.xe) (pins := []) ⟨ok.toTry _ _, S6.os, S6.bare, S6.base, S6.loc, S6.cell, S6.free, S6.freeC, S6.pin, S6.hok, S6.len⟩ nd hi loc fun s7 J7 => ?_
          exact ⟨_, _, inv_known J7 ok zc4 ⟨_, dt4⟩ new0 newp, w6⟩
        | brk => obtain ⟨_, _, _, z⟩ := w; exact z.elim
        | cont => obtain ⟨_, _, _, z⟩ := w; exact z.elim
        | ret u => obtain ⟨_, _, _, _, _, z⟩ := w; exact z.elim
    | false =>
      show wpAny _ X.A (handleBy (.ref ad) X.env []) _ _ _
      refine wpAny_handleBy_nil ?_
      obtain ⟨k1, k2, k3, ob, vs, T, oT, tsv, at0, zc0, dt0, at1, rest0⟩ := id fly3
      unfold PySem.passOn
      refine wpAny_bind (wpAny_field at0 dt0 at1 ?_)
      rw [if_neg (by simp : ¬ ((Value.ref T == Value.none) = true))]
      have flies : wpAny (model X.prog X.w) X.A (setFlight (.ref ad) X.env.frame) (fun _ s4 => wpAny (model X.prog X.w) X.A (throw (.ref ad) : Sem Flow) (SP X pins D) X.xe s4) X.xe { s1 with heap := g3 } := by
        rw [hfr]
        refine HandSPX.setFlight_upZ fly3 fun g4 there4 up4 => wpAny_throw (tk _ _ ?_)
        exact ⟨ad, B0, sI, pins, σ1, H1, _, _, rfl, J, nb, (up.trans up3).trans up4, .inr (.inr (by rw [hst]; exact there4)), na, os, ag, no rfl⟩
      first
        | exact wpAny_bind (wpAny_pure (wpAny_bind flies))
        | exact wpAny_bind flies
  refine wpAny_Try_except (wpAny_mono ((hb (wTrk X.K c i k Wout D) (X.pn ++ pins) after take PassesOwn.looking).run [] s σ H _ (I.toTry _) h) (fun f s1 w => ?_) (fun e s1 w => w))
  cases f with
  | next =>
    obtain ⟨σ1, H1, J, w⟩ := w
    exact wpAny_execs_nil ⟨σ1, H1, J.ofTry ok, w⟩
  | brk =>
    obtain ⟨σ1, H1, J, w⟩ := w
    exact ⟨σ1, H1, J.ofTry ok, w⟩
  | cont =>
    obtain ⟨σ1, H1, J, w⟩ := w
    exact ⟨σ1, H1, J.ofTry ok, w⟩
  | ret u =>
    obtain ⟨v1, σ1, H1, J, r1, w⟩ := w
    exact ⟨v1, σ1, H1, J.ofTry ok, r1, w⟩
end
end PF
namespace PF
open PySem PySem.Spec PyProof.Rows L2 PySem.HandSPX
section
variable {U : Uni} {W : WX} {B : Hp}
theorem EnvOk.setU {G H : Hp} {env : List Sl} {σ : L2.St} {i : Nat} {x : Option V} (I : EnvOk U B G H env σ) : EnvOk U B G H (env.set i .un) (σ.set i x) := by
  have un : ∀ (j : Nat) s, (env.set i Sl.un)[j]? = some s → s = .un ∨ (i ≠ j ∧ env[j]? = some s) := fun j s h => by
    by_cases hij : i = j
    · subst hij
      by_cases hl : i < env.length
      · rw [List.getElem?_set_self hl] at h; cases h; exact .inl rfl
      · rw [List.getElem?_eq_none (by rw [List.length_set]; omega)] at h; cases h
    · rw [List.getElem?_set_ne hij] at h; exact .inr ⟨hij, h⟩
  refine ⟨I.sub, I.old, by rw [List.length_set, List.length_set]; exact I.len, fun j s h => ?_, fun j k as bs q h1 h2 h3 h4 => ?_⟩
  · rcases un j s h with rfl | ⟨hij, h⟩
    · trivial
    · rw [List.getElem?_set_ne hij]
      exact I.rep j s h
  · rcases un j _ h1 with z | ⟨n1, h1⟩
    · cases z
    · rcases un k _ h2 with z | ⟨n2, h2⟩
      · cases z
      · rw [List.getElem?_set_ne n1] at h3
        rw [List.getElem?_set_ne n2] at h4
        exact I.sep j k as bs q h1 h2 h3 h4
theorem set_thrice {α : Type} (l : List α) (i k : Nat) (u e : α) : ((l.set i u).set k e).set i u = (l.set k e).set i u := by
  by_cases h : i = k
  · subst h; rw [List.set_set, List.set_set, List.set_set]
  · rw [List.set_comm _ _ (fun z => h z), List.set_set]
theorem trk_ev {r : List Sl → Oc Rs} {kf : Rs → List Sl → Oc Fl} {K : PySem.W.Frag} {cv : Value} {i k : Nat} {tb : List (Nat × Bool)} {D : Ends} {σ : L2.St} {H : Hp} {Q : VK} (hkf : ∀ x env c, kf x env ≠ .ex c)
    (hx : ∀ c b, tb.lookup c = some b → PySem.W.exmOne K (.ref (U.exc c)) cv = some b)
    (h : tS U W B (fun env => trkR i k tb env (r env >>= fun x => kf x env)) D σ H)
    (hop : ∀ G0 G1 H1 G env v x, EnvOk U B G H env σ → EnvOk U B G1 H1 env σ → Grow G0 B G1 H1 → RsOk U B G1 H1 H v x → PostS U W G0 B (kf x env) D → Q v H1) : tR U (wTrk K cv i k W D) B r σ H Q := by
  obtain ⟨G0, G, env, I, g0, h⟩ := h
  dsimp only at h
  refine ⟨G, env, I, ?_⟩
  unfold Post
  cases e : r env with
  | no => rw [e] at h; exact h
  | ex c =>
    rw [e] at h
    intro G' H' g
    show wTrk K cv i k W D (.ref (U.exc c)) none σ H'
    have h : PostS U W G0 B (match tb.lookup c with
      | some true => .ok (.nx ((env.set k (.im (.err c))).set i .un))
      | some false => .ex c
      | none => .no) D := h
    cases el : tb.lookup c with
    | none => rw [el] at h; exact h.elim
    | some b =>
      rw [el] at h
      cases b with
      | false => exact ⟨_, false, rfl, rfl, hx c _ el, (fun z => by cases z), fun _ => h σ G' H' (g0.trans g)⟩
      | true =>
        refine ⟨_, true, rfl, rfl, hx c _ el, fun _ ad hn => ?_, fun z => by cases z⟩
        have gm := Grow.made (o := .ext (errP ad (U.exc c))) g.gh hn
        have I2 := (I.later g).later gm
        have I3 := ((I2.setU (i := i) (x := some (.ref ad))).set (i := k) (v := .ref ad) (t := .err c) (Rep.err upd_same)).setU (i := i) (x := none)
        rw [set_thrice] at I3
        exact h _ _ _ I3 ((g0.trans g).trans gm)
  | ok x =>
    rw [e, Oc.ok_bind] at h
    intro v G1 H1 g1 k1
    have h : PostS U W G0 B (trkR i k tb env (kf x env)) D := h
    have e2 : trkR i k tb env (kf x env) = kf x env := by
      cases e3 : kf x env with
      | ex c => exact absurd e3 (hkf x env c)
      | no => rfl
      | ok f => rfl
    rw [e2] at h
    exact hop G0 G1 H1 G env v x I (I.later g1) (g0.trans g1) k1 h
theorem trk_ret {r : List Sl → Oc Rs} {K : PySem.W.Frag} {cv : Value} {i k : Nat} {tb : List (Nat × Bool)} {D : Ends} {σ : L2.St} {H : Hp} (hx : ∀ c b, tb.lookup c = some b → PySem.W.exmOne K (.ref (U.exc c)) cv = some b)
    (h : tS U W B (fun env => trkR i k tb env (r env >>= fun x => .ok (.rt x.out))) D σ H) : tRet (tR U (wTrk K cv i k W D) B r) D σ H :=
  trk_ev (kf := fun x _ => .ok (.rt x.out)) (fun x env c z => by cases z) hx h fun G0 G1 H1 G env v x I0 I g k q => by
    obtain ⟨k1, k2⟩ := RsOk.end (G0 := G0) (G := G) I0.old k
    exact q v G1 H1 g k2
theorem trk_expr {r : List Sl → Oc Rs} {K : PySem.W.Frag} {cv : Value} {i k : Nat} {tb : List (Nat × Bool)} {D : Ends} {σ : L2.St} {H : Hp} (hx : ∀ c b, tb.lookup c = some b → PySem.W.exmOne K (.ref (U.exc c)) cv = some b)
    (h : tS U W B (fun env => trkR i k tb env (r env >>= fun _ => .ok (.nx env))) D σ H) : tDrop (tR U (wTrk K cv i k W D) B r) D σ H :=
  trk_ev (kf := fun _ env => .ok (.nx env)) (fun x env c z => by cases z) hx h fun G0 G1 H1 G env v x I0 I g k q => q σ G1 H1 I g
theorem trk_asg {r : List Sl → Oc Rs} {K : PySem.W.Frag} {cv : Value} {i k j : Nat} {tb : List (Nat × Bool)} {D : Ends} {σ : L2.St} {H : Hp} (hx : ∀ c b, tb.lookup c = some b → PySem.W.exmOne K (.ref (U.exc c)) cv = some b)
    (h : tS U W B (fun env => trkR i k tb env (r env >>= fun x => asgR (.nm j) x env >>= fun env' => .ok (.nx env'))) D σ H) : tAsg (tR U (wTrk K cv i k W D) B r) (gName j) D σ H := by
  refine trk_ev (kf := fun x env => asgR (.nm j) x env >>= fun env' => .ok (.nx env')) (fun x env c z => ?_) hx h fun G0 G1 H1 G env v x I0 I g k q => ?_
  · have e : asgR (.nm j) x env = putR j x env := rfl
    rw [e] at z
    unfold putR at z
    split at z
    · cases x <;> cases z
    · cases z
  · show D.nx (σ.set j (some v)) H1
    have e : asgR (.nm j) x env = putR j x env := rfl
    rw [e] at q
    unfold putR at q
    split at q
    · cases x with
      | im t => exact q _ G1 H1 (I.set k) g
      | ow xs =>
        obtain ⟨p, vs, rfl, hp, hg, hh, rr⟩ := k
        exact q _ G1 H1 (I0.setO I hp hg hh rr) g
      | br xs => exact q.elim
    · exact q.elim
end
end PF

namespace PF
open PySem PySem.Spec PyProof.Rows L2 PySem.HandSPX
def notComp : Expr → Bool
  | .ListComp .. => false
  | .SetComp .. => false
  | .DictComp .. => false
  | _ => true
def notTup : Expr → Bool
  | .Tuple .. => false
  | _ => true
theorem swaps_no {e : Expr} (h : notComp e = true) (t : Option Expr) (l : Nat) (env : Env) : swapsWith e t l env = pure false := by
  cases e <;> first | rfl | cases h
def nameLoc (S : SE) (x : Str) : Bool := match S.sc.names.lookup x with
  | some .local => true | _ => false
def nameCell (S : SE) (x : Str) : Bool := match S.sc.names.lookup x with
  | some .cell => true | _ => false
/-- a, b = x, y is swapped -/
def parOk (S : SE) (x y : Str) (px py : Pos) (a b : Expr) : Bool :=
  nameLoc S x && nameLoc S y && (px.line == py.line) && !(x == y) && nostar a && nostar b && !([a, b].all (foldedForSure 8)) && !([a, b].all (constantsAlone 8))
def chkL2 (f : Stmt → Sm → Bool) : List Stmt → List Sm → Bool
  | sts, .fre _ :: ms => chkL2 f sts ms
  | st :: sts, m :: ms => f st m && chkL2 f sts ms
  | [], [] => true
  | _, _ => false
/-- what stands under try: one return, one expression, one name set -/
def chkB (P : PSt) (ne : Nat) (S : SE) (st : Stmt) : Sm → Bool
  | .ret e' => match st with
    | .Return (some e) _ => chkE P ne S e e'
    | _ => false
  | .expr e' => match st with
    | .Expr e _ => chkE P ne S e e' && notComp e
    | _ => false
  | .asg (.nm j) e' => match st with
    | .Assign [.Name y py] e _ => chkE P ne S e e' && chkTg S (.Name y py) (.nm j) && notComp e
    | _ => false
  | _ => false
def chkS (P : PSt) (ne : Nat) : Nat → SE → Stmt → Sm → Bool
  | 0, _, _, _ => false
  | n + 1, S, st, m => match m with
    | .asg tg' e' => match st with
      | .Assign [tg] e pos => match tg' with
        | .nm i => match tg with
          | .Name x px => chkE P ne S e e' && chkTg S tg tg' && (notComp e || nameCell S x || (match e with
            | .ListComp elt gs scope pe => nameLoc S x && (px.line == pe.line) && !(scope.names.any fun (n, k) => n == x && (k == .local || k == .cell))
            | _ => false))
          | _ => false
        | .tp _ => chkE P ne S e e' && chkTg S tg tg' && notTup e && notComp e
      | _ => false
    | .par i j a' b' => match st with
      | .Assign [.Tuple [.Name x px, .Name y py] _ _] (.Tuple [a, b] _ _) _ => decide (S.N[i]? = some x) && decide (S.N[j]? = some y) && parOk S x y px py a b && chkE P ne S a a' && chkE P ne S b b'
      | _ => false
    | .fre _ => false
    | .app i e' => match st with
      | .Expr (.Call (.Attribute (.Name x _) m apos) [e] [] cpos) _ => decide (m = "append") && okLoc S x i && nostar e && (apos.endLine == cpos.line) && chkE P ne S e e'
      | _ => false
    | .pop i e' => match st with
      | .Expr (.Call (.Attribute (.Name x _) m apos) [e] [] cpos) _ => decide (m = "pop") && okLoc S x i && nostar e && (apos.endLine == cpos.line) && chkE P ne S e e'
      | _ => false
    | .rvs i => match st with
      | .Expr (.Call (.Attribute (.Name x _) m apos) [] [] cpos) _ => decide (m = "reverse") && okLoc S x i && (apos.endLine == cpos.line)
      | _ => false
    | .clr i => match st with
      | .Expr (.Call (.Attribute (.Name x _) m apos) [] [] cpos) _ => decide (m = "clear") && okLoc S x i && (apos.endLine == cpos.line)
      | _ => false
    | .seti i k' e' => match st with
      | .Assign [.Subscript (.Name x _) k _] e _ => okLoc S x i && notSlice k && notComp e && chkE P ne S k k' && chkE P ne S e e'
      | _ => false
    | .swp i k1' k2' e' => match st with
      | .Assign [.Tuple [.Subscript (.Name x _) k1 _, .Subscript (.Name y _) k2 _] _ _] (.Tuple vs kk pv) _ => okLoc S x i && okLoc S y i && notSlice k1 && notSlice k2 && chkE P ne S k1 k1' && chkE P ne S k2 k2' && chkE P ne S (.Tuple vs kk pv) e'
      | _ => false
    | .ret e' => match st with
      | .Return (some e) _ => chkE P ne S e e'
      | _ => false
    | .retN => match st with
      | .Return none _ => true
      | _ => false
    | .iff c' a' b' => match st with
      | .If c a b _ => chkE P ne S c c' && chkL2 (chkS P ne n S) a a' && chkL2 (chkS P ne n S) b b'
      | _ => false
    | .for_ tg' it' b' => match st with
      | .For tg iter b [] _ => chkTg S tg tg' && chkIt P ne S iter it' && notSet iter && chkL2 (chkS P ne n S) b b'
      | _ => false
    | .whl c' b' => match st with
      | .While c b [] _ => chkE P ne S c c' && chkL2 (chkS P ne n S) b b'
      | _ => false
    | .rse c => match st with
      | .Raise (some (.Call (.Name x _) [.Constant (.str _) _ _] [] _)) none _ => okGl S x && decide (P.excN.lookup x = some c)
      | _ => false
    | .expr e' => match st with
      | .Expr e _ => chkE P ne S e e' && notComp e
      | _ => false
    | .brk => match st with
      | .Break _ => true
      | _ => false
    | .cnt => match st with
      | .Continue _ => true
      | _ => false
    | .pass => match st with
      | .Pass _ => true
      | _ => false
    | .trk b' i k tb => match st with
      | .Try [s1] [.ExceptHandler (some (.Name x _)) (some n) [.Assign [.Name kx _] (.Name n2 _) _] _] [] [] _ =>
        decide (S.N[i]? = some n) && nameLoc S n && decide (S.N[k]? = some kx) && nameLoc S kx && decide (n2 = n) && notDbg n && okGl S x && decide (P.isN.lookup x = some tb) && chkB P ne S s1 b'
      | _ => false
section
variable {P : PSt} {U : Uni} {C : Ctx} {k : Nat} {prog : Program} {w : World} {K : PySem.W.Frag} {mg : Str → Option Value} {base : Heap} {S : SE} {W : WX} {X : Cx} {B : Hp}
theorem nameLoc_ok (h : XOk k prog w K mg base S W X) {x : Str} (v : nameLoc S x = true) : X.env.scope.names.lookup x = some .local := by
  unfold nameLoc at v
  rw [← h.sc] at v
  split at v
  · assumption
  · cases v
theorem dbg_ok {a b : Str} (h : (!(a == b)) = true) : (a == b) = false := by simpa using h
theorem nIx_ok (h : XOk k prog w K mg base S W X) {i : Nat} {x : Str} (e : S.N[i]? = some x) : X.N[i]? = some x := by rw [h.N]; exact e
theorem bindTg_ex {t : Tg} {x : Tr} {env : List Sl} {c : Nat} : bindTg t x env ≠ .ex c := by
  cases t with
  | nm i =>
    show bindNm env i x ≠ .ex c
    unfold bindNm
    split <;> intro h <;> cases h
  | tp is =>
    cases x <;> (intro h; first | cases h | skip)
    have h : (if is.length = _ then bindTp is _ env else .no : Oc (List Sl)) = .ex c := h
    split at h
    · exact tAsg_tp.bindTp_ex h
    · cases h
theorem swapped_ok (h : XOk k prog w K mg base S W X) (hk : X.env.scope.kind = .function) {x y : Str} {px py pt : Pos} {a b : Expr} {kt k2 : Nat} {pt2 : Pos} (v : parOk S x y px py a b = true) :
    swappedStores [.Tuple [.Name x px, .Name y py] kt pt] (.Tuple [a, b] k2 pt2) X.env = pure (some [x, y]) := by
  unfold parOk at v
  simp only [Bool.and_eq_true] at v
  obtain ⟨⟨⟨⟨⟨⟨⟨v1, v2⟩, v3⟩, v4⟩, v5⟩, v6⟩, v7⟩, v8⟩ := v
  have l1 : X.env.kindOf x = some .local := nameLoc_ok h v1
  have l2 : X.env.kindOf y = some .local := nameLoc_ok h v2
  have hb : X.env.blockKind = .function := by unfold Env.blockKind; rw [hk]; rfl
  have e3 := eq_of_beq v3
  have hxy : (x == y) = false := by simpa using v4
  have hyx : (y == x) = false := by
    rw [beq_eq_false_iff_ne] at hxy ⊢
    exact fun z => hxy z.symm
  have v7' : [a, b].all (foldedForSure 8) = false := by rw [Bool.not_eq_eq_eq_not, Bool.not_true] at v7; exact v7
  have v8' : [a, b].all (constantsAlone 8) = false := by rw [Bool.not_eq_eq_eq_not, Bool.not_true] at v8; exact v8
  have l1' : (X.env.kindOf x == some NameKind.local) = true := by rw [l1]; rfl
  have l2' : (X.env.kindOf y == some NameKind.local) = true := by rw [l2]; rfl
  have e3' : (py.line == px.line) = true := by rw [e3]; exact beq_self_eq_true _
  have ed : ([x, y] : List Str).eraseDups = [x, y] := by
    rw [List.eraseDups_cons]
    simp [hyx, List.eraseDups_cons]
  unfold swappedStores
  simp only [List.length_cons, List.length_nil, hb, List.any_cons, List.any_nil, List.head?_cons, Option.map_some, Option.getD_some, Expr.pos, List.filterMap_cons, List.filterMap_nil, l1', l2', e3', beq_self_eq_true, Bool.and_self, if_true, ed, v7', v8']
  rw [if_neg (by decide), if_neg (fun hh => by
    rw [Bool.or_eq_true] at hh
    rcases hh with hh | hh
    · cases a <;> first | (cases v5; done) | (cases hh; done)
    · rw [Bool.or_false] at hh
      cases b <;> first | (cases v6; done) | (cases hh; done))]
  rfl

theorem swapped_subs {o1 i1 o2 i2 : Expr} {p1 p2 pt pv : Pos} {kt kk : Nat} {vs : List Expr} {env : Env} :
    swappedStores [.Tuple [.Subscript o1 i1 p1, .Subscript o2 i2 p2] kt pt] (.Tuple vs kk pv) env = pure none := by
  unfold swappedStores
  simp only [List.filterMap_cons, List.filterMap_nil, List.length_nil, List.length_cons]
  split
  · rfl
  · split <;> rfl
theorem assignEach_one {tg : Expr} {env : Env} (h : nostar tg = true) : (assignEach [tg] env).map (·.2) = [assign tg env] := by
  cases tg <;> first | rfl | cases h
/-- what a list of statements means, the rows that freeze in between -/
theorem block_ok {f : Stmt → Sm → Bool} (hf : ∀ st m, f st m = true → PS X st (tS U W B (exec C m))) : ∀ {ms : List Sm} {sts : List Stmt}, chkL2 f sts ms = true → PSs X sts (tS U W B (execs C ms))
  | [], [], _ => PSs.weak pss_nil fun D σ H h => tS_nx h
  | [], _ :: _, h => by cases h
  | .fre i :: ms, sts, h => by
    have h : chkL2 f sts ms = true := by
      cases sts <;> exact h
    exact PSs.weak (block_ok hf h) fun D σ H q => tS_fre (i := i) q
  | m :: ms, [], h => by
    cases m <;> first | cases h | skip
    rename_i i
    have h : chkL2 f [] ms = true := h
    exact PSs.weak (block_ok hf h) fun D σ H q => tS_fre (i := i) q
  | m :: ms, st :: sts, h => by
    have key : f st m = true ∧ chkL2 f sts ms = true → PSs X (st :: sts) (tS U W B (execs C (m :: ms))) := fun hh =>
      PSs.weak (pss_cons (hf st m hh.1) (block_ok hf hh.2)) fun D σ H q => tS_seq q
    cases m with
    | fre i =>
      have h : chkL2 f (st :: sts) ms = true := h
      exact PSs.weak (block_ok hf h) fun D σ H q => tS_fre (i := i) q
    | _ => exact key (by unfold chkL2 at h; rw [Bool.and_eq_true] at h; exact h)
theorem lc_ok (hw : Wd P U C k prog w K mg base) {n : Nat} {elt : Expr} {gs : List Comprehension} {scope : Scope} {pe : Pos} {x : Ex} (h : XOk k prog w K mg base S W X) (hc : chkE P n S (.ListComp elt gs scope pe) x = true) :
    ∃ (tg iter : Expr) (ifs : List Expr) (own : List (Str × Nat)) (wi : TI) (g : TG) (tt : TT) (te : TE), gs = [⟨tg, iter, ifs, 0⟩] ∧ PI X tg iter wi ∧ BlkOk X.N X.env.scope scope own ∧
      (∀ (s : Shared) (H : Hp) (C : Addr) (cl : List (Str × Addr)) (fp : List Addr), PG (X.blk s H scope (compEnvC scope cl C X.env) fp) tg g) ∧
      (∀ (s : Shared) (H : Hp) (C : Addr) (cl : List (Str × Addr)) (fp : List Addr), PTs (X.blk s H scope (compEnvC scope cl C X.env) fp) ifs tt) ∧
      (∀ (s : Shared) (H : Hp) (C : Addr) (cl : List (Str × Addr)) (fp : List Addr), PE (X.blk s H scope (compEnvC scope cl C X.env) fp) elt te) ∧
      (∀ x, foldedSetIterable iter X.env x = pure x) ∧ (∀ σ H Q, tR U W B (ev C x) σ H Q → tLc wi g tt te (own.map (·.2)) σ H Q) := by
  cases n with
  | zero => cases hc
  | succ n =>
    obtain ⟨hE, hT, _⟩ := sound_E hw n
    cases x <;> first | cases hc | skip
    rename_i tg' it' cs' e' own
    unfold chkE at hc
    dsimp only at hc
    split at hc
    · rename_i elt tg iter ifs scope pos e
      cases e
      simp only [Bool.and_eq_true] at hc
      obtain ⟨⟨⟨⟨⟨⟨⟨h1, h2⟩, h3⟩, h4⟩, h5⟩, h6⟩, h7⟩, h8⟩ := hc
      have hi : chkIt P n S iter it' = true := by cases it' <;> exact h4
      have own_eq : (own.map fun i => (S.N.getD i (Str.ofString ""), i)).map (·.2) = own := by
        rw [List.map_map]
        exact List.map_id' own
      refine ⟨tg, iter, ifs, own.map fun i => (S.N.getD i (Str.ofString ""), i), _, _, _, _, rfl, iter_ok (B := B) hw hE h hi, blkOk_by (by rw [h.N, h.sc]; exact h8),
        fun s H Ca cl fp => chkTg_ok (B := B) hw (h.blk s H scope cl Ca fp) h1, fun s H Ca cl fp => ifs_ok (B := B) hT (h.blk s H scope cl Ca fp) (of_decide_eq_true h5) h6, fun s H Ca cl fp => hE _ _ _ B _ e' (h.blk s H scope cl Ca fp) h7, notSet_fold h3 _, fun σ H Q hq => ?_⟩
      rw [own_eq]
      refine lc_run (fun i hi => ?_) hq
      have h2 := List.all_eq_true.mp h2 i hi
      exact of_decide_eq_true h2
    · cases hc
abbrev ClS (P : PSt) (U : Uni) (C : Ctx) (k : Nat) (prog : Program) (w : World) (K : PySem.W.Frag) (mg : Str → Option Value) (base : Heap) (ne n : Nat) : Prop :=
  ∀ (S : SE) (X : Cx) (W : WX) (B : Hp) (st : Stmt) (m : Sm), XOk k prog w K mg base S W X → S.sc.kind = .function → PassesOwn (model X.prog X.w) X.A X.env X.xe → X.stack = X.env :: X.outer ∧ X.env.frame = some X.env.locals → chkS P ne n S st m = true → PS X st (tS U W B (exec C m))
theorem sound_S (hw : Wd P U C k prog w K mg base) (ne : Nat) : ∀ n, ClS P U C k prog w K mg base ne n := by
  intro n
  obtain ⟨hE, hT, _⟩ := sound_E hw ne
  induction n with
  | zero => intro S X W B st m h hk hp hs hc; cases hc
  | succ n ih =>
    intro S X W B st m h hk hp hs hc
    have hK : X.K = U.K := h.at_.K.trans hw.KU
    have hN : X.N.Nodup := by rw [h.N]; exact h.nd
    have blk : ∀ {sts : List Stmt} {ms : List Sm}, chkL2 (chkS P ne n S) sts ms = true → PSs X sts (tS U W B (execs C ms)) := fun {sts ms} hh => block_ok (fun st m q => ih S X W B st m h hk hp hs q) hh
    have kind : X.env.scope.kind = .function := by rw [h.sc]; exact hk
    cases m with
    | fre i => cases hc
    | trk b' i k' tb =>
      unfold chkS at hc
      dsimp only at hc
      split at hc
      · simp only [Bool.and_eq_true, decide_eq_true_eq] at hc
        obtain ⟨⟨⟨⟨⟨⟨⟨⟨h1, h2⟩, h3⟩, h4⟩, rfl⟩, h5⟩, h6⟩, h7⟩, h8⟩ := hc
        obtain ⟨g1, g2⟩ := okGl_ok h h6
        obtain ⟨v, cv, c1, c2, c3, c4, c5⟩ := (hw.isx _ _ h7).ex
        have hx : ∀ c b, tb.lookup c = some b → PySem.W.exmOne X.K (.ref (U.exc c)) cv = some b := fun c b e => by rw [h.at_.K]; exact (c5 c b e).2.2
        have nm : Names X _ cv := ⟨g1, g2, by rw [h.at_.mg]; exact c3⟩
        have h5' := h5
        unfold notDbg at h5'
        rw [Bool.and_eq_true] at h5'
        have xo : ∀ {W' : WX} {pn : List (Addr × Obj)} {xe : Value → Shared → Prop}, Takes (X.tr pn xe) W' → XOk k prog w K mg base S W' (X.tr pn xe) := fun {W' pn xe} tk => ⟨⟨h.at_.prog, h.at_.w, h.at_.K, h.at_.mg, h.at_.base⟩, tk, h.room, h.calm, h.sc, h.N, h.nd, h.fn⟩
        have q1 := nIx_ok h h1
        have q3 := nIx_ok h h3
        have d1 := dbg_ok h5'.1
        have d2 := dbg_ok h5'.2
        cases b' with
        | ret e' =>
          unfold chkB at h8
          dsimp only at h8
          split at h8
          · exact PS.weak (ps_trk (tb := fun W' => tRet (tR U W' B (ev C e'))) hs.1 hs.2 hN q1 (nameLoc_ok h h2) q3 (nameLoc_ok h h4) d1 d2 nm h.tk fun W' pn xe tk _ => pss_one (ps_ret (hE S _ W' B _ e' (xo tk) h8))) fun D σ H q => trk_ret hx q
          · cases h8
        | expr e' =>
          unfold chkB at h8
          dsimp only at h8
          split at h8
          · rw [Bool.and_eq_true] at h8
            exact PS.weak (ps_trk (tb := fun W' => tDrop (tR U W' B (ev C e'))) hs.1 hs.2 hN q1 (nameLoc_ok h h2) q3 (nameLoc_ok h h4) d1 d2 nm h.tk fun W' pn xe tk _ => pss_one (ps_expr (hE S _ W' B _ e' (xo tk) h8.1) (swaps_no h8.2 _ _ _))) fun D σ H q => trk_expr hx q
          · cases h8
        | asg tg' e' =>
          cases tg' with
          | tp is => cases h8
          | nm j =>
            unfold chkB at h8
            dsimp only at h8
            split at h8
            · rw [Bool.and_eq_true, Bool.and_eq_true] at h8
              have h2' := h8.1.2
              unfold chkTg at h2'
              simp only [Bool.and_eq_true, decide_eq_true_eq] at h2'
              obtain ⟨t1, t2⟩ := locB_ok h h2'.2
              exact PS.weak (ps_trk (tb := fun W' => tAsg (tR U W' B (ev C e')) (gName j)) hs.1 hs.2 hN q1 (nameLoc_ok h h2) q3 (nameLoc_ok h h4) d1 d2 nm h.tk fun W' pn xe tk _ => pss_one (ps_set hN (by rw [h.N]; exact h2'.1) t1 (hE S _ W' B _ e' (xo tk) h8.1.1) (swaps_no h8.2 _ _ _) t2)) fun D σ H q => trk_asg hx q
            · cases h8
        | _ => cases h8
      · cases hc
    | brk =>
      unfold chkS at hc
      dsimp only at hc
      split at hc
      · exact PS.weak ps_break fun D σ H ⟨G0, G, env, I, g, q⟩ => q σ G H I g
      · cases hc
    | cnt =>
      unfold chkS at hc
      dsimp only at hc
      split at hc
      · exact PS.weak ps_continue fun D σ H ⟨G0, G, env, I, g, q⟩ => q σ G H I g
      · cases hc
    | pass =>
      unfold chkS at hc
      dsimp only at hc
      split at hc
      · exact PS.weak ps_pass fun D σ H ⟨G0, G, env, I, g, q⟩ => q σ G H I g
      · cases hc
    | retN =>
      unfold chkS at hc
      dsimp only at hc
      split at hc
      · exact PS.weak ps_retN fun D σ H ⟨G0, G, env, I, g, q⟩ => q _ G H g Rep.non
      · cases hc
    | ret e' =>
      unfold chkS at hc
      dsimp only at hc
      split at hc
      · exact PS.weak (ps_ret (hE S X W B _ e' h hc)) fun D σ H q => tS_ret q
      · cases hc
    | expr e' =>
      unfold chkS at hc
      dsimp only at hc
      split at hc
      · rw [Bool.and_eq_true] at hc
        exact PS.weak (ps_expr (hE S X W B _ e' h hc.1) (swaps_no hc.2 _ _ _)) fun D σ H q => tS_ev (k := fun _ env => .ok (.nx env)) q fun G0 G1 H1 G env v x I0 I g k q => q σ G1 H1 I g
      · cases hc
    | iff c' a' b' =>
      unfold chkS at hc
      dsimp only at hc
      split at hc
      · rw [Bool.and_eq_true, Bool.and_eq_true] at hc
        exact PS.weak (ps_if (hT S X W B _ c' h hc.1.1) (blk hc.1.2) (blk hc.2)) fun D σ H q => tS_if q
      · cases hc
    | whl c' b' =>
      unfold chkS at hc
      dsimp only at hc
      split at hc
      · rw [Bool.and_eq_true] at hc
        exact PS.weak (ps_while hp (hT S X W B _ c' h hc.1) (blk hc.2)) fun D σ H q => tS_while q
      · cases hc
    | for_ tg' it' b' =>
      unfold chkS at hc
      dsimp only at hc
      split at hc
      · simp only [Bool.and_eq_true] at hc
        obtain ⟨⟨⟨h1, h2⟩, h3⟩, h4⟩ := hc
        exact PS.weak (ps_for hp h.calm (iter_ok (B := B) hw hE h h2) (chkTg_ok (B := B) hw h h1) (blk h4) (notSet_fold h3 _)) fun D σ H q => tS_for (fun _ _ _ => bindTg_ex) q
      · cases hc
    | rse c =>
      unfold chkS at hc
      dsimp only at hc
      split at hc
      · simp only [Bool.and_eq_true, decide_eq_true_eq] at hc
        obtain ⟨g1, g2⟩ := okGl_ok h hc.1
        obtain ⟨e1, e2, e3, e4, e5⟩ := hw.excs _ _ hc.2
        rw [← h.at_.K] at e2 e3 e4 e5
        rw [← h.at_.mg] at e1
        exact PS.weak (ps_raise h.calm h.tk (pmk_own PySem.F.excBase_ValueError e2 e1 e3 (raises_own e4 e5) g1 g2)) fun D σ H ⟨G0, G, env, I, g, q⟩ => q σ G H g
      · cases hc
    | par i j a' b' =>
      unfold chkS at hc
      dsimp only at hc
      split at hc
      · simp only [Bool.and_eq_true, decide_eq_true_eq] at hc
        obtain ⟨⟨⟨⟨h1, h2⟩, h3⟩, h4⟩, h5⟩ := hc
        have h3' := h3
        unfold parOk at h3'
        simp only [Bool.and_eq_true] at h3'
        obtain ⟨⟨⟨⟨⟨⟨⟨v1, v2⟩, v3⟩, v4⟩, v5⟩, v6⟩, v7⟩, v8⟩ := h3'
        have hij : i ≠ j := fun z => by
          subst z
          rw [h1] at h2
          cases h2
          simp at v4
        have ha := args_ok (B := B) (n := ne) hE h (es := [_, _]) (xs := [a', b']) (by rw [List.all_cons, v5, List.all_cons, v6]; rfl) (by unfold all2; rw [h4]; unfold all2; rw [h5]; rfl)
        exact PS.weak (ps_par h.calm hN (by rw [h.N]; exact h1) (by rw [h.N]; exact h2) hij (nameLoc_ok h v1) (nameLoc_ok h v2) ha (swapped_ok h kind h3) (by rfl)) fun D σ H q => tS_par q
      · cases hc
    | app i e' =>
      unfold chkS at hc
      dsimp only at hc
      split at hc
      · simp only [Bool.and_eq_true, decide_eq_true_eq] at hc
        obtain ⟨⟨⟨⟨rfl, h1⟩, h2⟩, h3⟩, h4⟩ := hc
        obtain ⟨l1, l2, l3, l4⟩ := okLoc_ok h h1
        exact PS.weak (ps_expr (pe_bm PySem.F.plainAttrs_list PySem.F.slot_list_append PySem.F.type_list_append mt_append (pe_var l1 l2 l3 l4) (pa_cons (hE S X W B _ e' h h4) pa_nil (star_cons h2)) rfl (by rw [star_cons h2]; rfl) h3 (star_cons h2) rfl) rfl) fun D σ H q => tS_app q
      · cases hc
    | pop i e' =>
      unfold chkS at hc
      dsimp only at hc
      split at hc
      · simp only [Bool.and_eq_true, decide_eq_true_eq] at hc
        obtain ⟨⟨⟨⟨rfl, h1⟩, h2⟩, h3⟩, h4⟩ := hc
        obtain ⟨l1, l2, l3, l4⟩ := okLoc_ok h h1
        exact PS.weak (ps_expr (pe_bm PySem.F.plainAttrs_list PySem.F.slot_list_pop PySem.F.type_list_pop mt_popAt (pe_var l1 l2 l3 l4) (pa_cons (hE S X W B _ e' h h4) pa_nil (star_cons h2)) rfl (by rw [star_cons h2]; rfl) h3 (star_cons h2) rfl) rfl) fun D σ H q => tS_pop q
      · cases hc
    | rvs i =>
      unfold chkS at hc
      dsimp only at hc
      split at hc
      · simp only [Bool.and_eq_true, decide_eq_true_eq] at hc
        obtain ⟨⟨rfl, h1⟩, h3⟩ := hc
        obtain ⟨l1, l2, l3, l4⟩ := okLoc_ok h h1
        exact PS.weak (ps_expr (pe_bm0 PySem.F.plainAttrs_list PySem.F.slot_list_reverse PySem.F.type_list_reverse mt_reverse (pe_var l1 l2 l3 l4) rfl h3) rfl) fun D σ H q => tS_rvs q
      · cases hc
    | clr i =>
      unfold chkS at hc
      dsimp only at hc
      split at hc
      · simp only [Bool.and_eq_true, decide_eq_true_eq] at hc
        obtain ⟨⟨rfl, h1⟩, h3⟩ := hc
        obtain ⟨l1, l2, l3, l4⟩ := okLoc_ok h h1
        exact PS.weak (ps_expr (pe_bm0 PySem.F.plainAttrs_list PySem.F.slot_list_clear PySem.F.type_list_clear mt_clear (pe_var l1 l2 l3 l4) rfl h3) rfl) fun D σ H q => tS_clr q
      · cases hc
    | seti i k' e' =>
      unfold chkS at hc
      dsimp only at hc
      split at hc
      · simp only [Bool.and_eq_true] at hc
        obtain ⟨⟨⟨⟨h1, h2⟩, h3⟩, h4⟩, h5⟩ := hc
        obtain ⟨l1, l2, l3, l4⟩ := okLoc_ok h h1
        rename_i x px kx pk ex pos
        have ha : ∀ v, assign (.Subscript (.Name x px) kx pk) X.env v = (do
            let ov ← holding [v] (eval (.Name x px) X.env)
            let iv ← holding [v, ov] (eval kx X.env)
            standAt pk
            holding [v, ov, iv] (setItem ov iv v)
            release [v, ov, iv] []) := fun v => by
          cases kx <;> first | rfl | cases h2
        have hsw0 : swapsWith ex (some (.Subscript (.Name x px) kx pk)) pos.line X.env = pure false := swaps_no h3 _ _ _
        have hsw : swapsWithSole [.Subscript (.Name x px) kx pk] ex pos.line X.env = pure false := by
          unfold swapsWithSole
          exact hsw0
        have hst : swappedStores [.Subscript (.Name x px) kx pk] ex X.env = pure none := by cases ex <;> rfl
        exact PS.weak (ps_asg (hE S X W B _ e' h h5) (pg_sub (pe_var l1 l2 l3 l4) (hE S X W B _ k' h h4) set_list ha) hsw hst rfl) fun D σ H q => tS_seti q
      · cases hc
    | swp i k1' k2' e' =>
      unfold chkS at hc
      dsimp only at hc
      split at hc
      · simp only [Bool.and_eq_true] at hc
        obtain ⟨⟨⟨⟨⟨⟨h1, h2⟩, h3⟩, h4⟩, h5⟩, h6⟩, h7⟩ := hc
        obtain ⟨l1, l2, l3, l4⟩ := okLoc_ok h h1
        obtain ⟨m1, m2, m3, m4⟩ := okLoc_ok h h2
        rename_i x px ka pa y py kb pb kt pt vs kk pv pos
        have ha : ∀ {x px kx pk}, notSlice kx = true → ∀ v, assign (.Subscript (.Name x px) kx pk) X.env v = (do
            let ov ← holding [v] (eval (.Name x px) X.env)
            let iv ← holding [v, ov] (eval kx X.env)
            standAt pk
            holding [v, ov, iv] (setItem ov iv v)
            release [v, ov, iv] []) := fun {x px kx pk} hk v => by
          cases kx <;> first | rfl | cases hk
        have hst : swappedStores [.Tuple [.Subscript (.Name x px) ka pa, .Subscript (.Name y py) kb pb] kt pt] (.Tuple vs kk pv) X.env = pure none := swapped_subs
        exact PS.weak (ps_asg (hE S X W B _ e' h h7) (pg_tup h.calm (pgs_cons (pg_sub (pe_var l1 l2 l3 l4) (hE S X W B _ k1' h h5) set_list (ha h3)) (pgs_cons (pg_sub (pe_var m1 m2 m3 m4) (hE S X W B _ k2' h h6) set_list (ha h4)) pgs_nil))) (by rfl) hst rfl) fun D σ H q => by
          rw [h.at_.K.trans hw.KU]
          exact tS_swp q
      · cases hc
    | asg tg' e' =>
      unfold chkS at hc
      dsimp only at hc
      split at hc
      · rename_i tg ex pos
        cases tg' with
        | nm i =>
          dsimp only at hc
          split at hc
          · rename_i x px
            simp only [Bool.and_eq_true] at hc
            obtain ⟨⟨h1, h2⟩, h3⟩ := hc
            have h2' := h2
            unfold chkTg at h2'
            simp only [Bool.and_eq_true, decide_eq_true_eq] at h2'
            obtain ⟨t1, t2⟩ := locB_ok h h2'.2
            have hNi : X.N[i]? = some x := by rw [h.N]; exact h2'.1
            have he := hE S X W B ex e' h h1
            have plain : swapsWith ex (some (.Name x px)) pos.line X.env = pure false → PS X (.Assign [.Name x px] ex pos) (tS U W B (exec C (.asg (.nm i) e'))) := fun hs =>
              PS.weak (ps_set hN hNi t1 he hs t2) fun D σ H q => tAsg_nm (te := tR U W B (ev C e')) (fun Q q => q) q
            rw [Bool.or_eq_true, Bool.or_eq_true] at h3
            rcases h3 with (h3 | h3) | h3
            · exact plain (swaps_no h3 _ _ _)
            · refine plain ?_
              have kc : X.env.kindOf x = some .cell := by
                unfold nameCell at h3
                rw [← h.sc] at h3
                split at h3
                · assumption
                · cases h3
              cases ex <;> first | rfl | (unfold swapsWith; simp only [kc]; simp; rw [show (NameKind.cell == NameKind.local) = false from rfl, Bool.and_false, Bool.false_and, Bool.false_and])
            · split at h3
              · rename_i elt gs scope pe
                simp only [Bool.and_eq_true] at h3
                obtain ⟨⟨h4, h5⟩, h6⟩ := h3
                have hl := nameLoc_ok h h4
                obtain ⟨tg, iter, ifs, own, wi, g, tt, te, rfl, q1, q2, q3, q4, q5, q6, q7⟩ := lc_ok hw (B := B) h h1
                have h6 : (scope.names.any fun (n, k) => n == x && (k == .local || k == .cell)) = false := by simpa using h6
                exact PS.weak (ps_setLc h.calm hN hNi hl (sw_true kind hl h5 h6) q1 q2 q3 q4 q5 q6) fun D σ H q => tAsg_nm (fun Q q => q7 _ _ _ q) q
              · cases h3
          · cases hc
        | tp is =>
          simp only [Bool.and_eq_true] at hc
          obtain ⟨⟨⟨h1, h2⟩, h3⟩, h4⟩ := hc
          have hstar : nostar tg = true := by
            cases tg <;> first | rfl | cases h2
          have hst : swappedStores [tg] ex X.env = pure none := by cases tg <;> cases ex <;> first | rfl | cases h3 | cases h2
          have hsw : swapsWithSole [tg] ex pos.line X.env = pure false := by
            show swapsWith ex (some _) _ _ = pure false
            exact swaps_no h4 _ _ _
          exact PS.weak (ps_asg (hE S X W B _ e' h h1) (chkTg_ok (B := B) hw h h2) hsw hst (assignEach_one hstar)) fun D σ H q => tAsg_tp q
      · cases hc
end
end PF

namespace PF
open PySem PySem.Spec PyProof.Rows L2 PySem.HandSPX
/-! ### defs -/
theorem out_br (r : Rs) : r.out.isBr = false := by cases r <;> rfl
theorem nobr (Q : Pg) (k : Nat) : NoBr (Q.ctx k) := by
  intro f ts r h
  have h : callK Q k f ts = .ok r := h
  cases k with
  | zero => cases h
  | succ k =>
    unfold callK at h
    split at h
    · rename_i fn _
      unfold runFn at h
      split at h
      · cases e : execs ⟨callK Q k, Q.gl, Q.wf⟩ fn.body (ts.map Sl.im ++ List.replicate (fn.ns - fn.np) Sl.un) with
        | no => rw [e] at h; cases h
        | ex c => rw [e] at h; cases h
        | ok fl =>
          rw [e, Oc.ok_bind] at h
          cases fl with
          | rt r' => cases h; exact out_br _
          | nx _ => cases h; rfl
          | bk _ => cases h
          | ct _ => cases h
      · cases h
    · rename_i d g _
      split at h
      · cases e : g ts with
        | no => rw [e] at h; cases h
        | ex c => rw [e] at h; cases h
        | ok r' => rw [e] at h; cases h; exact out_br _
      · cases h
    · cases h
theorem RsOk.outB {U : Uni} {B G' H' : Hp} {v : V} {r : Rs} (h : RsOk U B G' H' B v r) : RsOk U B G' H' B v r.out := by
  cases r with
  | im t => exact h
  | ow xs => exact h
  | br xs => exact h
def scopeC (N ps : List Str) (sc : Scope) : Bool :=
  (match sc.kind with | .function => true | _ => false) && !sc.isCoroutine && !sc.isGenerator && decide N.Nodup && decide (N.take ps.length = ps) &&
  ps.all (fun x => match sc.names.lookup x with | some .local => true | some .cell => true | _ => false) && sc.names.all (fun y => match y.2 with | .free => false | _ => true)
theorem scopeC_ok {N ps : List Str} {sc : Scope} (h : scopeC N ps sc = true) : FnScope N ps sc := by
  unfold scopeC at h
  simp only [Bool.and_eq_true, decide_eq_true_eq] at h
  obtain ⟨⟨⟨⟨⟨⟨h1, h2⟩, h3⟩, h4⟩, h5⟩, h6⟩, h7⟩ := h
  refine ⟨?_, by simpa using h2, by simpa using h3, h4, h5, fun x hx => ?_, fun y hy e => ?_⟩
  · split at h1
    · assumption
    · cases h1
  · have q := List.all_eq_true.mp h6 x hx
    split at q
    · exact .inl (by assumption)
    · exact .inr (by assumption)
    · cases q
  · have q := List.all_eq_true.mp h7 y hy
    rw [e] at q
    cases q
def fnChk (P : PSt) (st : Stmt) (N ps : List Str) (f : Fn) : Bool := decide (f.np = ps.length) && decide (f.ns = N.length) && scopeC N ps (defScope st) && chkL2 (chkS P 60 30 ⟨N, defScope st, fun _ => true⟩) (defBody st) f.body
section
variable {P : PSt} {Q : Pg} {U : Uni} {k : Nat} {prog : Program} {w : World} {K : PySem.W.Frag} {mg : Str → Option Value} {base : Heap}
theorem fn_level0 {fa : Addr} {fd : FuncData} {ps : List Str} {i : Nat} : FnOk prog w K mg base (L2.CX prog w) 0 fa fd ps (CallP U (Q.ctx 0) i) where
  len := fun vs H R E ⟨_, _, _, _, h⟩ => h.elim
  run := fun _ _ _ _ _ _ _ _ _ _ _ _ _ ⟨_, _, _, _, h⟩ => h.elim
theorem env_start {G H : Hp} {vs : List V} {ts : List Tr} {N : List Str} {np ns : Nat} (s : Same G H) (r : RepL U G vs ts) (h1 : ts.length = np) (h2 : ns = N.length) (h3 : np ≤ ns) : EnvOk U H G H (ts.map Sl.im ++ List.replicate (ns - np) Sl.un) (L2.start N vs) := by
  have hl := r.length
  refine ⟨s, fun a h => h, ?_, fun i sl h => ?_, fun i j xs ys p h => ?_⟩
  · unfold L2.start
    rw [List.length_append, List.length_append, List.length_map, List.length_map, List.length_replicate, List.length_replicate]
    omega
  · by_cases hi : i < ts.length
    · rw [List.getElem?_append_left (by rw [List.length_map]; exact hi), List.getElem?_map, Option.map_eq_some_iff] at h
      obtain ⟨t, h4, rfl⟩ := h
      obtain ⟨v, h5, h6⟩ := r.get h4
      refine ⟨v, ?_, h6⟩
      unfold L2.start
      rw [List.getElem?_append_left (by rw [List.length_map]; omega), List.getElem?_map, h5]
      rfl
    · rw [List.getElem?_append_right (by rw [List.length_map]; omega), List.getElem?_replicate] at h
      split at h
      · cases h; trivial
      · cases h
  · exfalso
    by_cases hi : i < ts.length
    · rw [List.getElem?_append_left (by rw [List.length_map]; exact hi), List.getElem?_map, Option.map_eq_some_iff] at h
      obtain ⟨t, _, h5⟩ := h
      cases h5
    · rw [List.getElem?_append_right (by rw [List.length_map]; omega), List.getElem?_replicate] at h
      split at h <;> cases h
theorem fn_level {name qual : Str} {st : Stmt} {fa : Addr} {fd : FuncData} {N ps : List Str} {i : Nat} {f : Fn} (hw : Wd P U (Q.ctx k) k prog w K mg base) (F : Fun K name qual st fa fd) (hf : Q.defs i = some (.fn f)) (hc : fnChk P st N ps f = true) (hnp : f.np ≤ f.ns) :
    FnOk prog w K mg base (L2.CX prog w) (k + 1) fa fd ps (CallP U (Q.ctx (k + 1)) i) := by
  unfold fnChk at hc
  simp only [Bool.and_eq_true, decide_eq_true_eq] at hc
  obtain ⟨⟨⟨h1, h2⟩, h3⟩, h4⟩ := hc
  have S := scopeC_ok h3
  have ec : ∀ ts, (Q.ctx (k + 1)).call i ts = runFn (Q.ctx k) f ts := fun ts => by
    show callK Q (k + 1) i ts = _
    unfold callK
    rw [hf]
    rfl
  refine F.okX S (fun vs H R E h => ?_) (fun cdv A outer s H vs R E hr h => ?_)
  · obtain ⟨G, ts, _, r, h⟩ := h
    rw [ec] at h
    unfold runFn at h
    by_cases hl : ts.length = f.np
    · rw [r.length, hl, h1]
    · rw [if_neg hl] at h
      exact h.elim
  · obtain ⟨G, ts, sm, r, h⟩ := h
    rw [ec] at h
    unfold runFn at h
    by_cases hl : ts.length = f.np
    · rw [if_pos hl] at h
      have xo : XOk k prog w K mg base ⟨N, defScope st, fun _ => true⟩ (fun cls d _ H => E cls d H) (cxOf (L2.CX prog w) prog w K mg base N qual (defScope st) fa cdv A outer s H E) :=
        ⟨⟨rfl, rfl, rfl, rfl, rfl⟩, takes_of rfl rfl rfl rfl, hr, rfl, rfl, rfl, S.nd, fun _ => rfl⟩
      refine ⟨_, block_ok (U := U) (C := Q.ctx k) (W := fun cls d _ H => E cls d H) (B := H) (fun st' m q => sound_S hw 60 30 _ _ _ H st' m xo S.kind (passes_of rfl) ⟨rfl, rfl⟩ q) h4, ?_⟩
      refine ⟨G, G, ts.map Sl.im ++ List.replicate (f.ns - f.np) Sl.un, env_start sm r hl h2 hnp, Grow.refl sm, ?_⟩
      unfold PostS
      cases e : execs (Q.ctx k) f.body (ts.map Sl.im ++ List.replicate (f.ns - f.np) Sl.un) with
      | no => rw [e] at h; exact h
      | ex c => rw [e] at h; exact fun σ' G' H' g => h G' H' g
      | ok fl =>
        rw [e, Oc.ok_bind] at h
        cases fl with
        | nx env' => exact fun σ' G' H' I' g => h.2 .non G' H' g Rep.non
        | bk _ => exact h.elim
        | ct _ => exact h.elim
        | rt r' => exact fun v G' H' g q => h.2 v G' H' g q.outB
    · rw [if_neg hl] at h
      exact h.elim
theorem callable_fn {name qual : Str} {st : Stmt} {fa : Addr} {fd : FuncData} {ps : List Str} {i : Nat} (F : Fun K name qual st fa fd) (b : Binds K fd ps []) (L : FnOk prog w K mg base (L2.CX prog w) k fa fd ps (CallP U (Q.ctx k) i))
    {X : Cx} {W : WX} (h : At prog w K mg base X) (tk : Takes X W) (hr : Room k X.A) : Callable U (Q.ctx k) W X i (.ref fa) := by
  obtain ⟨e1, e2, e3, e4, e5⟩ := h
  subst e1 e2 e3 e4 e5
  exact ⟨F.kp, fun pins s σ H us vs R I r h => run_fnS (E := WE W) L hr b (passAt tk σ) I r h⟩
/-- what a name of the text is -/
structure FnFact (P : PSt) (Q : Pg) (K : PySem.W.Frag) (i : Nat) (fa : Addr) (fd : FuncData) : Prop where
  ex : ∃ (name qual : Str) (st : Stmt) (N ps : List Str) (f : Fn), Q.defs i = some (.fn f) ∧ Fun K name qual st fa fd ∧ Binds K fd ps [] ∧ fnChk P st N ps f = true ∧ f.np ≤ f.ns
structure Wh (P : PSt) (Q : Pg) (U : Uni) (prog : Program) (w : World) (K : PySem.W.Frag) (mg : Str → Option Value) (base : Heap) : Prop where
  KU : K = U.K
  calls : ∀ x i, P.fnN.lookup x = some i → (∃ fa fd, mg x = some (.ref fa) ∧ FnFact P Q K i fa fd) ∨
    (∃ u, mg x = some u ∧ ∀ k X W, At prog w K mg base X → Takes X W → Room k X.A → X.calm = true → Callable U (Q.ctx k) W X i u)
  meths : ∀ m i c, P.mtN.lookup m = some (i, c) → ∃ fa fd, FnFact P Q K i fa fd ∧ Cls K (U.cls c) ∧ Meth K (U.cls c) m fa ∧ m ∉ U.flds c
  flds : ∀ m c j, P.fldN.lookup m = some (c, j) → Cls K (U.cls c) ∧ NoAttr K (U.cls c) m ∧ (U.flds c)[j]? = some m ∧ (U.flds c).Nodup
  gls : ∀ x g, P.glN.lookup x = some g → ∃ u v, mg x = some u ∧ RelV v u ∧ ∀ G, Rep U G v (Q.gl g)
  blt : ∀ x, x ∈ P.blN → mg x = none
  dct : ∀ X, At prog w K mg base X → DctOk U X
  excs : ∀ x c, P.excN.lookup x = some c → mg x = some (.ref (U.exc c)) ∧ PySem.W.excIn K (U.exc c) veTail "ValueError.__new__" = true ∧ PySem.W.keepIn K (.ref (U.exc c)) = true ∧
    PySem.W.subIn K (.ref (U.exc c)) (.type "BaseException") = some true ∧ PySem.W.typeIn K (.ref (U.exc c)) = some (.type "type")
  isx : ∀ x tb, P.isN.lookup x = some tb → ClsFx K U.exc mg x tb
theorem all_levels (hw : Wh P Q U prog w K mg base) : ∀ k, Wd P U (Q.ctx k) k prog w K mg base ∧ ∀ i fa fd, FnFact P Q K i fa fd → ∃ ps, Binds K fd ps [] ∧ FnOk prog w K mg base (L2.CX prog w) k fa fd ps (CallP U (Q.ctx k) i) := by
  have mk : ∀ k, (∀ i fa fd, FnFact P Q K i fa fd → ∃ ps, Binds K fd ps [] ∧ FnOk prog w K mg base (L2.CX prog w) k fa fd ps (CallP U (Q.ctx k) i)) → Wd P U (Q.ctx k) k prog w K mg base := fun k L => by
    refine ⟨hw.KU, nobr Q k, fun x i h => ?_, fun m i c h => ?_, fun m c j h X a => ?_, hw.gls, hw.blt, hw.dct, hw.excs, hw.isx⟩
    · rcases hw.calls x i h with ⟨fa, fd, h1, h2⟩ | ⟨u, h1, h2⟩
      · obtain ⟨ps, b, L⟩ := L i fa fd h2
        obtain ⟨name, qual, st, N, ps', f, _, F, _⟩ := h2.ex
        exact ⟨.ref fa, h1, fun X W a tk hr _ => callable_fn F b L a tk hr⟩
      · exact ⟨u, h1, fun X W a tk hr hc => h2 k X W a tk hr hc⟩
    · obtain ⟨fa, fd, h1, h2, h3, h4⟩ := hw.meths m i c h
      obtain ⟨ps, b, L⟩ := L i fa fd h1
      obtain ⟨name, qual, st, N, ps', f, _, F, _⟩ := h1.ex
      exact ⟨fa, fun X W a tk hr _ => ⟨⟨by rw [a.K]; exact h2, by rw [a.K]; exact h3, h4⟩, callable_fn F b L a tk hr⟩⟩
    · obtain ⟨h1, h2, h3, h4⟩ := hw.flds m c j h
      exact ⟨by rw [a.K]; exact h1, by rw [a.K]; exact h2, h3, h4⟩
  intro k
  induction k with
  | zero =>
    have L : ∀ i fa fd, FnFact P Q K i fa fd → ∃ ps, Binds K fd ps [] ∧ FnOk prog w K mg base (L2.CX prog w) 0 fa fd ps (CallP U (Q.ctx 0) i) := fun i fa fd h => by
      obtain ⟨name, qual, st, N, ps, f, _, F, b, _⟩ := h.ex
      exact ⟨ps, b, fn_level0⟩
    exact ⟨mk 0 L, L⟩
  | succ k ih =>
    have L : ∀ i fa fd, FnFact P Q K i fa fd → ∃ ps, Binds K fd ps [] ∧ FnOk prog w K mg base (L2.CX prog w) (k + 1) fa fd ps (CallP U (Q.ctx (k + 1)) i) := fun i fa fd h => by
      obtain ⟨name, qual, st, N, ps, f, h1, F, b, h2, h3⟩ := h.ex
      exact ⟨ps, b, fn_level ih.1 F h1 h2 h3⟩
    exact ⟨mk (k + 1) L, L⟩
/-! ### the law -/
/-- law's promise: a list of at most 63 ints, True -/
def spLaw (K : PySem.W.Frag) : Sp := fun vs H R _ => ∃ (a : Addr) (ns : List Int), vs = [.ref a] ∧ SqL K H a (ns.map V.int) ∧ ns.length ≤ 63 ∧ (∀ z ∈ ns, Builtin.Int.intBits z ≤ 1048576) ∧ ∀ H', R (.bl true) H'
theorem repL_ints {G : Hp} : ∀ ns : List Int, RepL U G (ns.map V.int) (ns.map Tr.int)
  | [] => .nil
  | n :: ns => .cons (.int n) (repL_ints ns)
theorem law_ok {k i : Nat} {fa : Addr} {fd : FuncData} {ps : List Str} (L : FnOk prog w K mg base (L2.CX prog w) k fa fd ps (CallP U (Q.ctx k) i))
    (hK : K = U.K) (h : ∀ ns : List Int, ns.length ≤ 63 → (∀ z ∈ ns, Builtin.Int.intBits z ≤ 1048576) → callK Q k i [.lst (ns.map Tr.int)] = .ok (.im (.bl true))) : FnOk prog w K mg base (L2.CX prog w) k fa fd ps (spLaw K) :=
  L.imp fun vs H R E ⟨a, ns, e, hr, hl, hb, q⟩ => by
    subst e
    refine ⟨H, [.lst (ns.map Tr.int)], Same.refl _, .cons (.lst (hK ▸ hr) (repL_ints ns)) .nil, ?_⟩
    rw [show (Q.ctx k).call i [.lst (ns.map Tr.int)] = callK Q k i [.lst (ns.map Tr.int)] from rfl, h ns hl hb]
    refine ⟨rfl, fun v G' H' g k => ?_⟩
    have k : Rep U G' v (.bl true) := k
    cases k
    exact q H'
end
end PF

namespace PF
open PySem PySem.Spec PyProof.Rows L2 PySem.HandSPX
/-! ### written dicts -/
theorem IntE.find {es : List DictEntry} {ks : List Int} {vs : List V} (h : IntE es ks vs) {i : Int} {v : V} (hl : (ks.zip vs).lookup i = some v) : ∃ u, (es.find? fun e => Value.isInt i e.key).map (·.val) = some u ∧ RelV v u := by
  induction h with
  | nil => simp at hl
  | @cons k t u v' es ks vs r _ ih =>
    rw [List.zip_cons_cons, List.lookup_cons] at hl
    rw [List.find?_cons]
    have e : Value.isInt i (.int k t) = (i == k) := by
      show Value.isInt i (.int k t) = (i == k)
      by_cases z : i = k
      · subst z; simp [Value.isInt]
      · have : ¬ k = i := fun q => z q.symm
        simp only [Value.isInt]
        rw [beq_eq_false_iff_ne.mpr this, beq_eq_false_iff_ne.mpr z]
    show ∃ u', ((match Value.isInt i (.int k t) with | true => some _ | false => _) : Option DictEntry).map (·.val) = some u' ∧ RelV v u'
    rw [e]
    cases hk : i == k with
    | true =>
      rw [hk] at hl
      cases hl
      exact ⟨u, rfl, r⟩
    | false =>
      rw [hk] at hl
      exact ih hl
theorem IntE.keys {es : List DictEntry} {ks : List Int} {vs : List V} (h : IntE es ks vs) (prog : Program) (w : World) : ∀ e ∈ es, ∃ k, (intKind prog w).is k e.key = true ∧ e.hash = (intKind prog w).hash k := by
  induction h with
  | nil => intro e h; cases h
  | @cons k t u v' es ks vs r _ ih =>
    intro e he
    rcases List.mem_cons.mp he with rfl | he
    · exact ⟨k, by show Value.isInt k (.int k t) = true; simp [Value.isInt], rfl⟩
    · exact ih e he
theorem dct_ok {U : Uni} {X : Cx} (hK : X.K = U.K) : DctOk U X := by
  intro value slice pins s σ H x y v u Q I rx ry h hs
  obtain ⟨a, ks, vs, i, r, rfl, rfl, ⟨es, n, hl, hk⟩, e, q⟩ := h
  obtain rfl : v = Value.ref a := rx
  obtain ⟨t, rfl⟩ := ry
  rw [← hK] at hl
  have hm : s.heap.MapOf (intKind X.prog X.w) a (fun k => findBy Value.isInt es k) :=
    ⟨_, es, n, I.kIn _ _ hl, ⟨rfl, rfl, rfl⟩, rfl, fun e he => hk.keys X.prog X.w e (Array.mem_toList_iff.mpr he), fun _ => rfl⟩
  obtain ⟨w', e2, r2⟩ := hk.find e
  have hf : findBy Value.isInt es i = some w' := by
    unfold findBy
    rw [← Array.find?_toList]
    exact e2
  refine tail_any hm.typeIs slot_dict_getitem.lookup (wpAny_getItem_of (show (intKind X.prog X.w).is i (.int i t) = true from by show Value.isInt i (.int i t) = true; simp [Value.isInt]) hm hf ⟨r, H, I.tok _, r2, q⟩) hs
/-! ### a class with one field, its __init__: a look, then self.f = m -/
section
variable {X : Cx} {CX : CXT} {k : Nat} {f C : Addr} {fd : FuncData} {ps : List Str} {sp : Sp} {E : XK}
theorem run_makeS {pins : List (Addr × Obj)} {σ : L2.St} {H : Hp} {s : Shared} {Q : VK} {us : List Value} {vs : List V} (M : Mk X.K C f) (F : FnOk X.prog X.w X.K X.mg X.base CX k f fd ps sp) (hr : Room (k + 1) X.A) (hb : Binds X.K fd ps [])
    (hx : PassesAt CX X σ E) (I : Inv X pins σ H s) (r : Vals vs us)
    (h : ∀ x dx, H x = none → H dx = none → dx ≠ x → sp (.ref x :: vs) (upd (upd H dx (.own x)) x (.ins C dx [])) (fun v H2 => v = .non ∧ Q (.ref x) H2) E) :
    wpAny (model X.prog X.w) X.A (call (.ref C) us) (EP X pins σ Q) X.xe s := by
  have hq := h (s.heap.objs.size + 1) s.heap.objs.size (I.hok.fresh (Nat.le_succ _)) (I.hok.fresh (Nat.le_refl _)) (Nat.ne_of_lt (Nat.lt_succ_self _))
  have I2 := Inv.made (C := C) I
  have r2 : Vals (V.ref (s.heap.objs.size + 1) :: vs) (Value.ref (s.heap.objs.size + 1) :: us) := .cons rfl r
  have hl : (Value.ref (s.heap.objs.size + 1) :: us).length = ps.length := by
    have e := r2.length
    rw [F.len _ _ _ _ hq] at e
    exact e.symm
  have b := hb _ (Value.ref (s.heap.objs.size + 1) :: us) I2.kIn (by rw [List.append_nil]; exact hl)
  rw [List.append_nil] at b
  refine wpAny_call (make_map (f := f) I.kIn M.makes M.init (beq_iff_eq.mp M.fn) (codeAny_mono (F.run _ X.stack _ _ ⟨Value.ref (s.heap.objs.size + 1) :: us, []⟩ (Value.ref (s.heap.objs.size + 1) :: us) _ _ E (hr.make C us [])
    (I2.env0.make C us []) b r2 hq) fun r s' hq' => ?_))
  cases r with
  | error e => exact hx pins _ _ e s' I2 hq'
  | ok fl =>
    cases fl with
    | ret u =>
      obtain ⟨v, H', I3, rv, ev, q3⟩ := I2.after hq'
      subst ev
      exact ⟨rv, ⟨V.ref (s.heap.objs.size + 1), H', I3, rfl, q3⟩⟩
    | next => exact False.elim hq'
    | brk => exact False.elim hq'
    | cont => exact False.elim hq'
end
/-- what the class's making answers: a look at the argument, then the object -/
def mk1 (c : Nat) (g : Tr → Oc Tr) : List Tr → Oc Rs
  | [t] => g t >>= fun t' => .ok (.im (.ins c [t']))
  | _ => .no
section
variable {P : PSt} {Q : Pg} {U : Uni} {prog : Program} {w : World} {K : PySem.W.Frag} {mg : Str → Option Value} {base : Heap}
def spI (U : Uni) (c : Nat) (g : Tr → Oc Tr) (fld : Str) : Sp := fun vs H R E => ∃ (x dx : Addr) (v : V) (t : Tr) (G : Hp), vs = [.ref x, v] ∧ H x = some (.ins (U.cls c) dx []) ∧ G x = none ∧ Same G H ∧ Rep U G v t ∧
  match g t with
  | .ok t' => ∀ v' G' H', Grow G H G' H' → Rep U G' v' t' → R .non (upd H' x (.ins (U.cls c) dx [(fld, v')]))
  | .ex e => ∀ G' H', Grow G H G' H' → E (.ref (U.exc e)) none H'
  | .no => False
theorem init_ok {k : Nat} {qual : Str} {st s1 : Stmt} {px ps2 pa2 pa3 : Pos} {fa : Addr} {fd : FuncData} {c : Nat} {g : Tr → Oc Tr} {m : Sm} {self fld arg : Str} (hw : Wd P U (Q.ctx k) k prog w K mg base) (F : Fun K "__init__" qual st fa fd)
    (hS : FnScope [self, arg] [self, arg] (defScope st)) (hb : defBody st = [s1, .Assign [.Attribute (.Name self px) fld pa2] (.Name arg ps2) pa3]) (hc : chkS P 60 30 ⟨[self, arg], defScope st, fun _ => true⟩ s1 m = true)
    (hself : okLoc ⟨[self, arg], defScope st, fun _ => true⟩ self 0 = true) (harg : okLoc ⟨[self, arg], defScope st, fun _ => true⟩ arg 1 = true)
    (hm : ∀ a t, exec (Q.ctx k) m [.im (.raw a), .im t] = (g t >>= fun t' => .ok (.nx [.im (.raw a), .im t'])))
    (cl : Cls K (U.cls c)) (na : NoAttr K (U.cls c) fld) : FnOk prog w K mg base (L2.CX prog w) (k + 1) fa fd [self, arg] (spI U c g fld) := by
  refine F.okX hS (fun vs H R E h => ?_) (fun cdv A outer s H vs R E hr h => ?_)
  · obtain ⟨x, dx, v, t, G, rfl, _⟩ := h
    rfl
  · obtain ⟨x, dx, v, t, G, rfl, hx, gx, sm, rp, h⟩ := h
    have xo : XOk k prog w K mg base ⟨[self, arg], defScope st, fun _ => true⟩ (fun cls d _ H => E cls d H) (cxOf (L2.CX prog w) prog w K mg base [self, arg] qual (defScope st) fa cdv A outer s H E) :=
      ⟨⟨rfl, rfl, rfl, rfl, rfl⟩, takes_of rfl rfl rfl rfl, hr, rfl, rfl, rfl, hS.nd, fun _ => rfl⟩
    obtain ⟨l1, l2, l3, l4⟩ := okLoc_ok xo hself
    obtain ⟨m1, m2, m3, m4⟩ := okLoc_ok xo harg
    rw [hb]
    refine ⟨_, pss_cons (sound_S hw 60 30 _ _ _ H s1 m xo hS.kind (passes_of rfl) ⟨rfl, rfl⟩ hc) (pss_one (ps_fld (pe_var l1 l2 l3 l4) (pe_var m1 m2 m3 m4) rfl)), ?_⟩
    have env0 : EnvOk U H G H [.im (.raw x), .im t] (L2.start [self, arg] [.ref x, v]) := by
      refine ⟨sm, fun a h => h, rfl, fun i sl hi => ?_, fun i j xs ys p hi => ?_⟩
      · match i, hi with
        | 0, hi => cases hi; exact ⟨_, rfl, .raw x⟩
        | 1, hi => cases hi; exact ⟨v, rfl, rp⟩
      · match i, hi with
        | 0, hi => cases hi
        | 1, hi => cases hi
    refine ⟨G, G, _, env0, Grow.refl sm, ?_⟩
    rw [hm]
    unfold PostS
    cases e : g t with
    | no => rw [e] at h; exact h
    | ex c => rw [e] at h; exact fun σ' G' H' gg => h G' H' gg
    | ok t' =>
      rw [e] at h
      intro σ' G' H' I' gg
      obtain ⟨v0, s0, r0⟩ := I'.rep 0 _ rfl
      obtain ⟨v1, s1, r1⟩ := I'.rep 1 _ rfl
      cases r0
      exact ⟨v1, s1, .ref x, s0, x, _, dx, [], rfl, gg.keep x _ gx hx, cl, na, by show 0 < 1000; decide, h v1 G' H' gg r1⟩
theorem callable_cls {k i c : Nat} {fa : Addr} {fd : FuncData} {g : Tr → Oc Tr} {self arg fld : Str} (M : Mk K (U.cls c) fa) (b : Binds K fd [self, arg] []) (L : ∀ k, FnOk prog w K mg base (L2.CX prog w) (k + 1) fa fd [self, arg] (spI U c g fld))
    (hd : Q.defs i = some (.nat 2 (mk1 c g))) (hf : U.flds c = [fld])
    {X : Cx} {W : WX} (h : At prog w K mg base X) (tk : Takes X W) (hr : Room k X.A) : Callable U (Q.ctx k) W X i (.ref (U.cls c)) := by
  obtain ⟨e1, e2, e3, e4, e5⟩ := h
  subst e1 e2 e3 e4 e5
  refine ⟨M.kp, fun pins s σ H us vs R I r hc => ?_⟩
  obtain ⟨G, ts, sm, rr, hc⟩ := hc
  have ec : (Q.ctx k).call i ts = callK Q k i ts := rfl
  rw [ec] at hc
  match k, hr, hc with
  | 0, hr, hc => exact hc.elim
  | 1, hr, hc =>
    unfold callK at hc
    simp only [hd] at hc
    rw [if_neg (by omega)] at hc
    exact hc.elim
  | k + 2, hr, hc =>
    unfold callK at hc
    simp only [hd] at hc
    rw [if_pos (by omega)] at hc
    refine run_makeS (E := WE W σ) M (L k) hr b (passAt tk σ) I r fun x dx hx hdx hne => ?_
    have hgx : G x = none := ghost_none sm hx
    have hgd : G dx = none := ghost_none sm hdx
    have sm2 : Same G (upd (upd H dx (.own x)) x (.ins (U.cls c) dx [])) := fun a o ha => by
      have n1 : a ≠ x := fun z => by subst z; rw [hgx] at ha; cases ha
      have n2 : a ≠ dx := fun z => by subst z; rw [hgd] at ha; cases ha
      rw [upd_ne n1, upd_ne n2]
      exact sm a o ha
    cases rr with
    | nil => exact hc.elim
    | @cons v vs t ts r1 rr =>
      cases rr with
      | cons _ _ => exact hc.elim
      | nil =>
        refine ⟨x, dx, v, t, G, rfl, upd_same, hgx, sm2, r1, ?_⟩
        have hc : match (g t >>= fun t' => Oc.ok (Rs.im (.ins c [t']))) >>= fun r => Oc.ok r.out with
          | .no => False
          | .ex c => ∀ G' H', Grow G H G' H' → W (.ref (U.exc c)) none σ H'
          | .ok r => r.isBr = false ∧ ∀ v G' H', Grow G H G' H' → RsOk U H G' H' H v r → R v H' := hc
        have low : ∀ {G' H' : Hp}, Grow G (upd (upd H dx (.own x)) x (.ins (U.cls c) dx [])) G' H' → Grow G H G' H' := fun {G' H'} q => by
          refine ⟨q.gg, q.gh, fun a o ha hh => ?_, fun a ha hh => ?_⟩
          · have n1 : a ≠ x := fun z => by subst z; rw [hx] at hh; cases hh
            have n2 : a ≠ dx := fun z => by subst z; rw [hdx] at hh; cases hh
            exact q.keep a o ha (by rw [upd_ne n1, upd_ne n2]; exact hh)
          · have n1 : a ≠ x := fun z => by subst z; exact hh hx
            have n2 : a ≠ dx := fun z => by subst z; exact hh hdx
            exact q.new a ha (by rw [upd_ne n1, upd_ne n2]; exact hh)
        cases e : g t with
        | no => rw [e] at hc; exact hc
        | ex d => rw [e] at hc; exact fun G' H' q => hc G' H' (low q)
        | ok t' =>
          rw [e] at hc
          intro v' G' H' q r'
          refine ⟨rfl, ?_⟩
          have gx' : G' x = none := q.new x hgx (by rw [upd_same]; simp)
          have q2 := low q
          have g3 : Grow G H (upd G' x (.ins (U.cls c) dx [(fld, v')])) (upd H' x (.ins (U.cls c) dx [(fld, v')])) := by
            refine ⟨q2.gg.trans (ghost_same gx'), fun a o ha => ?_, fun a o ha hh => ?_, fun a ha hh => ?_⟩
            · by_cases z : a = x
              · subst z; rw [upd_same] at ha; rw [upd_same]; exact ha
              · rw [upd_ne z] at ha; rw [upd_ne z]; exact q2.gh a o ha
            · have n1 : a ≠ x := fun z => by subst z; rw [hx] at hh; cases hh
              rw [upd_ne n1]; exact q2.keep a o ha hh
            · have n1 : a ≠ x := fun z => by subst z; exact hh hx
              rw [upd_ne n1]; exact q2.new a ha hh
          refine hc.2 (.ref x) _ _ g3 ?_
          show Rep U _ (.ref x) (.ins c [t'])
          refine .ins (dx := dx) (vs := [v']) ?_ (by rw [hf]; rfl) (.cons (r'.mono (ghost_same gx')) .nil)
          rw [upd_same, hf]
          rfl
end
end PF
namespace PF
open PySem PySem.Spec PyProof.Rows L2 PySem.HandSPX
/-! ### tables, row by row -/
def AllL {α : Type} (p : Str → α → Prop) : List (Str × α) → Prop
  | [] => True
  | y :: l => p y.1 y.2 ∧ AllL p l
theorem allL {α : Type} {p : Str → α → Prop} : ∀ {l : List (Str × α)}, AllL p l → ∀ x i, l.lookup x = some i → p x i
  | [], _, x, i, h => by simp at h
  | (a, b) :: l, hp, x, i, h => by
    rw [List.lookup_cons] at h
    cases hx : x == a with
    | true =>
      rw [hx] at h
      cases h
      have e : x = a := by simpa using hx
      subst e
      exact hp.1
    | false =>
      rw [hx] at h
      exact allL hp.2 x i h
theorem allL2 {α β : Type} {p : Str → α → β → Prop} {l : List (Str × α × β)} (h : AllL (fun x (y : α × β) => p x y.1 y.2) l) : ∀ x i c, l.lookup x = some (i, c) → p x i c := fun x i c e => allL h x (i, c) e
theorem allN {α : Type} {p : α → Prop} {q : Str → α → Prop} {x : Str} : ∀ (i : α), ([] : List (Str × α)).lookup x = some i → p i := fun i h => by cases h
def AllM (p : Str → Prop) : List Str → Prop
  | [] => True
  | y :: l => p y ∧ AllM p l
theorem allM {p : Str → Prop} : ∀ {l : List Str}, AllM p l → ∀ x, x ∈ l → p x
  | [], _, x, h => by cases h
  | a :: l, hp, x, h => by
    rcases List.mem_cons.mp h with rfl | h
    · exact hp.1
    · exact allM hp.2 x h
def AllT (p : Nat → Bool → Prop) : List (Nat × Bool) → Prop
  | [] => True
  | y :: l => p y.1 y.2 ∧ AllT p l
theorem allT {p : Nat → Bool → Prop} : ∀ {l : List (Nat × Bool)}, AllT p l → ∀ c b, l.lookup c = some b → p c b
  | [], _, c, b, h => by simp at h
  | (x, y) :: l, hp, c, b, h => by
    rw [List.lookup_cons] at h
    cases hx : c == x with
    | true =>
      rw [hx] at h
      cases h
      have e : c = x := by simpa using hx
      subst e
      exact hp.1
    | false =>
      rw [hx] at h
      exact allT hp.2 c b h
theorem rv_int {i : Int} {t : Tok} : RelV (.int i) (.int i t) := ⟨t, rfl⟩
theorem rv_str {x : Str} {t : Tok} : RelV (.str x) (.str x t) := ⟨t, rfl⟩
theorem rv_ref {a : Addr} : RelV (.ref a) (.ref a) := rfl
theorem noCX {P : Program} {w : World} {H : Hp} {s : Shared} {e : Value} {s' : Shared} (h : L2.CX P w [] H s (fun _ _ _ => False) e s') : False := by
  obtain ⟨_, _, _, _, _, _, _, _, _, _, _, _, z⟩ := h
  exact z
end PF

namespace PF
open PySem PySem.Spec PyProof.Rows L2 PySem.HandSPX
open Builtin.Int (intBits)
/-! ### running by rewriting -/
def retK : Fl → Oc Rs
  | .rt r => .ok r.out
  | .nx _ => .ok (.im .non)
  | _ => .no
def contE (C : Ctx) (ss : List Sm) : Fl → Oc Fl
  | .nx e => execs C ss e
  | f => .ok f
theorem execs_nil {C : Ctx} {env : List Sl} : execs C [] env = .ok (.nx env) := rfl
theorem execs_cons {C : Ctx} {s : Sm} {ss : List Sm} {env : List Sl} : execs C (s :: ss) env = (exec C s env >>= contE C ss) := rfl
theorem execs_at {C : Ctx} {s : Sm} {ss : List Sm} {env env' : List Sl} (h : exec C s env = .ok (.nx env')) {r : Oc Fl} (h2 : execs C ss env' = r) : execs C (s :: ss) env = r := by rw [execs_cons, h]; exact h2
theorem execs_rt {C : Ctx} {s : Sm} {ss : List Sm} {env : List Sl} {r : Rs} (h : exec C s env = .ok (.rt r)) : execs C (s :: ss) env = .ok (.rt r) := by rw [execs_cons, h]; rfl
theorem ctx_call {Q : Pg} {k i : Nat} {ts : List Tr} : (Q.ctx k).call i ts = callK Q k i ts := rfl
theorem ctx_gl {Q : Pg} {k g : Nat} : (Q.ctx k).gl g = Q.gl g := rfl
theorem call_fn {Q : Pg} {i : Nat} {f : Fn} (h : Q.defs i = some (.fn f)) (k : Nat) (ts : List Tr) (hl : ts.length = f.np) : callK Q (k + 1) i ts = (execs (Q.ctx k) f.body (ts.map Sl.im ++ List.replicate (f.ns - f.np) Sl.un) >>= retK) := by
  unfold callK
  simp only [h]
  unfold runFn
  rw [if_pos hl]
  rfl
theorem opE_int {o : Op} {i j : Int} : opE o (.im (.int i)) (.im (.int j)) = (opI o i j >>= fun k => .ok (.im (.int k))) := rfl
section
variable {i j : Int}
theorem mulOk_of {m n : Nat} (hi : intBits i ≤ m) (hj : intBits j ≤ n) (h : m + n ≤ 134217728) : mulOk i j = true := decide_eq_true (Nat.le_trans (Nat.add_le_add hi hj) h)
theorem opI_add : opI .add i j = .ok (i + j) := rfl
theorem opI_sub : opI .sub i j = .ok (i - j) := rfl
theorem opI_mul (h : mulOk i j = true) : opI .mul i j = .ok (i * j) := if_pos h
theorem opI_mod (h : 0 < j) : opI .mod i j = .ok (i % j) := if_pos (decide_eq_true h)
theorem opI_fdiv (h : 0 < j) (h2 : intBits j ≤ 8000) : opI .fdiv i j = .ok (i / j) := by
  refine if_pos ?_
  rw [Bool.and_eq_true]
  refine ⟨decide_eq_true h, decide_eq_true ?_⟩
  unfold Builtin.Int.intBits at h2
  split at h2
  · rename_i z
    have : j = 0 := by simpa using z
    omega
  · omega
theorem opI_pow (h : 0 ≤ j) (h2 : j ≤ 1000000) (h3 : i.natAbs < 2 ^ 64) : opI .pow i j = .ok (i ^ j.toNat) := by
  refine if_pos ?_
  rw [Bool.and_eq_true, Bool.and_eq_true]
  exact ⟨⟨decide_eq_true h, decide_eq_true h2⟩, decide_eq_true h3⟩
theorem bits_of_le {m n : Nat} (h : intBits i ≤ m) (h2 : m ≤ n) : intBits i ≤ n := Nat.le_trans h h2
theorem bits_div (h : 0 < j) {m : Nat} (hi : intBits i ≤ m) : intBits (i / j) ≤ m := by
  have e : i / j = i.fdiv j := (Int.fdiv_eq_ediv_of_nonneg i (by omega)).symm
  rw [e]
  exact intBits_fdiv_le hi
theorem bits_mod (h : 0 < j) {m : Nat} (hi : intBits j ≤ m) : intBits (i % j) ≤ m := by
  have h1 := Int.emod_nonneg i (show j ≠ 0 by omega)
  have h2 := Int.emod_lt_of_pos i h
  exact intBits_le_of_natAbs (by omega) hi
theorem see_im {t : Tr} : (Rs.im t).see = t := rfl
theorem see_ow {t : List Tr} : (Rs.ow t).see = .lst t := rfl
theorem see_br {t : List Tr} : (Rs.br t).see = .lst t := rfl
theorem fz_im {t : Tr} : (Rs.im t).fz = .ok t := rfl
theorem fz_ow {t : List Tr} : (Rs.ow t).fz = .ok (.lst t) := rfl
theorem out_im {t : Tr} : (Rs.im t).out = .im t := rfl
theorem out_ow {t : List Tr} : (Rs.ow t).out = .ow t := rfl
theorem out_br' {t : List Tr} : (Rs.br t).out = .ow t := rfl
theorem at0 {x : Tr} {xs : List Tr} : atI (x :: xs) 0 = some x := by simp [atI, ixN]
theorem at1 {x y : Tr} {xs : List Tr} : atI (x :: y :: xs) 1 = some y := by
  have h : (1 : Int) < ((x :: y :: xs).length : Int) := by rw [List.length_cons, List.length_cons]; omega
  unfold atI ixN
  rw [if_pos (by decide), if_pos h]
  rfl
theorem ixT_of {xs : List Tr} {i : Int} {x : Tr} (h : atI xs i = some x) : ixE (.tup xs) (.int i) = .ok x := by
  show (match atI xs i with | some t => Oc.ok t | none => Oc.no) = _
  rw [h]
theorem ixL_of {xs : List Tr} {i : Int} {x : Tr} (h : atI xs i = some x) : ixE (.lst xs) (.int i) = .ok x := by
  show (match atI xs i with | some t => Oc.ok t | none => Oc.no) = _
  rw [h]
theorem ixT0 {x : Tr} {xs : List Tr} : ixE (.tup (x :: xs)) (.int 0) = .ok x := ixT_of at0
theorem ixT1 {x y : Tr} {xs : List Tr} : ixE (.tup (x :: y :: xs)) (.int 1) = .ok y := ixT_of at1
theorem eq_int : Tr.eq (.int i) (.int j) = .ok (decide (i = j)) := rfl
theorem eq_t2 {a b c d : Int} : Tr.eq (.tup [.int a, .int b]) (.tup [.int c, .int d]) = .ok (decide (a = c) && decide (b = d)) := by
  have h : Tr.eq (.tup [.int a, .int b]) (.tup [.int c, .int d]) = .ok (decide (a = c) && (decide (b = d) && true)) := rfl
  rw [h, Bool.and_true]
theorem eq_tt2 {a b c d a' b' c' d' : Int} : Tr.eq (.tup [.tup [.int a, .int b], .tup [.int c, .int d]]) (.tup [.tup [.int a', .int b'], .tup [.int c', .int d']]) = .ok (decide (a = a') && decide (b = b') && (decide (c = c') && decide (d = d'))) := by
  have h : Tr.eq (.tup [.tup [.int a, .int b], .tup [.int c, .int d]]) (.tup [.tup [.int a', .int b'], .tup [.int c', .int d']]) = .ok ((decide (a = a') && (decide (b = b') && true)) && ((decide (c = c') && (decide (d = d') && true)) && true)) := rfl
  rw [h]
  simp only [Bool.and_true]
theorem cmp_eq : cmpE .eq (.int i) (.int j) = .ok (decide (i = j)) := eq_int
theorem cmp_ne : cmpE .ne (.int i) (.int j) = .ok (!decide (i = j)) := by
  unfold cmpE
  simp only [eq_int, Oc.ok_bind]
theorem cmp_lt : cmpE .lt (.int i) (.int j) = .ok (decide (i < j)) := rfl
theorem cmp_le : cmpE .le (.int i) (.int j) = .ok (decide (i ≤ j)) := rfl
theorem cmp_gt : cmpE .gt (.int i) (.int j) = .ok (decide (j < i)) := rfl
theorem cmp_ge : cmpE .ge (.int i) (.int j) = .ok (decide (j ≤ i)) := rfl
theorem cmp_t2 {a b c d : Int} : cmpE .eq (.tup [.int a, .int b]) (.tup [.int c, .int d]) = .ok (decide (a = c) && decide (b = d)) := eq_t2
theorem cmp_n2 {a b c d : Int} : cmpE .ne (.tup [.int a, .int b]) (.tup [.int c, .int d]) = .ok (!(decide (a = c) && decide (b = d))) := by
  unfold cmpE
  simp only [eq_t2, Oc.ok_bind]
theorem cmp_tt2 {a b c d a' b' c' d' : Int} : cmpE .eq (.tup [.tup [.int a, .int b], .tup [.int c, .int d]]) (.tup [.tup [.int a', .int b'], .tup [.int c', .int d']]) = .ok (decide (a = a') && decide (b = b') && (decide (c = c') && decide (d = d'))) := eq_tt2
theorem cmp_nt2 {a b c d a' b' c' d' : Int} : cmpE .ne (.tup [.tup [.int a, .int b], .tup [.int c, .int d]]) (.tup [.tup [.int a', .int b'], .tup [.int c', .int d']]) = .ok (!(decide (a = a') && decide (b = b') && (decide (c = c') && decide (d = d')))) := by
  unfold cmpE
  simp only [eq_tt2, Oc.ok_bind]
end
theorem sizes_ok (c : Int) : ∃ m, ixE (.lst [.int 4, .int 6, .int 8, .int 10, .int 12]) (.int (c % 5)) = .ok (.int m) ∧ (m = 4 ∨ m = 6 ∨ m = 8 ∨ m = 10 ∨ m = 12) := by
  have h : c % 5 = 0 ∨ c % 5 = 1 ∨ c % 5 = 2 ∨ c % 5 = 3 ∨ c % 5 = 4 := by omega
  rcases h with h | h | h | h | h <;> rw [h] <;> exact ⟨_, rfl, by omega⟩
end PF
namespace PF
open PySem PySem.Spec PyProof.Rows L2 PySem.HandSPX
theorem isInsT {c : Nat} {fs : List Tr} : isIns c (.ins c fs) = true := by simp [isIns]
theorem fldE1 {c : Nat} {t : Tr} {fs : List Tr} : fldE c 0 (.ins c (t :: fs)) = .ok t := by simp [fldE]
theorem bltE1 {xs : List Tr} : bltE .len [.im (.lst xs)] = .ok (.im (.int (xs.length : Int))) := rfl
theorem bltE2 {xs : List Tr} : bltE .len [.im (.tup xs)] = .ok (.im (.int (xs.length : Int))) := rfl
theorem bltE3 {b : Bool} : bltE .int [.im (.bl b)] = .ok (.im (.int (if b then 1 else 0))) := rfl
theorem bltE4 {i : Int} : bltE .abs [.im (.int i)] = .ok (.im (.int (if i < 0 then -i else i))) := rfl
theorem bltE5 {i j : Int} : bltE .max2 [.im (.int i), .im (.int j)] = .ok (.im (.int (if j > i then j else i))) := rfl
theorem wf_ctx {Q : Pg} {k : Nat} : (Q.ctx k).wf = Q.wf := rfl
end PF
namespace PF
open PySem PySem.Spec PyProof.Rows L2 PySem.HandSPX
/-! ### the meaning, equation by equation: what goes on behind a part is a name, so that nothing is looked at ahead of its turn -/
section
variable {C : Ctx} {env : List Sl}
def kBin1 (C : Ctx) (o : Op) (b : Ex) (env : List Sl) (r : Oc Rs) : Oc Rs := r >>= fun x => ev C b env >>= fun y => opE o x y
def kBin2 (o : Op) (x : Rs) (r : Oc Rs) : Oc Rs := r >>= fun y => opE o x y
def kI (r : Oc Int) : Oc Rs := r >>= fun k => .ok (.im (.int k))
def kB (r : Oc Bool) : Oc Rs := r >>= fun k => .ok (.im (.bl k))
def kIm (r : Oc Tr) : Oc Rs := r >>= fun k => .ok (.im k)
def kFz (r : Oc Rs) : Oc Tr := r >>= Rs.fz
def kNot (r : Oc Rs) : Oc Rs := r >>= fun x => oBool x.see >>= fun b => .ok (.im (.bl (!b)))
def kNeg (r : Oc Rs) : Oc Rs := r >>= fun x => oInt x.see >>= fun i => .ok (.im (.int (-i)))
def kCmp1 (C : Ctx) (o : CO) (b : Ex) (env : List Sl) (r : Oc Rs) : Oc Rs := r >>= fun x => ev C b env >>= fun y => cmpE o x.see y.see >>= fun b => .ok (.im (.bl b))
def kCmp2 (o : CO) (t : Tr) (r : Oc Rs) : Oc Rs := r >>= fun y => cmpE o t y.see >>= fun b => .ok (.im (.bl b))
def kIsN (r : Oc Rs) : Oc Rs := r >>= fun x => .ok (.im (.bl (isNonT x.see)))
def kAnd (C : Ctx) (b : Ex) (env : List Sl) (r : Oc Rs) : Oc Rs := r >>= fun x => oBool x.see >>= fun k => if k then ev C b env else .ok (.im (.bl false))
def kOr (C : Ctx) (b : Ex) (env : List Sl) (r : Oc Rs) : Oc Rs := r >>= fun x => oBool x.see >>= fun k => if k then .ok (.im (.bl true)) else ev C b env
def kIte (C : Ctx) (a b : Ex) (env : List Sl) (r : Oc Rs) : Oc Rs := r >>= fun x => oBool x.see >>= fun k => if k then ev C a env else ev C b env
def kTup (r : Oc (List Tr)) : Oc Rs := r >>= fun ts => if sizeOk ts.length then .ok (.im (.tup ts)) else .no
def kTup2 (ts : List Tr) (b : Bool) : Oc Rs := if b then .ok (.im (.tup ts)) else .no
def kLst (r : Oc (List Tr)) : Oc Rs := r >>= fun ts => if sizeOk ts.length then .ok (.ow ts) else .no
def kLst2 (ts : List Tr) (b : Bool) : Oc Rs := if b then .ok (.ow ts) else .no
def kVs1 (C : Ctx) (es : List Ex) (env : List Sl) (r : Oc Tr) : Oc (List Tr) := r >>= fun t => evs C es env >>= fun ts => .ok (t :: ts)
def kVs2 (t : Tr) (r : Oc (List Tr)) : Oc (List Tr) := r >>= fun ts => .ok (t :: ts)
def kVb1 (C : Ctx) (es : List Ex) (env : List Sl) (r : Oc Rs) : Oc (List Rs) := r >>= fun t => evb C es env >>= fun ts => .ok (t :: ts)
def kVb2 (t : Rs) (r : Oc (List Rs)) : Oc (List Rs) := r >>= fun ts => .ok (t :: ts)
def kIx1 (C : Ctx) (b : Ex) (env : List Sl) (r : Oc Rs) : Oc Rs := r >>= fun x => ev C b env >>= fun y => ixE x.see y.see >>= fun t => .ok (.im t)
def kIx2 (t : Tr) (r : Oc Rs) : Oc Rs := r >>= fun y => ixE t y.see >>= fun t => .ok (.im t)
def kCall (C : Ctx) (f : Nat) (r : Oc (List Tr)) : Oc Rs := r >>= fun ts => C.call f ts
def kMe1 (C : Ctx) (f c : Nat) (es : List Ex) (env : List Sl) (r : Oc Tr) : Oc Rs := r >>= fun t => if isIns c t then evs C es env >>= fun ts => C.call f (t :: ts) else .no
def kMe2 (C : Ctx) (f : Nat) (t : Tr) (es : List Ex) (env : List Sl) (b : Bool) : Oc Rs := if b then evs C es env >>= fun ts => C.call f (t :: ts) else .no
def kMe3 (C : Ctx) (f : Nat) (t : Tr) (r : Oc (List Tr)) : Oc Rs := r >>= fun ts => C.call f (t :: ts)
def kFld (c j : Nat) (r : Oc Rs) : Oc Rs := r >>= fun x => fldE c j x.see >>= fun t => .ok (.im t)
def kBlt (b : Bl) (r : Oc (List Rs)) : Oc Rs := r >>= fun ts => bltE b ts
def kIsi (t : Ty) (r : Oc Rs) : Oc Rs := r >>= fun x => isiE t x.see >>= fun b => .ok (.im (.bl b))
def kIt (r : Oc Tr) : Oc (List Tr) := r >>= itemsOf
def kRg (r : Oc Rs) : Oc (List Tr) := r >>= fun x => oInt x.see >>= fun n => if smallI n then .ok (rangeT 0 n) else .no
def kRg2 (n : Int) (b : Bool) : Oc (List Tr) := if b then .ok (rangeT 0 n) else .no
def kNx (r : Oc (List Sl)) : Oc Fl := r >>= fun e => .ok (.nx e)
def kAsg (tg : Tg) (env : List Sl) (r : Oc Rs) : Oc Fl := r >>= fun r => asgR tg r env >>= fun env' => .ok (.nx env')
def kPar (i j : Nat) (env : List Sl) (r : Oc (List Tr)) : Oc Fl := r >>= fun ts => bindTp [i, j] ts env >>= fun env' => .ok (.nx env')
def kRet (r : Oc Rs) : Oc Fl := r >>= fun r => .ok (.rt r.out)
def kIff (C : Ctx) (a b : List Sm) (env : List Sl) (r : Oc Rs) : Oc Fl := r >>= fun x => oBool x.see >>= fun k => if k then execs C a env else execs C b env
def kCont (C : Ctx) (ss : List Sm) (r : Oc Fl) : Oc Fl := r >>= contE C ss
def kEnd (r : Oc Fl) : Oc Rs := r >>= retK
def forK (C : Ctx) (tg : Tg) (b : List Sm) (xs : List Tr) (env : List Sl) : Oc Fl := forGo (fun x e => bindTg tg x e >>= fun e' => execs C b e') xs env
def kFor (C : Ctx) (tg : Tg) (b : List Sm) (env : List Sl) (r : Oc (List Tr)) : Oc Fl := r >>= fun xs => forGo (fun x e => bindTg tg x e >>= fun e' => execs C b e') xs env
def kF1 (C : Ctx) (tg : Tg) (b : List Sm) (xs : List Tr) (r : Oc Fl) : Oc Fl := r >>= fun
    | .nx e => forK C tg b xs e
    | .ct e => forK C tg b xs e
    | .bk e => .ok (.nx e)
    | .rt r => .ok (.rt r)
def kBd (C : Ctx) (b : List Sm) (r : Oc (List Sl)) : Oc Fl := r >>= fun e' => execs C b e'
def kBt (is : List Nat) (ts : List Tr) (r : Oc (List Sl)) : Oc (List Sl) := r >>= fun e => bindTp is ts e
theorem q_lo {i : Nat} : ev C (.lo i) env = slotR env[i]? := id rfl
theorem q_s1 {t : Tr} : slotR (some (.im t)) = .ok (.im t) := id rfl
theorem q_s2 {t : List Tr} : slotR (some (.ow t)) = .ok (.br t) := id rfl
theorem q_non : ev C .non env = .ok (.im .non) := id rfl
theorem q_bl {b : Bool} : ev C (.bl b) env = .ok (.im (.bl b)) := id rfl
theorem q_int {i : Int} : ev C (.int i) env = .ok (.im (.int i)) := id rfl
theorem q_str {x : Str} : ev C (.str x) env = .ok (.im (.str x)) := id rfl
theorem q_gl {g : Nat} : ev C (.gl g) env = .ok (.im (C.gl g)) := id rfl
theorem q_bin {o : Op} {a b : Ex} : ev C (.bin o a b) env = kBin1 C o b env (ev C a env) := id rfl
theorem q_bin1 {o : Op} {b : Ex} {x : Rs} : kBin1 C o b env (.ok x) = kBin2 o x (ev C b env) := id rfl
theorem q_bin2 {o : Op} {x y : Rs} : kBin2 o x (.ok y) = opE o x y := id rfl
theorem q_kI {i : Int} : kI (.ok i) = .ok (.im (.int i)) := id rfl
theorem q_kB {i : Bool} : kB (.ok i) = .ok (.im (.bl i)) := id rfl
theorem q_kIm {i : Tr} : kIm (.ok i) = .ok (.im i) := id rfl
theorem q_kFz {r : Rs} : kFz (.ok r) = r.fz := id rfl
theorem q_neg {a : Ex} : ev C (.neg a) env = kNeg (ev C a env) := id rfl
theorem q_neg1 {i : Int} : kNeg (.ok (.im (.int i))) = .ok (.im (.int (-i))) := id rfl
theorem q_not {a : Ex} : ev C (.not a) env = kNot (ev C a env) := id rfl
theorem q_not1 {b : Bool} : kNot (.ok (.im (.bl b))) = .ok (.im (.bl (!b))) := id rfl
theorem q_cmp {o : CO} {a b : Ex} : ev C (.cmp o a b) env = kCmp1 C o b env (ev C a env) := id rfl
theorem q_cmp1 {o : CO} {b : Ex} {x : Rs} : kCmp1 C o b env (.ok x) = kCmp2 o x.see (ev C b env) := id rfl
theorem q_cmp2 {o : CO} {t : Tr} {y : Rs} : kCmp2 o t (.ok y) = kB (cmpE o t y.see) := id rfl
theorem q_isN {a : Ex} : ev C (.isN a) env = kIsN (ev C a env) := id rfl
theorem q_isN1 {x : Rs} : kIsN (.ok x) = .ok (.im (.bl (isNonT x.see))) := id rfl
theorem q_and {a b : Ex} : ev C (.and a b) env = kAnd C b env (ev C a env) := id rfl
theorem q_and1 {b : Ex} : kAnd C b env (.ok (.im (.bl true))) = ev C b env := id rfl
theorem q_and2 {b : Ex} : kAnd C b env (.ok (.im (.bl false))) = .ok (.im (.bl false)) := id rfl
theorem q_or {a b : Ex} : ev C (.or a b) env = kOr C b env (ev C a env) := id rfl
theorem q_or1 {b : Ex} : kOr C b env (.ok (.im (.bl true))) = .ok (.im (.bl true)) := id rfl
theorem q_or2 {b : Ex} : kOr C b env (.ok (.im (.bl false))) = ev C b env := id rfl
theorem q_ite {c a b : Ex} : ev C (.ite c a b) env = kIte C a b env (ev C c env) := id rfl
theorem q_ite1 {a b : Ex} : kIte C a b env (.ok (.im (.bl true))) = ev C a env := id rfl
theorem q_ite2 {a b : Ex} : kIte C a b env (.ok (.im (.bl false))) = ev C b env := id rfl
theorem q_tup {es : List Ex} : ev C (.tup es) env = kTup (evs C es env) := id rfl
theorem q_tup1 {ts : List Tr} : kTup (.ok ts) = kTup2 ts (sizeOk ts.length) := id rfl
theorem q_tup2 {ts : List Tr} : kTup2 ts true = .ok (.im (.tup ts)) := id rfl
theorem q_lst {es : List Ex} : ev C (.lst es) env = kLst (evs C es env) := id rfl
theorem q_lst1 {ts : List Tr} : kLst (.ok ts) = kLst2 ts (sizeOk ts.length) := id rfl
theorem q_lst2 {ts : List Tr} : kLst2 ts true = .ok (.ow ts) := id rfl
theorem q_ix {a b : Ex} : ev C (.ix a b) env = kIx1 C b env (ev C a env) := id rfl
theorem q_ix1 {b : Ex} {x : Rs} : kIx1 C b env (.ok x) = kIx2 x.see (ev C b env) := id rfl
theorem q_ix2 {t : Tr} {y : Rs} : kIx2 t (.ok y) = kIm (ixE t y.see) := id rfl
theorem q_call {f : Nat} {es : List Ex} : ev C (.call f es) env = kCall C f (evs C es env) := id rfl
theorem q_call1 {f : Nat} {ts : List Tr} : kCall C f (.ok ts) = C.call f ts := id rfl
theorem q_meth {f c : Nat} {o : Ex} {es : List Ex} : ev C (.meth f c o es) env = kMe1 C f c es env (kFz (ev C o env)) := id rfl
theorem q_meth1 {f c : Nat} {t : Tr} {es : List Ex} : kMe1 C f c es env (.ok t) = kMe2 C f t es env (isIns c t) := id rfl
theorem q_meth2 {f : Nat} {t : Tr} {es : List Ex} : kMe2 C f t es env true = kMe3 C f t (evs C es env) := id rfl
theorem q_meth3 {f : Nat} {t : Tr} {ts : List Tr} : kMe3 C f t (.ok ts) = C.call f (t :: ts) := id rfl
theorem q_fld {c j : Nat} {o : Ex} : ev C (.fld c j o) env = kFld c j (ev C o env) := id rfl
theorem q_fld1 {c j : Nat} {x : Rs} : kFld c j (.ok x) = kIm (fldE c j x.see) := id rfl
theorem q_blt {b : Bl} {es : List Ex} : ev C (.blt b es) env = kBlt b (evb C es env) := id rfl
theorem q_blt1 {b : Bl} {rs : List Rs} : kBlt b (.ok rs) = bltE b rs := id rfl
theorem q_isi {a : Ex} {t : Ty} : ev C (.isi a t) env = kIsi t (ev C a env) := id rfl
theorem q_isi0 {x : Rs} {t : Ty} : kIsi t (.ok x) = kB (isiE t x.see) := id rfl
theorem q_vs0 : evs C [] env = .ok [] := id rfl
theorem q_vs1 {e : Ex} {es : List Ex} : evs C (e :: es) env = kVs1 C es env (kFz (ev C e env)) := id rfl
theorem q_vs2 {t : Tr} {es : List Ex} : kVs1 C es env (.ok t) = kVs2 t (evs C es env) := id rfl
theorem q_vs3 {t : Tr} {ts : List Tr} : kVs2 t (.ok ts) = .ok (t :: ts) := id rfl
theorem q_vb0 : evb C [] env = .ok [] := id rfl
theorem q_vb1 {e : Ex} {es : List Ex} : evb C (e :: es) env = kVb1 C es env (ev C e env) := id rfl
theorem q_vb2 {t : Rs} {es : List Ex} : kVb1 C es env (.ok t) = kVb2 t (evb C es env) := id rfl
theorem q_vb3 {t : Rs} {ts : List Rs} : kVb2 t (.ok ts) = .ok (t :: ts) := id rfl
theorem q_itE {e : Ex} : evIt C (.ex e) env = kIt (kFz (ev C e env)) := id rfl
theorem q_itE1 {t : Tr} : kIt (.ok t) = itemsOf t := id rfl
theorem q_it1 {a : Ex} : evIt C (.rng1 a) env = kRg (ev C a env) := id rfl
theorem q_it2 {i : Int} : kRg (.ok (.im (.int i))) = kRg2 i (smallI i) := id rfl
theorem q_it3 {i : Int} : kRg2 i true = .ok (rangeT 0 i) := id rfl
theorem q_asg {tg : Tg} {e : Ex} : exec C (.asg tg e) env = kAsg tg env (ev C e env) := id rfl
theorem q_asg0 {tg : Tg} {r : Rs} : kAsg tg env (.ok r) = kNx (asgR tg r env) := id rfl
theorem q_nx : kNx (.ok env) = .ok (.nx env) := id rfl
theorem q_par {i j : Nat} {a b : Ex} : exec C (.par i j a b) env = kPar i j env (evs C [a, b] env) := id rfl
theorem q_par1 {i j : Nat} {ts : List Tr} : kPar i j env (.ok ts) = kNx (bindTp [i, j] ts env) := id rfl
theorem q_ret {e : Ex} : exec C (.ret e) env = kRet (ev C e env) := id rfl
theorem q_ret1 {r : Rs} : kRet (.ok r) = .ok (.rt r.out) := id rfl
theorem q_retN : exec C .retN env = .ok (.rt (.im .non)) := id rfl
theorem q_iff {c : Ex} {a b : List Sm} : exec C (.iff c a b) env = kIff C a b env (ev C c env) := id rfl
theorem q_iff1 {a b : List Sm} : kIff C a b env (.ok (.im (.bl true))) = execs C a env := id rfl
theorem q_iff2 {a b : List Sm} : kIff C a b env (.ok (.im (.bl false))) = execs C b env := id rfl
theorem q_for {tg : Tg} {it : Ii} {b : List Sm} : exec C (.for_ tg it b) env = kFor C tg b env (evIt C it env) := id rfl
theorem q_for1 {tg : Tg} {xs : List Tr} {b : List Sm} : kFor C tg b env (.ok xs) = forK C tg b xs env := id rfl
theorem q_fg0 {tg : Tg} {b : List Sm} : forK C tg b [] env = .ok (.nx env) := id rfl
theorem q_fg1 {tg : Tg} {b : List Sm} {x : Tr} {xs : List Tr} : forK C tg b (x :: xs) env = kF1 C tg b xs (kBd C b (bindTg tg x env)) := id rfl
theorem q_fb {b : List Sm} : kBd C b (.ok env) = execs C b env := id rfl
theorem q_f1 {tg : Tg} {b : List Sm} {xs : List Tr} : kF1 C tg b xs (.ok (.nx env)) = forK C tg b xs env := id rfl
theorem q_f2 {tg : Tg} {b : List Sm} {xs : List Tr} {r : Rs} : kF1 C tg b xs (.ok (.rt r)) = .ok (.rt r) := id rfl
theorem q_rse {c : Nat} : exec C (.rse c) env = .ex c := id rfl
theorem q_es0 : execs C [] env = .ok (.nx env) := id rfl
theorem q_es1 {s : Sm} {ss : List Sm} : execs C (s :: ss) env = kCont C ss (exec C s env) := id rfl
theorem q_cn {ss : List Sm} {e : List Sl} : kCont C ss (.ok (.nx e)) = execs C ss e := id rfl
theorem q_cr {ss : List Sm} {r : Rs} : kCont C ss (.ok (.rt r)) = .ok (.rt r) := id rfl
theorem q_rk1 {r : Rs} : kEnd (.ok (.rt r)) = .ok r.out := id rfl
theorem q_rk2 {e : List Sl} : kEnd (.ok (.nx e)) = .ok (.im .non) := id rfl
theorem q_see1 {t : Tr} : (Rs.im t).see = t := id rfl
theorem q_see2 {t : List Tr} : (Rs.ow t).see = .lst t := id rfl
theorem q_see3 {t : List Tr} : (Rs.br t).see = .lst t := id rfl
theorem q_fz1 {t : Tr} : (Rs.im t).fz = .ok t := id rfl
theorem q_fz2 {t : List Tr} : (Rs.ow t).fz = .ok (.lst t) := id rfl
theorem q_out1 {t : Tr} : (Rs.im t).out = .im t := id rfl
theorem q_out2 {t : List Tr} : (Rs.ow t).out = .ow t := id rfl
theorem q_out3 {t : List Tr} : (Rs.br t).out = .ow t := id rfl
theorem q_op {o : Op} {i j : Int} : opE o (.im (.int i)) (.im (.int j)) = kI (opI o i j) := id rfl
theorem q_add {i j : Int} : opI .add i j = .ok (i + j) := id rfl
theorem q_sub {i j : Int} : opI .sub i j = .ok (i - j) := id rfl
theorem q_isi1 {i : Int} : isiE .int (.int i) = .ok true := id rfl
theorem q_isi2 {i : Int} : isiE .bool (.int i) = .ok false := id rfl
theorem q_isi3 {xs : List Tr} : isiE .tuple (.tup xs) = .ok true := id rfl
theorem q_isi4 {i : Bool} : isiE .bool (.bl i) = .ok true := id rfl
theorem q_isi5 {i : Bool} : isiE .int (.bl i) = .ok true := id rfl
theorem q_asg1 {i : Nat} {r : Rs} : asgR (.nm i) r env = putR i r env := id rfl
theorem q_asg2 {i j : Nat} {t u : Tr} : asgR (.tp [i, j]) (.im (.tup [t, u])) env = bindTp [i, j] [t, u] env := id rfl
theorem q_put1 {i : Nat} {t : Tr} (h : i < env.length) : putR i (.im t) env = .ok (env.set i (.im t)) := if_pos (decide_eq_true h)
theorem q_put2 {i : Nat} {t : List Tr} (h : i < env.length) : putR i (.ow t) env = .ok (env.set i (.ow t)) := if_pos (decide_eq_true h)
theorem q_bnm {i : Nat} {t : Tr} (h : i < env.length) : bindNm env i t = .ok (env.set i (.im t)) := if_pos (decide_eq_true h)
theorem q_bt0 : bindTp [] [] env = .ok env := id rfl
theorem q_bt1 {i : Nat} {is : List Nat} {t : Tr} {ts : List Tr} : bindTp (i :: is) (t :: ts) env = kBt is ts (bindNm env i t) := id rfl
theorem q_bt2 {is : List Nat} {ts : List Tr} : kBt is ts (.ok env) = bindTp is ts env := id rfl
theorem q_tg1 {i : Nat} {t : Tr} : bindTg (.nm i) t env = bindNm env i t := id rfl
theorem q_tg2 {i j : Nat} {t u : Tr} : bindTg (.tp [i, j]) (.tup [t, u]) env = bindTp [i, j] [t, u] env := id rfl
theorem q_its1 {xs : List Tr} : itemsOf (.tup xs) = .ok xs := id rfl
theorem q_its2 {xs : List Tr} : itemsOf (.lst xs) = .ok xs := id rfl
theorem q_len1 {xs : List Tr} : bltE .len [.im (.lst xs)] = .ok (.im (.int (xs.length : Int))) := id rfl
theorem q_len2 {xs : List Tr} : bltE .len [.im (.tup xs)] = .ok (.im (.int (xs.length : Int))) := id rfl
theorem q_bint {b : Bool} : bltE .int [.im (.bl b)] = .ok (.im (.int (if b then 1 else 0))) := id rfl
theorem q_abs {i : Int} : bltE .abs [.im (.int i)] = .ok (.im (.int (if i < 0 then -i else i))) := id rfl
theorem q_max {i j : Int} : bltE .max2 [.im (.int i), .im (.int j)] = .ok (.im (.int (if j > i then j else i))) := id rfl
theorem q_fld0 {c : Nat} {t : Tr} {fs : List Tr} : fldE c 0 (.ins c (t :: fs)) = .ok t := fldE1
theorem q_ctx {Q : Pg} {k i : Nat} {ts : List Tr} : (Q.ctx k).call i ts = callK Q k i ts := id rfl
theorem q_cgl {Q : Pg} {k g : Nat} : (Q.ctx k).gl g = Q.gl g := id rfl
theorem q_cwf {Q : Pg} {k : Nat} : (Q.ctx k).wf = Q.wf := id rfl
theorem q_size {n : Nat} (h : n ≤ 16777216) : sizeOk n = true := decide_eq_true h
theorem q_ixt {xs : List Tr} {i : Int} {x : Tr} (h : atI xs i = some x) : ixE (.tup xs) (.int i) = .ok x := ixT_of h
end
end PF
namespace PF
theorem lt_len {i : Nat} {env : List Sl} (h : Nat.blt i env.length = true) : i < env.length := by
  rw [Nat.blt_eq] at h
  exact h
end PF
namespace PF
theorem call_f {Q : Pg} {i : Nat} {f : Fn} (h : Q.defs i = some (.fn f)) (k : Nat) (ts : List Tr) (hl : ts.length = f.np) : callK Q (k + 1) i ts = kEnd (execs (Q.ctx k) f.body (ts.map Sl.im ++ List.replicate (f.ns - f.np) Sl.un)) := call_fn h k ts hl
end PF

namespace PF
open PySem PySem.Spec PyProof.Rows L2 PySem.HandSPX
open Builtin.Int (intBits)
def cellB (a b c d : Int) : List Sm := [.iff (.cmp .lt (.lo 1) (.blt .len [.lo 0])) [.ret (.ix (.lo 0) (.lo 1))] [], .iff (.cmp .eq (.blt .len [.lo 0]) (.int 0)) [.ret (.bin .add (.bin .mul (.bin .mul (.lo 1) (.lo 1)) (.int a)) (.int b))] [], .ret (.bin .add (.bin .mul (.bin .mod (.ix (.lo 0) (.bin .mod (.bin .mul (.lo 1) (.int 3)) (.blt .len [.lo 0]))) (.int 2147483629)) (.int c)) (.bin .mul (.bin .mul (.lo 1) (.lo 1)) (.int d)))]
theorem atI_of {xs : List Tr} {i : Int} {x : Tr} (h0 : 0 ≤ i) (h : xs[i.toNat]? = some x) : atI xs i = some x := by
  have hl : i.toNat < xs.length := by
    rcases Nat.lt_or_ge i.toNat xs.length with z | z
    · exact z
    · rw [List.getElem?_eq_none z] at h; cases h
  unfold atI ixN
  rw [if_pos h0, if_pos (by omega)]
  exact h
theorem at_ints {ns : List Int} {i : Int} (h0 : 0 ≤ i) (h : i < ns.length) : ∃ z ∈ ns, atI (ns.map Tr.int) i = some (.int z) := by
  have hl : i.toNat < ns.length := by omega
  refine ⟨ns[i.toNat], List.getElem_mem hl, atI_of h0 ?_⟩
  rw [List.getElem?_map, List.getElem?_eq_getElem hl]
  rfl
theorem cell_gen {Q : Pg} {f : Nat} {a b c d : Int} (hf : Q.defs f = some (.fn ⟨2, 2, cellB a b c d⟩)) (ha : intBits a ≤ 64) (hB : intBits b ≤ 64) (hc : intBits c ≤ 64) (hd : intBits d ≤ 64) {ns : List Int} (hb : ∀ z ∈ ns, intBits z ≤ 1048576) (j : Int) (h0 : 0 ≤ j) (h1 : intBits j ≤ 64) :
    ∃ z, (∀ k, callK Q (k + 1) f [.lst (ns.map Tr.int), .int j] = .ok (.im (.int z))) ∧ intBits z ≤ 1048600 := by
  have hm1 : intBits (2147483629 : Int) ≤ 64 := by decide
  have hm2 : intBits (3 : Int) ≤ 64 := by decide
  by_cases h : j < ns.length
  · obtain ⟨z, hz, e⟩ := at_ints h0 h
    refine ⟨z, fun k => ?_, Nat.le_trans (hb z hz) (by decide)⟩
    rw [call_f hf k _ rfl]
    simp -implicitDefEqProofs (maxSteps := 400000) (disch := (first | with_reducible assumption | (with_reducible apply PF.mulOk_of <;> (repeat' (first | with_reducible assumption | with_reducible (apply PyProof.Rows.bits_add) | with_reducible (apply PyProof.Rows.bits_sub) | with_reducible (apply PyProof.Rows.bits_mul) | with_reducible (apply PyProof.Rows.bits_neg) | with_reducible (apply PF.bits_div (by first | omega | decide +kernel)) | with_reducible (apply PF.bits_mod (by first | omega | decide +kernel)) | (with_reducible show _ + _ ≤ 134217728; decide +kernel) | exact Nat.le_refl _))) | ((with_reducible apply PF.lt_len); with_unfolding_all rfl) | omega | decide +kernel)) only [PF.opI_mul, PF.opI_mod, PF.opI_fdiv, PF.ixT0, PF.ixT1, PF.cmp_eq, PF.cmp_ne, PF.cmp_lt, PF.cmp_le, PF.cmp_gt, PF.cmp_ge, PF.cmp_t2, PF.cmp_n2, PF.cmp_tt2, PF.cmp_nt2, PF.isInsT, PF.q_lo, PF.q_s1, PF.q_s2, PF.q_non, PF.q_bl, PF.q_int, PF.q_str, PF.q_gl, PF.q_bin, PF.q_bin1, PF.q_bin2, PF.q_kI, PF.q_kB, PF.q_kIm, PF.q_kFz, PF.q_neg, PF.q_neg1, PF.q_not, PF.q_not1, PF.q_cmp, PF.q_cmp1, PF.q_cmp2, PF.q_isN, PF.q_isN1, PF.q_and, PF.q_and1, PF.q_and2, PF.q_or, PF.q_or1, PF.q_or2, PF.q_ite, PF.q_ite1, PF.q_ite2, PF.q_tup, PF.q_tup1, PF.q_tup2, PF.q_lst, PF.q_lst1, PF.q_lst2, PF.q_ix, PF.q_ix1, PF.q_ix2, PF.q_call, PF.q_call1, PF.q_meth, PF.q_meth1, PF.q_meth2, PF.q_meth3, PF.q_fld, PF.q_fld1, PF.q_blt, PF.q_blt1, PF.q_isi, PF.q_isi0, PF.q_vs0, PF.q_vs1, PF.q_vs2, PF.q_vs3, PF.q_vb0, PF.q_vb1, PF.q_vb2, PF.q_vb3, PF.q_itE, PF.q_itE1, PF.q_it1, PF.q_it2, PF.q_it3, PF.q_asg, PF.q_asg0, PF.q_nx, PF.q_par, PF.q_par1, PF.q_ret, PF.q_ret1, PF.q_retN, PF.q_iff, PF.q_iff1, PF.q_iff2, PF.q_for, PF.q_for1, PF.q_fg0, PF.q_fg1, PF.q_fb, PF.q_f1, PF.q_f2, PF.q_rse, PF.q_es0, PF.q_es1, PF.q_cn, PF.q_cr, PF.q_rk1, PF.q_rk2, PF.q_see1, PF.q_see2, PF.q_see3, PF.q_fz1, PF.q_fz2, PF.q_out1, PF.q_out2, PF.q_out3, PF.q_op, PF.q_add, PF.q_sub, PF.q_isi1, PF.q_isi2, PF.q_isi3, PF.q_isi4, PF.q_isi5, PF.q_asg1, PF.q_asg2, PF.q_put1, PF.q_put2, PF.q_bnm, PF.q_bt0, PF.q_bt1, PF.q_bt2, PF.q_tg1, PF.q_tg2, PF.q_its1, PF.q_its2, PF.q_len1, PF.q_len2, PF.q_bint, PF.q_abs, PF.q_max, PF.q_fld0, PF.q_ctx, PF.q_cgl, PF.q_cwf, PF.q_size, List.map_cons, List.map_nil, Nat.reduceSub, Nat.sub_self, List.replicate, List.append_nil, List.cons_append, List.nil_append, List.length_cons, List.length_nil, List.getElem?_cons_zero, List.getElem?_cons_succ, List.set_cons_zero, List.set_cons_succ, Nat.reduceAdd, Nat.reduceLT, Nat.reduceLeDiff, Int.cast_ofNat_Int, Int.reduceEq, Int.reduceLT, Int.reduceLE, decide_true, decide_false, if_true, Bool.false_eq_true, if_false, Bool.not_true, Bool.not_false, Bool.and_true, Bool.true_and, Bool.or_true, Bool.or_false, Bool.and_self, ite_true, ite_false, cellB, List.length_map, h, ixL_of e]
  · by_cases hz : ns.length = 0
    · refine ⟨j * j * a + b, fun k => ?_, ?_⟩
      · rw [call_f hf k _ rfl]
        have hz' : ((ns.length : Nat) : Int) = 0 := by omega
        have h' : ¬ j < 0 := by omega
        simp -implicitDefEqProofs (maxSteps := 400000) (disch := (first | with_reducible assumption | (with_reducible apply PF.mulOk_of <;> (repeat' (first | with_reducible assumption | with_reducible (apply PyProof.Rows.bits_add) | with_reducible (apply PyProof.Rows.bits_sub) | with_reducible (apply PyProof.Rows.bits_mul) | with_reducible (apply PyProof.Rows.bits_neg) | with_reducible (apply PF.bits_div (by first | omega | decide +kernel)) | with_reducible (apply PF.bits_mod (by first | omega | decide +kernel)) | (with_reducible show _ + _ ≤ 134217728; decide +kernel) | exact Nat.le_refl _))) | ((with_reducible apply PF.lt_len); with_unfolding_all rfl) | omega | decide +kernel)) only [PF.opI_mul, PF.opI_mod, PF.opI_fdiv, PF.ixT0, PF.ixT1, PF.cmp_eq, PF.cmp_ne, PF.cmp_lt, PF.cmp_le, PF.cmp_gt, PF.cmp_ge, PF.cmp_t2, PF.cmp_n2, PF.cmp_tt2, PF.cmp_nt2, PF.isInsT, PF.q_lo, PF.q_s1, PF.q_s2, PF.q_non, PF.q_bl, PF.q_int, PF.q_str, PF.q_gl, PF.q_bin, PF.q_bin1, PF.q_bin2, PF.q_kI, PF.q_kB, PF.q_kIm, PF.q_kFz, PF.q_neg, PF.q_neg1, PF.q_not, PF.q_not1, PF.q_cmp, PF.q_cmp1, PF.q_cmp2, PF.q_isN, PF.q_isN1, PF.q_and, PF.q_and1, PF.q_and2, PF.q_or, PF.q_or1, PF.q_or2, PF.q_ite, PF.q_ite1, PF.q_ite2, PF.q_tup, PF.q_tup1, PF.q_tup2, PF.q_lst, PF.q_lst1, PF.q_lst2, PF.q_ix, PF.q_ix1, PF.q_ix2, PF.q_call, PF.q_call1, PF.q_meth, PF.q_meth1, PF.q_meth2, PF.q_meth3, PF.q_fld, PF.q_fld1, PF.q_blt, PF.q_blt1, PF.q_isi, PF.q_isi0, PF.q_vs0, PF.q_vs1, PF.q_vs2, PF.q_vs3, PF.q_vb0, PF.q_vb1, PF.q_vb2, PF.q_vb3, PF.q_itE, PF.q_itE1, PF.q_it1, PF.q_it2, PF.q_it3, PF.q_asg, PF.q_asg0, PF.q_nx, PF.q_par, PF.q_par1, PF.q_ret, PF.q_ret1, PF.q_retN, PF.q_iff, PF.q_iff1, PF.q_iff2, PF.q_for, PF.q_for1, PF.q_fg0, PF.q_fg1, PF.q_fb, PF.q_f1, PF.q_f2, PF.q_rse, PF.q_es0, PF.q_es1, PF.q_cn, PF.q_cr, PF.q_rk1, PF.q_rk2, PF.q_see1, PF.q_see2, PF.q_see3, PF.q_fz1, PF.q_fz2, PF.q_out1, PF.q_out2, PF.q_out3, PF.q_op, PF.q_add, PF.q_sub, PF.q_isi1, PF.q_isi2, PF.q_isi3, PF.q_isi4, PF.q_isi5, PF.q_asg1, PF.q_asg2, PF.q_put1, PF.q_put2, PF.q_bnm, PF.q_bt0, PF.q_bt1, PF.q_bt2, PF.q_tg1, PF.q_tg2, PF.q_its1, PF.q_its2, PF.q_len1, PF.q_len2, PF.q_bint, PF.q_abs, PF.q_max, PF.q_fld0, PF.q_ctx, PF.q_cgl, PF.q_cwf, PF.q_size, List.map_cons, List.map_nil, Nat.reduceSub, Nat.sub_self, List.replicate, List.append_nil, List.cons_append, List.nil_append, List.length_cons, List.length_nil, List.getElem?_cons_zero, List.getElem?_cons_succ, List.set_cons_zero, List.set_cons_succ, Nat.reduceAdd, Nat.reduceLT, Nat.reduceLeDiff, Int.cast_ofNat_Int, Int.reduceEq, Int.reduceLT, Int.reduceLE, decide_true, decide_false, if_true, Bool.false_eq_true, if_false, Bool.not_true, Bool.not_false, Bool.and_true, Bool.true_and, Bool.or_true, Bool.or_false, Bool.and_self, ite_true, ite_false, cellB, List.length_map, h', hz']
      · exact bits_of_le (bits_add (bits_mul (bits_mul h1 h1) ha) hB) (by decide)
    · have hp : (0 : Int) < ns.length := by omega
      obtain ⟨z, hz2, e⟩ := at_ints (ns := ns) (i := j * 3 % ns.length) (Int.emod_nonneg _ (by omega)) (Int.emod_lt_of_pos _ hp)
      have hz' : ¬ ((ns.length : Nat) : Int) = 0 := by omega
      have hz3 := hb z hz2
      refine ⟨z % 2147483629 * c + j * j * d, fun k => ?_, ?_⟩
      · rw [call_f hf k _ rfl]
        simp -implicitDefEqProofs (maxSteps := 400000) (disch := (first | with_reducible assumption | (with_reducible apply PF.mulOk_of <;> (repeat' (first | with_reducible assumption | with_reducible (apply PyProof.Rows.bits_add) | with_reducible (apply PyProof.Rows.bits_sub) | with_reducible (apply PyProof.Rows.bits_mul) | with_reducible (apply PyProof.Rows.bits_neg) | with_reducible (apply PF.bits_div (by first | omega | decide +kernel)) | with_reducible (apply PF.bits_mod (by first | omega | decide +kernel)) | (with_reducible show _ + _ ≤ 134217728; decide +kernel) | exact Nat.le_refl _))) | ((with_reducible apply PF.lt_len); with_unfolding_all rfl) | omega | decide +kernel)) only [PF.opI_mul, PF.opI_mod, PF.opI_fdiv, PF.ixT0, PF.ixT1, PF.cmp_eq, PF.cmp_ne, PF.cmp_lt, PF.cmp_le, PF.cmp_gt, PF.cmp_ge, PF.cmp_t2, PF.cmp_n2, PF.cmp_tt2, PF.cmp_nt2, PF.isInsT, PF.q_lo, PF.q_s1, PF.q_s2, PF.q_non, PF.q_bl, PF.q_int, PF.q_str, PF.q_gl, PF.q_bin, PF.q_bin1, PF.q_bin2, PF.q_kI, PF.q_kB, PF.q_kIm, PF.q_kFz, PF.q_neg, PF.q_neg1, PF.q_not, PF.q_not1, PF.q_cmp, PF.q_cmp1, PF.q_cmp2, PF.q_isN, PF.q_isN1, PF.q_and, PF.q_and1, PF.q_and2, PF.q_or, PF.q_or1, PF.q_or2, PF.q_ite, PF.q_ite1, PF.q_ite2, PF.q_tup, PF.q_tup1, PF.q_tup2, PF.q_lst, PF.q_lst1, PF.q_lst2, PF.q_ix, PF.q_ix1, PF.q_ix2, PF.q_call, PF.q_call1, PF.q_meth, PF.q_meth1, PF.q_meth2, PF.q_meth3, PF.q_fld, PF.q_fld1, PF.q_blt, PF.q_blt1, PF.q_isi, PF.q_isi0, PF.q_vs0, PF.q_vs1, PF.q_vs2, PF.q_vs3, PF.q_vb0, PF.q_vb1, PF.q_vb2, PF.q_vb3, PF.q_itE, PF.q_itE1, PF.q_it1, PF.q_it2, PF.q_it3, PF.q_asg, PF.q_asg0, PF.q_nx, PF.q_par, PF.q_par1, PF.q_ret, PF.q_ret1, PF.q_retN, PF.q_iff, PF.q_iff1, PF.q_iff2, PF.q_for, PF.q_for1, PF.q_fg0, PF.q_fg1, PF.q_fb, PF.q_f1, PF.q_f2, PF.q_rse, PF.q_es0, PF.q_es1, PF.q_cn, PF.q_cr, PF.q_rk1, PF.q_rk2, PF.q_see1, PF.q_see2, PF.q_see3, PF.q_fz1, PF.q_fz2, PF.q_out1, PF.q_out2, PF.q_out3, PF.q_op, PF.q_add, PF.q_sub, PF.q_isi1, PF.q_isi2, PF.q_isi3, PF.q_isi4, PF.q_isi5, PF.q_asg1, PF.q_asg2, PF.q_put1, PF.q_put2, PF.q_bnm, PF.q_bt0, PF.q_bt1, PF.q_bt2, PF.q_tg1, PF.q_tg2, PF.q_its1, PF.q_its2, PF.q_len1, PF.q_len2, PF.q_bint, PF.q_abs, PF.q_max, PF.q_fld0, PF.q_ctx, PF.q_cgl, PF.q_cwf, PF.q_size, List.map_cons, List.map_nil, Nat.reduceSub, Nat.sub_self, List.replicate, List.append_nil, List.cons_append, List.nil_append, List.length_cons, List.length_nil, List.getElem?_cons_zero, List.getElem?_cons_succ, List.set_cons_zero, List.set_cons_succ, Nat.reduceAdd, Nat.reduceLT, Nat.reduceLeDiff, Int.cast_ofNat_Int, Int.reduceEq, Int.reduceLT, Int.reduceLE, decide_true, decide_false, if_true, Bool.false_eq_true, if_false, Bool.not_true, Bool.not_false, Bool.and_true, Bool.true_and, Bool.or_true, Bool.or_false, Bool.and_self, ite_true, ite_false, cellB, List.length_map, h, hz', ixL_of e]
      · exact bits_of_le (bits_add (bits_mul (bits_mod (by decide) hm1) hc) (bits_mul (bits_mul h1 h1) hd)) (by decide)
end PF

set_option maxHeartbeats 4000000
namespace Zk01
open PySem PySem.Spec PyProof.Rows L2 PySem.HandSPX PF
def topS (i : Nat) : Stmt := PySem.Challenge.pw_inflate_k01_a_frame.main.body.getD i (.Pass ⟨0, 0, 0, 0⟩)
/-- 0 Frame.size -/
abbrev s0 : Stmt := inClass (topS 16) 1
def b0 : List Sm := [.ret (.fld 0 0 (.lo 0))]
def f0 : Fn := ⟨1, 1, b0⟩
/-- 1 _law_cell -/
abbrev s1 : Stmt := topS 18
def b1 : List Sm := [.iff (.cmp .lt (.lo 1) (.blt .len [.lo 0])) [.ret (.ix (.lo 0) (.lo 1))] [], .iff (.cmp .eq (.blt .len [.lo 0]) (.int 0)) [.ret (.bin .add (.bin .mul (.bin .mul (.lo 1) (.lo 1)) (.int 31)) (.int 17))] [], .ret (.bin .add (.bin .mul (.bin .mod (.ix (.lo 0) (.bin .mod (.bin .mul (.lo 1) (.int 3)) (.blt .len [.lo 0]))) (.int 2147483629)) (.int 48271)) (.bin .mul (.bin .mul (.lo 1) (.lo 1)) (.int 7919)))]
def f1 : Fn := ⟨2, 2, b1⟩
/-- 2 _law_size -/
abbrev s2 : Stmt := topS 19
def b2 : List Sm := [.asg (.nm 1) (.non), .trk (.ret (.meth 0 0 (.call 5 [.lo 0]) [])) 2 1 [(0, true)], .asg (.nm 3) (.isxs (.lo 1) [[(0, false)], [(0, false)], [(0, false)], [(0, false)], [(0, false)], [(0, false)], [(0, false)], [(0, false)], [(0, false)], [(0, false)]]), .ret (.tup [.str "refused", .and (.isx (.lo 1) [(0, true)]) (.and (.isx (.lo 1) [(0, true)]) (.not (.lo 3)))])]
def f2 : Fn := ⟨1, 4, b2⟩
/-- 3 _law_good -/
abbrev s3 : Stmt := topS 20
def b3 : List Sm := [.asg (.nm 1) (.call 2 [.lo 0]), .ret (.and (.isi (.lo 1) .int) (.and (.not (.isi (.lo 1) .bool)) (.cmp .eq (.lo 1) (.lo 0))))]
def f3 : Fn := ⟨1, 2, b3⟩
/-- 4 law -/
abbrev s4 : Stmt := topS 21
def b4 : List Sm := [.asg (.nm 1) (.bin .mod (.call 1 [.lo 0, .int 0]) (.int 5)), .asg (.nm 2) (.lst [.int 4, .int 6, .int 8, .int 10, .int 12]), .for_ (.nm 3) (.ex (.bin .add (.sl (.lo 2) (.lo 1) (.non)) (.sl (.lo 2) (.non) (.lo 1)))) [.iff (.not (.call 3 [.lo 3])) [.ret (.bl false)] []], .asg (.nm 4) (.lst [.bin .sub (.bin .mod (.call 1 [.lo 0, .int 1]) (.int 81)) (.int 40), .bin .add (.bin .sub (.bin .mod (.call 1 [.lo 0, .int 2]) (.bin .sub (.bin .mul (.int 2) (.bin .pow (.int 10) (.int 60))) (.int 1))) (.bin .pow (.int 10) (.int 60))) (.int 1)]), .asg (.nm 4) (.bin .add (.lo 4) (.lst [.bin .add (.ix (.lo 2) (.lo 1)) (.int 1), .bin .sub (.ix (.lo 2) (.lo 1)) (.int 1), .neg (.ix (.lo 2) (.lo 1)), .bin .add (.bin .mul (.int 2) (.ix (.lo 2) (.lo 1))) (.int 6), .int 0, .int 2, .int 5, .int 14])), .fre 4, .for_ (.nm 3) (.ex (.lo 4)) [.iff (.and (.isin true (.lo 3) (.lo 2)) (.cmp .ne (.call 2 [.lo 3]) (.tup [.str "refused", .bl true]))) [.ret (.bl false)] []], .asg (.nm 5) (.lst [.non, .bl true, .bl false, .str "4", .str "", .lst [.int 4], .tup [.int 4], .dsp [(4, 4)], .lst [], .tup [], .str "8", .dsp []]), .for_ (.nm 6) (.rng1 (.blt .len [.lo 5])) [.iff (.cmp .ne (.call 2 [.ix (.lo 5) (.bin .mod (.bin .add (.lo 6) (.call 1 [.lo 0, .int 3])) (.blt .len [.lo 5]))]) (.tup [.str "refused", .bl true])) [.ret (.bl false)] []], .ret (.call 3 [.ix (.lo 2) (.bin .mod (.call 1 [.lo 0, .int 4]) (.int 5))])]
def f4 : Fn := ⟨1, 7, b4⟩
/-- Frame.__init__ -/
abbrev sI0 : Stmt := inClass (topS 16) 0
def mI0 : Sm := .iff (.or (.not (.isi (.lo 1) .int)) (.or (.isi (.lo 1) .bool) (.isin true (.lo 1) (.gl 0)))) [.rse 0] []
def tab : PSt where
  fnN := ("_law_cell", 1) :: ("_law_size", 2) :: ("_law_good", 3) :: ("law", 4) :: ("Frame", 5) :: []
  mtN := [("size", 0, 0)]
  glN := [("SIZES", 0)]
  fldN := [("whole_turn", 0, 0)]
  blN := ["len", "abs", "int", "max", "min", "list", "tuple", "sum", "all", "any", "isinstance", "bool", "str", "range"]
  excN := [("NoFrame", 0)]
  isN := [("FloorError", [(0, true)]), ("NoAddress", [(0, false)]), ("NoCut", [(0, false)]), ("NoFill", [(0, false)]), ("NoKind", [(0, false)]), ("NoRow", [(0, false)]), ("NoScale", [(0, false)]), ("NoShape", [(0, false)]), ("NoShares", [(0, false)]), ("NoText", [(0, false)]), ("TooMany", [(0, false)]), ("NoFrame", [(0, true)]), ("ValueError", [(0, true)])]
def gls : Nat → Tr
  | 0 => .tup [.int 4, .int 6, .int 8, .int 10, .int 12]
  | _ => .non
def CF (i : Int) : Bool := (4 : Int) == i || ((6 : Int) == i || ((8 : Int) == i || ((10 : Int) == i || ((12 : Int) == i || false))))
def gF : Tr → Oc Tr := fun t => match t with
  | .int i => if !CF i then .ex 0 else .ok (.int i)
  | .ins _ _ => .no | .dct _ _ => .no | .raw _ => .no | .err _ => .no | _ => .ex 0
def defs : Nat → Option Def
  | 0 => some (.fn f0)
  | 1 => some (.fn f1)
  | 2 => some (.fn f2)
  | 3 => some (.fn f3)
  | 4 => some (.fn f4)
  | 5 => some (.nat 2 (mk1 0 gF))
  | _ => none
def Q : Pg := ⟨defs, gls, 5000⟩
/-! ### the looks -/
theorem k0 : fnChk tab s0 ["self"] ["self"] f0 = true := by decide +kernel
theorem k1 : fnChk tab s1 ["_law_script", "_law_k"] ["_law_script", "_law_k"] f1 = true := by decide +kernel
theorem k2 : fnChk tab s2 ["_law_m", "_law_kept", "error", "_law_others"] ["_law_m"] f2 = true := by decide +kernel
theorem k3 : fnChk tab s3 ["_law_m", "_law_found"] ["_law_m"] f3 = true := by decide +kernel
theorem k4 : fnChk tab s4 ["_law_script", "_law_turn", "_law_some", "_law_m", "_law_whole", "_law_things", "_law_k"] ["_law_script"] f4 = true := by decide +kernel
theorem mI0_ok {k : Nat} {a : Addr} {t : Tr} : exec (Q.ctx k) mI0 [.im (.raw a), .im t] = (gF t >>= fun t' => .ok (.nx [.im (.raw a), .im t'])) := by
  cases t <;> first | rfl | skip
  rename_i i
  show (if (!CF i) = true then Oc.ex 0 else Oc.ok (Fl.nx [Sl.im (.raw a), Sl.im (.int i)])) = ((if (!CF i) = true then Oc.ex 0 else Oc.ok (Tr.int i)) >>= fun t' => Oc.ok (Fl.nx [Sl.im (.raw a), Sl.im t']))
  cases CF i <;> rfl
theorem facts {w : World} {K : PySem.W.Frag} {h : Heap} {mg : Str → Option Value} {fa : Addr} (X : K.In h) (G : h.Ns mainGlobals mg) (hfa : mg "law" = some (.ref fa))
    {a0 : Addr} {od0 an0 : Option Addr} {sl0 : Array (Option Value)} {oc0 kV0 dc0 pm0 cd0 ct0 : Value} {a1 : Addr} {od1 an1 : Option Addr} {sl1 : Array (Option Value)} {oc1 kV1 dc1 pm1 cd1 ct1 : Value} {a2 : Addr} {od2 an2 : Option Addr} {sl2 : Array (Option Value)} {oc2 kV2 dc2 pm2 cd2 ct2 : Value} {a3 : Addr} {od3 an3 : Option Addr} {sl3 : Array (Option Value)} {oc3 kV3 dc3 pm3 cd3 ct3 : Value} {a4 : Addr} {od4 an4 : Option Addr} {sl4 : Array (Option Value)} {oc4 kV4 dc4 pm4 cd4 ct4 : Value} {C0 aI0 : Addr} {odI0 anI0 : Option Addr} {slI0 : Array (Option Value)} {ocI0 kVI0 dcI0 pmI0 cdI0 ctI0 : Value} {tk2 : Tok} {tk3 : Tok} {tk4 : Tok} {tk5 : Tok} {tk6 : Tok} {q1 n1 : Nat} {dd1 : Option Addr} {ss1 : Array (Option Value)} {E0 : Addr} {D0 : Addr} {D1 : Addr} {D2 : Addr} {D3 : Addr} {D4 : Addr} {D5 : Addr} {D6 : Addr} {D7 : Addr} {D8 : Addr} {D9 : Addr} {D10 : Addr}
    (xC0 : PySem.W.nsIn K mainGlobals "Frame" = some (some (.ref C0)))
    (xI0 : PySem.W.findIn K (.ref C0) "__init__" = some (some (.ref aI0)))
    (iI0 : PySem.W.isFn K (.ref aI0) = true)
    (lI0 : K.lookup aI0 = some ⟨ocI0, odI0, .func (PySem.W.fnOf "__init__" "Frame.__init__" (defArgs sI0) (defBody sI0) (defScope sI0) .none kVI0 dcI0 pmI0 anI0 cdI0 ctI0), slI0⟩)
    (cI0 : PySem.W.codeIn K cdI0 "Frame.__init__" = true)
    (kI0 : PySem.W.keepIn K (.ref aI0) = true)
    (pg0 : PySem.W.plainGet K C0 Str.empty = true)
    (hd0 : PySem.W.hasDictIn K C0 = true)
    (po0 : PySem.W.plainOver K C0 = true)
    (sa0 : PySem.W.findIn K (.ref C0) "__setattr__" = some (some (.builtin "object.__setattr__")))
    (mk0 : PySem.W.makesIn K C0 = true)
    (kC0 : PySem.W.keepIn K (.ref C0) = true)
    (nf0_0 : PySem.W.findIn K (.ref C0) "whole_turn" = some none)
    (x0 : PySem.W.findIn K (.ref C0) "size" = some (some (.ref a0)))
    (i0 : PySem.W.isFn K (.ref a0) = true)
    (l0 : K.lookup a0 = some ⟨oc0, od0, .func (PySem.W.fnOf "size" "Frame.size" (defArgs s0) (defBody s0) (defScope s0) .none kV0 dc0 pm0 an0 cd0 ct0), sl0⟩)
    (c0 : PySem.W.codeIn K cd0 "Frame.size" = true)
    (k0_ : PySem.W.keepIn K (.ref a0) = true)
    (x1 : PySem.W.nsIn K mainGlobals "_law_cell" = some (some (.ref a1)))
    (l1 : K.lookup a1 = some ⟨oc1, od1, .func (PySem.W.fnOf "_law_cell" "_law_cell" (defArgs s1) (defBody s1) (defScope s1) .none kV1 dc1 pm1 an1 cd1 ct1), sl1⟩)
    (c1 : PySem.W.codeIn K cd1 "_law_cell" = true)
    (k1_ : PySem.W.keepIn K (.ref a1) = true)
    (x2 : PySem.W.nsIn K mainGlobals "_law_size" = some (some (.ref a2)))
    (l2 : K.lookup a2 = some ⟨oc2, od2, .func (PySem.W.fnOf "_law_size" "_law_size" (defArgs s2) (defBody s2) (defScope s2) .none kV2 dc2 pm2 an2 cd2 ct2), sl2⟩)
    (c2 : PySem.W.codeIn K cd2 "_law_size" = true)
    (k2_ : PySem.W.keepIn K (.ref a2) = true)
    (x3 : PySem.W.nsIn K mainGlobals "_law_good" = some (some (.ref a3)))
    (l3 : K.lookup a3 = some ⟨oc3, od3, .func (PySem.W.fnOf "_law_good" "_law_good" (defArgs s3) (defBody s3) (defScope s3) .none kV3 dc3 pm3 an3 cd3 ct3), sl3⟩)
    (c3 : PySem.W.codeIn K cd3 "_law_good" = true)
    (k3_ : PySem.W.keepIn K (.ref a3) = true)
    (x4 : PySem.W.nsIn K mainGlobals "law" = some (some (.ref a4)))
    (l4 : K.lookup a4 = some ⟨oc4, od4, .func (PySem.W.fnOf "law" "law" (defArgs s4) (defBody s4) (defScope s4) .none kV4 dc4 pm4 an4 cd4 ct4), sl4⟩)
    (c4 : PySem.W.codeIn K cd4 "law" = true)
    (k4_ : PySem.W.keepIn K (.ref a4) = true)
    (lq1 : K.lookup q1 = some ⟨.type "tuple", dd1, .seq #[.int 4 tk2, .int 6 tk3, .int 8 tk4, .int 10 tk5, .int 12 tk6] n1, ss1⟩)
    (g0 : PySem.W.nsIn K mainGlobals "SIZES" = some (some (.ref q1)))
    (xE0 : PySem.W.nsIn K mainGlobals "NoFrame" = some (some (.ref E0)))
    (eE0 : PySem.W.excIn K E0 veTail "ValueError.__new__" = true)
    (kE0 : PySem.W.keepIn K (.ref E0) = true)
    (bE0 : PySem.W.subIn K (.ref E0) (.type "BaseException") = some true)
    (tE0 : PySem.W.typeIn K (.ref E0) = some (.type "type"))
    (z0 : PySem.W.nsIn K mainGlobals "len" = some none)
    (z1 : PySem.W.nsIn K mainGlobals "abs" = some none)
    (z2 : PySem.W.nsIn K mainGlobals "int" = some none)
    (z3 : PySem.W.nsIn K mainGlobals "max" = some none)
    (z4 : PySem.W.nsIn K mainGlobals "min" = some none)
    (z5 : PySem.W.nsIn K mainGlobals "list" = some none)
    (z6 : PySem.W.nsIn K mainGlobals "tuple" = some none)
    (z7 : PySem.W.nsIn K mainGlobals "sum" = some none)
    (z8 : PySem.W.nsIn K mainGlobals "all" = some none)
    (z9 : PySem.W.nsIn K mainGlobals "any" = some none)
    (z10 : PySem.W.nsIn K mainGlobals "isinstance" = some none)
    (z11 : PySem.W.nsIn K mainGlobals "bool" = some none)
    (z12 : PySem.W.nsIn K mainGlobals "str" = some none)
    (z13 : PySem.W.nsIn K mainGlobals "range" = some none)
    (hN : PySem.W.specialIn K (.builtin "object.__class__") "__get__" = some (some (.builtin "getset_descriptor.__get__")))
    (hT : PySem.W.takesIn K (.builtin "object.__class__") = some true)
    (hg0 : PySem.W.findIn K (.ref E0) "__getattribute__" = some (some (.builtin "BaseException.__getattribute__")))
    (hk0 : PySem.W.findIn K (.ref E0) "__getattr__" = some none)
    (hD0 : PySem.W.hasDictIn K E0 = true)
    (ha0 : PySem.W.findIn K (.ref E0) "__class__" = some (some (.builtin "object.__class__")))
    (hm0 : PySem.W.mroIn K E0 (.type "object") = some true)
    (xD0 : PySem.W.nsIn K mainGlobals "FloorError" = some (some (.ref D0)))
    (u0 : PySem.W.kitOne K (.type "NoneType") (.ref D0) = some false)
    (u0_0 : PySem.W.kitOne K (.ref E0) (.ref D0) = some true)
    (v0_0 : PySem.W.exmOne K (.ref E0) (.ref D0) = some true)
    (xD1 : PySem.W.nsIn K mainGlobals "NoAddress" = some (some (.ref D1)))
    (u1 : PySem.W.kitOne K (.type "NoneType") (.ref D1) = some false)
    (u1_0 : PySem.W.kitOne K (.ref E0) (.ref D1) = some false)
    (v1_0 : PySem.W.exmOne K (.ref E0) (.ref D1) = some false)
    (xD2 : PySem.W.nsIn K mainGlobals "NoCut" = some (some (.ref D2)))
    (u2 : PySem.W.kitOne K (.type "NoneType") (.ref D2) = some false)
    (u2_0 : PySem.W.kitOne K (.ref E0) (.ref D2) = some false)
    (v2_0 : PySem.W.exmOne K (.ref E0) (.ref D2) = some false)
    (xD3 : PySem.W.nsIn K mainGlobals "NoFill" = some (some (.ref D3)))
    (u3 : PySem.W.kitOne K (.type "NoneType") (.ref D3) = some false)
    (u3_0 : PySem.W.kitOne K (.ref E0) (.ref D3) = some false)
    (v3_0 : PySem.W.exmOne K (.ref E0) (.ref D3) = some false)
    (xD4 : PySem.W.nsIn K mainGlobals "NoKind" = some (some (.ref D4)))
    (u4 : PySem.W.kitOne K (.type "NoneType") (.ref D4) = some false)
    (u4_0 : PySem.W.kitOne K (.ref E0) (.ref D4) = some false)
    (v4_0 : PySem.W.exmOne K (.ref E0) (.ref D4) = some false)
    (xD5 : PySem.W.nsIn K mainGlobals "NoRow" = some (some (.ref D5)))
    (u5 : PySem.W.kitOne K (.type "NoneType") (.ref D5) = some false)
    (u5_0 : PySem.W.kitOne K (.ref E0) (.ref D5) = some false)
    (v5_0 : PySem.W.exmOne K (.ref E0) (.ref D5) = some false)
    (xD6 : PySem.W.nsIn K mainGlobals "NoScale" = some (some (.ref D6)))
    (u6 : PySem.W.kitOne K (.type "NoneType") (.ref D6) = some false)
    (u6_0 : PySem.W.kitOne K (.ref E0) (.ref D6) = some false)
    (v6_0 : PySem.W.exmOne K (.ref E0) (.ref D6) = some false)
    (xD7 : PySem.W.nsIn K mainGlobals "NoShape" = some (some (.ref D7)))
    (u7 : PySem.W.kitOne K (.type "NoneType") (.ref D7) = some false)
    (u7_0 : PySem.W.kitOne K (.ref E0) (.ref D7) = some false)
    (v7_0 : PySem.W.exmOne K (.ref E0) (.ref D7) = some false)
    (xD8 : PySem.W.nsIn K mainGlobals "NoShares" = some (some (.ref D8)))
    (u8 : PySem.W.kitOne K (.type "NoneType") (.ref D8) = some false)
    (u8_0 : PySem.W.kitOne K (.ref E0) (.ref D8) = some false)
    (v8_0 : PySem.W.exmOne K (.ref E0) (.ref D8) = some false)
    (xD9 : PySem.W.nsIn K mainGlobals "NoText" = some (some (.ref D9)))
    (u9 : PySem.W.kitOne K (.type "NoneType") (.ref D9) = some false)
    (u9_0 : PySem.W.kitOne K (.ref E0) (.ref D9) = some false)
    (v9_0 : PySem.W.exmOne K (.ref E0) (.ref D9) = some false)
    (xD10 : PySem.W.nsIn K mainGlobals "TooMany" = some (some (.ref D10)))
    (u10 : PySem.W.kitOne K (.type "NoneType") (.ref D10) = some false)
    (u10_0 : PySem.W.kitOne K (.ref E0) (.ref D10) = some false)
    (v10_0 : PySem.W.exmOne K (.ref E0) (.ref D10) = some false)
    (u11 : PySem.W.kitOne K (.type "NoneType") (.ref E0) = some false)
    (u11_0 : PySem.W.kitOne K (.ref E0) (.ref E0) = some true)
    (v11_0 : PySem.W.exmOne K (.ref E0) (.ref E0) = some true)
    (xD12 : PySem.W.nsIn K mainGlobals "ValueError" = some none)
    (u12 : PySem.W.kitOne K (.type "NoneType") (.type "ValueError") = some false)
    (u12_0 : PySem.W.kitOne K (.ref E0) (.type "ValueError") = some true)
    (v12_0 : PySem.W.exmOne K (.ref E0) (.type "ValueError") = some true)
    (kt : Nat) (top : ∀ ns : List Int, ns.length ≤ 63 → (∀ z ∈ ns, Builtin.Int.intBits z ≤ 1048576) → callK Q (kt + 1) 4 [.lst (ns.map Tr.int)] = .ok (.im (.bl true))) :
    ∃ fd : FuncData, (∀ (s : Shared) (v : Value), BindsTo s fd ⟨[v], []⟩ [("_law_script", v)]) ∧ ∀ base : Heap, K.In base → base.Ns mainGlobals mg → FnOk PySem.Challenge.pw_inflate_k01_a_frame w K mg base (L2.CX PySem.Challenge.pw_inflate_k01_a_frame w) (kt + 1) fa fd ["_law_script"] (spLaw K) := by
  have e := hfa.symm.trans (PySem.W.mg_of X G x4)
  cases e
  have F0 := fun_mk (st := s0) l0 c0 k0_
  have B0 := F0.binds (ps := ["self"]) (fun _ _ _ _ _ _ us hl => match us, hl with | [_], _ => rfl)
  have F1 := fun_mk (st := s1) l1 c1 k1_
  have B1 := F1.binds (ps := ["_law_script", "_law_k"]) (fun _ _ _ _ _ _ us hl => match us, hl with | [_, _], _ => rfl)
  have F2 := fun_mk (st := s2) l2 c2 k2_
  have B2 := F2.binds (ps := ["_law_m"]) (fun _ _ _ _ _ _ us hl => match us, hl with | [_], _ => rfl)
  have F3 := fun_mk (st := s3) l3 c3 k3_
  have B3 := F3.binds (ps := ["_law_m"]) (fun _ _ _ _ _ _ us hl => match us, hl with | [_], _ => rfl)
  have F4 := fun_mk (st := s4) l4 c4 k4_
  have B4 := F4.binds (ps := ["_law_script"]) (fun _ _ _ _ _ _ us hl => match us, hl with | [_], _ => rfl)
  have FI0 := fun_mk (st := sI0) lI0 cI0 kI0
  have BI0 := FI0.binds (ps := ["self", "m"]) (fun _ _ _ _ _ _ us hl => match us, hl with | [_, _], _ => rfl)
  have cl0 : Cls K C0 := ⟨pg0, hd0, po0, sa0⟩
  refine ⟨PySem.W.fnOf "law" "law" (defArgs s4) (defBody s4) (defScope s4) .none kV4 dc4 pm4 an4 cd4 ct4, fun s v => .of_eq rfl, fun base hKb hGb => ?_⟩
  have gl : AllL (fun x g => ∃ u v, mg x = some u ∧ RelV v u ∧ ∀ G0, Rep ⟨K, w, fun c => [C0].getD c 0, fun c => ([["whole_turn"]] : List (List Str)).getD c [], fun c => [E0].getD c 0⟩ G0 v (Q.gl g)) tab.glN := ⟨⟨_, V.ref q1, PySem.W.mg_of X G g0, rv_ref, fun _ => (.tup (vs := [V.int 4, V.int 6, V.int 8, V.int 10, V.int 12]) (.inr ⟨_, _, _, lq1, rfl, rfl, by show 5 ≤ sizeLine; decide, .cons rv_int (.cons rv_int (.cons rv_int (.cons rv_int (.cons rv_int (.nil)))))⟩) (.cons (.int _) (.cons (.int _) (.cons (.int _) (.cons (.int _) (.cons (.int _) (.nil)))))))⟩, trivial⟩
  have bl : ∀ x, x ∈ tab.blN → mg x = none := allM ⟨PySem.W.mg_none_of X G z0, PySem.W.mg_none_of X G z1, PySem.W.mg_none_of X G z2, PySem.W.mg_none_of X G z3, PySem.W.mg_none_of X G z4, PySem.W.mg_none_of X G z5, PySem.W.mg_none_of X G z6, PySem.W.mg_none_of X G z7, PySem.W.mg_none_of X G z8, PySem.W.mg_none_of X G z9, PySem.W.mg_none_of X G z10, PySem.W.mg_none_of X G z11, PySem.W.mg_none_of X G z12, PySem.W.mg_none_of X G z13, trivial⟩
  have xc : AllL (fun x c => mg x = some (.ref ((⟨K, w, fun c => [C0].getD c 0, fun c => ([["whole_turn"]] : List (List Str)).getD c [], fun c => [E0].getD c 0⟩ : Uni).exc c)) ∧ PySem.W.excIn K ((⟨K, w, fun c => [C0].getD c 0, fun c => ([["whole_turn"]] : List (List Str)).getD c [], fun c => [E0].getD c 0⟩ : Uni).exc c) veTail "ValueError.__new__" = true ∧ PySem.W.keepIn K (.ref ((⟨K, w, fun c => [C0].getD c 0, fun c => ([["whole_turn"]] : List (List Str)).getD c [], fun c => [E0].getD c 0⟩ : Uni).exc c)) = true ∧ PySem.W.subIn K (.ref ((⟨K, w, fun c => [C0].getD c 0, fun c => ([["whole_turn"]] : List (List Str)).getD c [], fun c => [E0].getD c 0⟩ : Uni).exc c)) (.type "BaseException") = some true ∧ PySem.W.typeIn K (.ref ((⟨K, w, fun c => [C0].getD c 0, fun c => ([["whole_turn"]] : List (List Str)).getD c [], fun c => [E0].getD c 0⟩ : Uni).exc c)) = some (.type "type")) tab.excN := ⟨⟨PySem.W.mg_of X G xE0, eE0, kE0, bE0, tE0⟩, trivial⟩
  have ix : AllL (fun x tb => ClsFx K (⟨K, w, fun c => [C0].getD c 0, fun c => ([["whole_turn"]] : List (List Str)).getD c [], fun c => [E0].getD c 0⟩ : Uni).exc mg x tb) tab.isN := ⟨⟨⟨.ref D0, .ref D0, .own _, rfl, .inl (PySem.W.mg_of X G xD0), u0, allT ⟨⟨⟨hg0, hk0, bE0, hD0, ha0, hN, hT, hm0⟩, u0_0, v0_0⟩, trivial⟩⟩⟩, ⟨⟨.ref D1, .ref D1, .own _, rfl, .inl (PySem.W.mg_of X G xD1), u1, allT ⟨⟨⟨hg0, hk0, bE0, hD0, ha0, hN, hT, hm0⟩, u1_0, v1_0⟩, trivial⟩⟩⟩, ⟨⟨.ref D2, .ref D2, .own _, rfl, .inl (PySem.W.mg_of X G xD2), u2, allT ⟨⟨⟨hg0, hk0, bE0, hD0, ha0, hN, hT, hm0⟩, u2_0, v2_0⟩, trivial⟩⟩⟩, ⟨⟨.ref D3, .ref D3, .own _, rfl, .inl (PySem.W.mg_of X G xD3), u3, allT ⟨⟨⟨hg0, hk0, bE0, hD0, ha0, hN, hT, hm0⟩, u3_0, v3_0⟩, trivial⟩⟩⟩, ⟨⟨.ref D4, .ref D4, .own _, rfl, .inl (PySem.W.mg_of X G xD4), u4, allT ⟨⟨⟨hg0, hk0, bE0, hD0, ha0, hN, hT, hm0⟩, u4_0, v4_0⟩, trivial⟩⟩⟩, ⟨⟨.ref D5, .ref D5, .own _, rfl, .inl (PySem.W.mg_of X G xD5), u5, allT ⟨⟨⟨hg0, hk0, bE0, hD0, ha0, hN, hT, hm0⟩, u5_0, v5_0⟩, trivial⟩⟩⟩, ⟨⟨.ref D6, .ref D6, .own _, rfl, .inl (PySem.W.mg_of X G xD6), u6, allT ⟨⟨⟨hg0, hk0, bE0, hD0, ha0, hN, hT, hm0⟩, u6_0, v6_0⟩, trivial⟩⟩⟩, ⟨⟨.ref D7, .ref D7, .own _, rfl, .inl (PySem.W.mg_of X G xD7), u7, allT ⟨⟨⟨hg0, hk0, bE0, hD0, ha0, hN, hT, hm0⟩, u7_0, v7_0⟩, trivial⟩⟩⟩, ⟨⟨.ref D8, .ref D8, .own _, rfl, .inl (PySem.W.mg_of X G xD8), u8, allT ⟨⟨⟨hg0, hk0, bE0, hD0, ha0, hN, hT, hm0⟩, u8_0, v8_0⟩, trivial⟩⟩⟩, ⟨⟨.ref D9, .ref D9, .own _, rfl, .inl (PySem.W.mg_of X G xD9), u9, allT ⟨⟨⟨hg0, hk0, bE0, hD0, ha0, hN, hT, hm0⟩, u9_0, v9_0⟩, trivial⟩⟩⟩, ⟨⟨.ref D10, .ref D10, .own _, rfl, .inl (PySem.W.mg_of X G xD10), u10, allT ⟨⟨⟨hg0, hk0, bE0, hD0, ha0, hN, hT, hm0⟩, u10_0, v10_0⟩, trivial⟩⟩⟩, ⟨⟨.ref E0, .ref E0, .own _, rfl, .inl (PySem.W.mg_of X G xE0), u11, allT ⟨⟨⟨hg0, hk0, bE0, hD0, ha0, hN, hT, hm0⟩, u11_0, v11_0⟩, trivial⟩⟩⟩, ⟨⟨.ty "ValueError", .type "ValueError", .ty _, rfl, .inr ⟨PySem.W.mg_none_of X G xD12, by decide +kernel, by decide⟩, u12, allT ⟨⟨⟨hg0, hk0, bE0, hD0, ha0, hN, hT, hm0⟩, u12_0, v12_0⟩, trivial⟩⟩⟩, trivial⟩
  have h0 : Wh { tab with fnN := [], mtN := [], fldN := [] } Q ⟨K, w, fun c => [C0].getD c 0, fun c => ([["whole_turn"]] : List (List Str)).getD c [], fun c => [E0].getD c 0⟩ PySem.Challenge.pw_inflate_k01_a_frame w K mg base := ⟨rfl, (fun _ _ h => by cases h), (fun _ _ _ h => by cases h), (fun _ _ _ h => by cases h), allL gl, bl, fun X a => dct_ok a.K, allL xc, allL ix⟩
  have Z0 : FnFact tab Q K 0 _ _ := ⟨⟨_, _, s0, _, _, f0, rfl, F0, B0, k0, by decide⟩⟩
  have Z1 : FnFact tab Q K 1 _ _ := ⟨⟨_, _, s1, _, _, f1, rfl, F1, B1, k1, by decide⟩⟩
  have Z2 : FnFact tab Q K 2 _ _ := ⟨⟨_, _, s2, _, _, f2, rfl, F2, B2, k2, by decide⟩⟩
  have Z3 : FnFact tab Q K 3 _ _ := ⟨⟨_, _, s3, _, _, f3, rfl, F3, B3, k3, by decide⟩⟩
  have Z4 : FnFact tab Q K 4 _ _ := ⟨⟨_, _, s4, _, _, f4, rfl, F4, B4, k4, by decide⟩⟩
  have II0 : ∀ k, FnOk PySem.Challenge.pw_inflate_k01_a_frame w K mg base (L2.CX PySem.Challenge.pw_inflate_k01_a_frame w) (k + 1) aI0 _ ["self", "m"] (spI ⟨K, w, fun c => [C0].getD c 0, fun c => ([["whole_turn"]] : List (List Str)).getD c [], fun c => [E0].getD c 0⟩ 0 gF "whole_turn") := fun k => init_ok (c := 0) (m := mI0) (all_levels h0 k).1 FI0 (scopeC_ok (by decide +kernel)) rfl (by decide +kernel) (by decide +kernel) (by decide +kernel) (fun a t => mI0_ok) cl0 nf0_0
  have h1 : Wh tab Q ⟨K, w, fun c => [C0].getD c 0, fun c => ([["whole_turn"]] : List (List Str)).getD c [], fun c => [E0].getD c 0⟩ PySem.Challenge.pw_inflate_k01_a_frame w K mg base := ⟨rfl, allL ⟨.inl ⟨_, _, PySem.W.mg_of X G x1, Z1⟩, .inl ⟨_, _, PySem.W.mg_of X G x2, Z2⟩, .inl ⟨_, _, PySem.W.mg_of X G x3, Z3⟩, .inl ⟨_, _, PySem.W.mg_of X G x4, Z4⟩, .inr ⟨_, PySem.W.mg_of X G xC0, fun k X W a tk hr _ => callable_cls (U := ⟨K, w, fun c => [C0].getD c 0, fun c => ([["whole_turn"]] : List (List Str)).getD c [], fun c => [E0].getD c 0⟩) (c := 0) ⟨mk0, xI0, iI0, kC0⟩ BI0 II0 rfl rfl a tk hr⟩, trivial⟩, allL2 ⟨⟨_, _, Z0, cl0, ⟨x0, i0, k0_⟩, by show ("size" : Str) ∉ (["whole_turn"] : List Str); decide +kernel⟩, trivial⟩, allL2 ⟨⟨cl0, nf0_0, rfl, by show (["whole_turn"] : List Str).Nodup; decide +kernel⟩, trivial⟩, allL gl, bl, fun X a => dct_ok a.K, allL xc, allL ix⟩
  exact law_ok (U := ⟨K, w, fun c => [C0].getD c 0, fun c => ([["whole_turn"]] : List (List Str)).getD c [], fun c => [E0].getD c 0⟩) (fn_level (all_levels h1 kt).1 F4 rfl k4 (by decide)) rfl top
end Zk01

set_option maxHeartbeats 4000000
namespace Zk01
open PySem PySem.Spec PyProof.Rows L2 PySem.HandSPX PF
open Builtin.Int (intBits)
def KT : Nat := 11
theorem cell {ns : List Int} (hb : ∀ z ∈ ns, intBits z ≤ 1048576) (j : Int) (h0 : 0 ≤ j) (h1 : intBits j ≤ 64) : ∃ z, (∀ k, callK Q (k + 1) 1 [.lst (ns.map Tr.int), .int j] = .ok (.im (.int z))) ∧ intBits z ≤ 1048600 :=
  cell_gen (a := 31) (b := 17) (c := 48271) (d := 7919) rfl (by decide) (by decide) (by decide) (by decide) hb j h0 h1
def refu : Tr := .tup [.str "refused", .bl true]
def five : List Tr := [.int 4, .int 6, .int 8, .int 10, .int 12]
theorem refu_ne : cmpE .ne refu refu = .ok false := by
  have d : refu.toD = some (.tuple [.str "refused", .bool true]) := by
    have : PyData.strOk "refused" = true := by decide +kernel
    unfold refu
    simp [Tr.toD, Tr.toDs, this]
  have e : refu.eq refu = .ok true := by
    unfold Tr.eq
    rw [d]
    show (if _ then _ else _) = _
    rw [if_pos (by decide +kernel)]
    exact congrArg Oc.ok (by decide +kernel)
  show (refu.eq refu >>= fun b => Oc.ok (!b)) = _
  rw [e]
  rfl
theorem size_bad {k : Nat} {t : Tr} (h : gF t = .ex 0) : callK Q (k + 3) 2 [t] = .ok (.im refu) := by
  have e : callK Q (k + 2) 5 [t] = .ex 0 := by
    show (if 2 ≤ k + 2 then ((gF t >>= fun t' => Oc.ok (Rs.im (.ins 0 [t']))) >>= fun r => Oc.ok r.out) else .no) = _
    rw [if_pos (by omega), h]
    rfl
  have e2 : ev (Q.ctx (k + 2)) (.meth 0 0 (.call 5 [.lo 0]) []) [.im t, .im .non, .un, .un] = .ex 0 := by
    show ((callK Q (k + 2) 5 [t] >>= Rs.fz) >>= fun t => if isIns 0 t then evs (Q.ctx (k + 2)) [] _ >>= fun ts => callK Q (k + 2) 0 (t :: ts) else .no) = _
    rw [e]
    rfl
  rw [call_f (f := f2) rfl (k + 2) _ rfl]
  show kEnd (execs (Q.ctx (k + 2)) (.asg (.nm 1) .non :: .trk (.ret (.meth 0 0 (.call 5 [.lo 0]) [])) 2 1 [(0, true)] :: b2.drop 2) [.im t, .un, .un, .un]) = _
  show kEnd (kCont (Q.ctx (k + 2)) (b2.drop 2) (trkR 2 1 [(0, true)] [.im t, .im .non, .un, .un] (kRet (ev (Q.ctx (k + 2)) (.meth 0 0 (.call 5 [.lo 0]) []) [.im t, .im .non, .un, .un])))) = _
  rw [e2]
  rfl
theorem size_good {k : Nat} {i : Int} (h : CF i = true) : callK Q (k + 3) 2 [.int i] = .ok (.im (.int i)) := by
  have e : callK Q (k + 2) 5 [.int i] = .ok (.im (.ins 0 [.int i])) := by
    show (if 2 ≤ k + 2 then (((if !CF i then Oc.ex 0 else Oc.ok (Tr.int i)) >>= fun t' => Oc.ok (Rs.im (.ins 0 [t']))) >>= fun r => Oc.ok r.out) else .no) = _
    rw [if_pos (by omega), h]
    rfl
  have e2 : ev (Q.ctx (k + 2)) (.meth 0 0 (.call 5 [.lo 0]) []) [.im (.int i), .im .non, .un, .un] = .ok (.im (.int i)) := by
    show ((callK Q (k + 2) 5 [.int i] >>= Rs.fz) >>= fun t => if isIns 0 t then evs (Q.ctx (k + 2)) [] _ >>= fun ts => callK Q (k + 2) 0 (t :: ts) else .no) = _
    rw [e]
    rfl
  rw [call_f (f := f2) rfl (k + 2) _ rfl]
  show kEnd (kCont (Q.ctx (k + 2)) (b2.drop 2) (trkR 2 1 [(0, true)] [.im (.int i), .im .non, .un, .un] (kRet (ev (Q.ctx (k + 2)) (.meth 0 0 (.call 5 [.lo 0]) []) [.im (.int i), .im .non, .un, .un])))) = _
  rw [e2]
  rfl
theorem good {k : Nat} {i : Int} (h : CF i = true) : callK Q (k + 4) 3 [.int i] = .ok (.im (.bl true)) := by
  have e := size_good (k := k) h
  rw [call_f (f := f3) rfl (k + 3) _ rfl]
  simp -implicitDefEqProofs (maxSteps := 400000) (disch := (first | with_reducible assumption | (with_reducible apply PF.mulOk_of <;> (repeat' (first | with_reducible assumption | with_reducible (apply PyProof.Rows.bits_add) | with_reducible (apply PyProof.Rows.bits_sub) | with_reducible (apply PyProof.Rows.bits_mul) | with_reducible (apply PyProof.Rows.bits_neg) | with_reducible (apply PF.bits_div (by first | omega | decide +kernel)) | with_reducible (apply PF.bits_mod (by first | omega | decide +kernel)) | (with_reducible show _ + _ ≤ 134217728; decide +kernel) | exact Nat.le_refl _))) | ((with_reducible apply PF.lt_len); with_unfolding_all rfl) | omega | decide +kernel)) only [PF.opI_mul, PF.opI_mod, PF.opI_fdiv, PF.ixT0, PF.ixT1, PF.cmp_eq, PF.cmp_ne, PF.cmp_lt, PF.cmp_le, PF.cmp_gt, PF.cmp_ge, PF.cmp_t2, PF.cmp_n2, PF.cmp_tt2, PF.cmp_nt2, PF.isInsT, PF.q_lo, PF.q_s1, PF.q_s2, PF.q_non, PF.q_bl, PF.q_int, PF.q_str, PF.q_gl, PF.q_bin, PF.q_bin1, PF.q_bin2, PF.q_kI, PF.q_kB, PF.q_kIm, PF.q_kFz, PF.q_neg, PF.q_neg1, PF.q_not, PF.q_not1, PF.q_cmp, PF.q_cmp1, PF.q_cmp2, PF.q_isN, PF.q_isN1, PF.q_and, PF.q_and1, PF.q_and2, PF.q_or, PF.q_or1, PF.q_or2, PF.q_ite, PF.q_ite1, PF.q_ite2, PF.q_tup, PF.q_tup1, PF.q_tup2, PF.q_lst, PF.q_lst1, PF.q_lst2, PF.q_ix, PF.q_ix1, PF.q_ix2, PF.q_call, PF.q_call1, PF.q_meth, PF.q_meth1, PF.q_meth2, PF.q_meth3, PF.q_fld, PF.q_fld1, PF.q_blt, PF.q_blt1, PF.q_isi, PF.q_isi0, PF.q_vs0, PF.q_vs1, PF.q_vs2, PF.q_vs3, PF.q_vb0, PF.q_vb1, PF.q_vb2, PF.q_vb3, PF.q_itE, PF.q_itE1, PF.q_it1, PF.q_it2, PF.q_it3, PF.q_asg, PF.q_asg0, PF.q_nx, PF.q_par, PF.q_par1, PF.q_ret, PF.q_ret1, PF.q_retN, PF.q_iff, PF.q_iff1, PF.q_iff2, PF.q_for, PF.q_for1, PF.q_fg0, PF.q_fg1, PF.q_fb, PF.q_f1, PF.q_f2, PF.q_rse, PF.q_es0, PF.q_es1, PF.q_cn, PF.q_cr, PF.q_rk1, PF.q_rk2, PF.q_see1, PF.q_see2, PF.q_see3, PF.q_fz1, PF.q_fz2, PF.q_out1, PF.q_out2, PF.q_out3, PF.q_op, PF.q_add, PF.q_sub, PF.q_isi1, PF.q_isi2, PF.q_isi3, PF.q_isi4, PF.q_isi5, PF.q_asg1, PF.q_asg2, PF.q_put1, PF.q_put2, PF.q_bnm, PF.q_bt0, PF.q_bt1, PF.q_bt2, PF.q_tg1, PF.q_tg2, PF.q_its1, PF.q_its2, PF.q_len1, PF.q_len2, PF.q_bint, PF.q_fld0, PF.q_ctx, PF.q_cgl, PF.q_cwf, PF.q_size, List.map_cons, List.map_nil, Nat.reduceSub, Nat.sub_self, List.replicate, List.append_nil, List.cons_append, List.nil_append, List.length_cons, List.length_nil, List.getElem?_cons_zero, List.getElem?_cons_succ, List.set_cons_zero, List.set_cons_succ, Nat.reduceAdd, Nat.reduceLT, Nat.reduceLeDiff, Int.cast_ofNat_Int, Int.reduceEq, Int.reduceLT, Int.reduceLE, decide_true, decide_false, if_true, Bool.false_eq_true, if_false, Bool.not_true, Bool.not_false, Bool.and_true, Bool.true_and, Bool.or_true, Bool.or_false, Bool.and_self, ite_true, ite_false, f3, b3, e]
/-- the second loop's body -/
def bo2 : List Sm := [.iff (.and (.isin true (.lo 3) (.lo 2)) (.cmp .ne (.call 2 [.lo 3]) (.tup [.str "refused", .bl true]))) [.ret (.bl false)] []]
theorem bo2_ok {k : Nat} {i : Int} {a0 a1 a4 a5 a6 : Sl} : execs (Q.ctx (k + 3)) bo2 [a0, a1, .ow five, .im (.int i), a4, a5, a6] = .ok (.nx [a0, a1, .ow five, .im (.int i), a4, a5, a6]) := by
  have e : ev (Q.ctx (k + 3)) (.isin true (.lo 3) (.lo 2)) [a0, a1, .ow five, .im (.int i), a4, a5, a6] = .ok (.im (.bl (!CF i))) := rfl
  show kCont (Q.ctx (k + 3)) [] (kIff (Q.ctx (k + 3)) [.ret (.bl false)] [] _ (kAnd (Q.ctx (k + 3)) (.cmp .ne (.call 2 [.lo 3]) (.tup [.str "refused", .bl true])) _ (ev (Q.ctx (k + 3)) (.isin true (.lo 3) (.lo 2)) [a0, a1, .ow five, .im (.int i), a4, a5, a6]))) = _
  rw [e]
  cases h : CF i with
  | true => rfl
  | false =>
    have g : gF (.int i) = .ex 0 := by
      show (if !CF i then Oc.ex 0 else Oc.ok (Tr.int i)) = _
      rw [h]; rfl
    have e2 : ev (Q.ctx (k + 3)) (.cmp .ne (.call 2 [.lo 3]) (.tup [.str "refused", .bl true])) [a0, a1, .ow five, .im (.int i), a4, a5, a6] = .ok (.im (.bl false)) := by
      show (callK Q (k + 3) 2 [.int i] >>= fun x => ev (Q.ctx (k + 3)) (.tup [.str "refused", .bl true]) _ >>= fun y => cmpE .ne x.see y.see >>= fun b => Oc.ok (Rs.im (.bl b))) = _
      rw [size_bad g]
      show (cmpE .ne refu refu >>= fun b => Oc.ok (Rs.im (.bl b))) = _
      rw [refu_ne]
      rfl
    show kCont (Q.ctx (k + 3)) [] (kIff (Q.ctx (k + 3)) [.ret (.bl false)] [] _ (ev (Q.ctx (k + 3)) (.cmp .ne (.call 2 [.lo 3]) (.tup [.str "refused", .bl true])) [a0, a1, .ow five, .im (.int i), a4, a5, a6])) = _
    rw [e2]
    rfl
theorem loop2 {k : Nat} {a0 a1 a4 a5 a6 : Sl} : ∀ (is : List Int) (x : Int), ∃ y : Int, forK (Q.ctx (k + 3)) (.nm 3) bo2 (is.map Tr.int) [a0, a1, .ow five, .im (.int x), a4, a5, a6] = .ok (.nx [a0, a1, .ow five, .im (.int y), a4, a5, a6])
  | [], x => ⟨x, rfl⟩
  | i :: is, x => by
    obtain ⟨y, hy⟩ := loop2 (k := k) (a0 := a0) (a1 := a1) (a4 := a4) (a5 := a5) (a6 := a6) is i
    refine ⟨y, ?_⟩
    show kF1 (Q.ctx (k + 3)) (.nm 3) bo2 (is.map Tr.int) (execs (Q.ctx (k + 3)) bo2 [a0, a1, .ow five, .im (.int i), a4, a5, a6]) = _
    rw [bo2_ok]
    exact hy
def things : List Tr := [.non, .bl true, .bl false, .str "4", .str "", .lst [.int 4], .tup [.int 4], .hd, .lst [], .tup [], .str "8", .hd]
theorem thing (i : Int) : ∃ t, ixE (.lst things) (.int (i % 12)) = .ok t ∧ gF t = .ex 0 := by
  have h1 := Int.emod_nonneg i (by decide : (12 : Int) ≠ 0)
  have h2 := Int.emod_lt_of_pos i (by decide : (0 : Int) < 12)
  generalize i % 12 = j at h1 h2 ⊢
  have : j = 0 ∨ j = 1 ∨ j = 2 ∨ j = 3 ∨ j = 4 ∨ j = 5 ∨ j = 6 ∨ j = 7 ∨ j = 8 ∨ j = 9 ∨ j = 10 ∨ j = 11 := by omega
  rcases this with rfl | rfl | rfl | rfl | rfl | rfl | rfl | rfl | rfl | rfl | rfl | rfl <;> exact ⟨_, rfl, rfl⟩
def bo3 : List Sm := [.iff (.cmp .ne (.call 2 [.ix (.lo 5) (.bin .mod (.bin .add (.lo 6) (.call 1 [.lo 0, .int 3])) (.blt .len [.lo 5]))]) (.tup [.str "refused", .bl true])) [.ret (.bl false)] []]
theorem bo3_ok {k : Nat} {ns : List Int} {c i : Int} (ec : ∀ k, callK Q (k + 1) 1 [.lst (ns.map Tr.int), .int 3] = .ok (.im (.int c))) {a1 a2 a3 a4 : Sl} :
    execs (Q.ctx (k + 3)) bo3 [.im (.lst (ns.map Tr.int)), a1, a2, a3, a4, .ow things, .im (.int i)] = .ok (.nx [.im (.lst (ns.map Tr.int)), a1, a2, a3, a4, .ow things, .im (.int i)]) := by
  obtain ⟨t, h1, h2⟩ := thing (i + c)
  have e := size_bad (k := k) h2
  have e2 : ev (Q.ctx (k + 3)) (.ix (.lo 5) (.bin .mod (.bin .add (.lo 6) (.call 1 [.lo 0, .int 3])) (.blt .len [.lo 5]))) [.im (.lst (ns.map Tr.int)), a1, a2, a3, a4, .ow things, .im (.int i)] = .ok (.im t) := by
    show (((callK Q (k + 3) 1 [.lst (ns.map Tr.int), .int 3] >>= fun y => opE .add (.im (.int i)) y) >>= fun x => opE .mod x (.im (.int 12))) >>= fun y => ixE (.lst things) y.see >>= fun t => Oc.ok (Rs.im t)) = _
    rw [ec]
    show (ixE (.lst things) (.int ((i + c) % 12)) >>= fun t => Oc.ok (Rs.im t)) = _
    rw [h1]
    rfl
  have e3 : ev (Q.ctx (k + 3)) (.cmp .ne (.call 2 [.ix (.lo 5) (.bin .mod (.bin .add (.lo 6) (.call 1 [.lo 0, .int 3])) (.blt .len [.lo 5]))]) (.tup [.str "refused", .bl true])) [.im (.lst (ns.map Tr.int)), a1, a2, a3, a4, .ow things, .im (.int i)] = .ok (.im (.bl false)) := by
    show (((((ev (Q.ctx (k + 3)) (.ix (.lo 5) (.bin .mod (.bin .add (.lo 6) (.call 1 [.lo 0, .int 3])) (.blt .len [.lo 5]))) [.im (.lst (ns.map Tr.int)), a1, a2, a3, a4, .ow things, .im (.int i)] >>= Rs.fz) >>= fun t => Oc.ok [t])) >>= fun ts => callK Q (k + 3) 2 ts) >>= fun x => ev (Q.ctx (k + 3)) (.tup [.str "refused", .bl true]) _ >>= fun y => cmpE .ne x.see y.see >>= fun b => Oc.ok (Rs.im (.bl b))) = _
    rw [e2]
    show (callK Q (k + 3) 2 [t] >>= fun x => ev (Q.ctx (k + 3)) (.tup [.str "refused", .bl true]) _ >>= fun y => cmpE .ne x.see y.see >>= fun b => Oc.ok (Rs.im (.bl b))) = _
    rw [e]
    show (cmpE .ne refu refu >>= fun b => Oc.ok (Rs.im (.bl b))) = _
    rw [refu_ne]
    rfl
  show kCont (Q.ctx (k + 3)) [] (kIff (Q.ctx (k + 3)) [.ret (.bl false)] [] _ (ev (Q.ctx (k + 3)) (.cmp .ne (.call 2 [.ix (.lo 5) (.bin .mod (.bin .add (.lo 6) (.call 1 [.lo 0, .int 3])) (.blt .len [.lo 5]))]) (.tup [.str "refused", .bl true])) [.im (.lst (ns.map Tr.int)), a1, a2, a3, a4, .ow things, .im (.int i)])) = _
  rw [e3]
  rfl
theorem loop3 {k : Nat} {ns : List Int} {c : Int} (ec : ∀ k, callK Q (k + 1) 1 [.lst (ns.map Tr.int), .int 3] = .ok (.im (.int c))) {a1 a2 a3 a4 : Sl} : ∀ (is : List Int) (x : Sl), ∃ y : Sl, forK (Q.ctx (k + 3)) (.nm 6) bo3 (is.map Tr.int) [.im (.lst (ns.map Tr.int)), a1, a2, a3, a4, .ow things, x] = .ok (.nx [.im (.lst (ns.map Tr.int)), a1, a2, a3, a4, .ow things, y])
  | [], x => ⟨x, rfl⟩
  | i :: is, x => by
    obtain ⟨y, hy⟩ := loop3 (k := k) ec (a1 := a1) (a2 := a2) (a3 := a3) (a4 := a4) is (.im (.int i))
    refine ⟨y, ?_⟩
    show kF1 (Q.ctx (k + 3)) (.nm 6) bo3 (is.map Tr.int) (execs (Q.ctx (k + 3)) bo3 [.im (.lst (ns.map Tr.int)), a1, a2, a3, a4, .ow things, .im (.int i)]) = _
    rw [bo3_ok ec]
    exact hy
theorem steps {C : PF.Ctx} {s : Sm} {ss : List Sm} {e e' : List Sl} {r : Oc Fl} (h : exec C s e = .ok (.nx e')) (h2 : execs C ss e' = r) : execs C (s :: ss) e = r := by
  show kCont C ss (exec C s e) = r
  rw [h]
  exact h2
theorem first (ns : List Int) {r : Int} (hr : r = 0 ∨ r = 1 ∨ r = 2 ∨ r = 3 ∨ r = 4) : ∃ t v : Int, ixE (.lst five) (.int r) = .ok (.int v) ∧ intBits v ≤ 8 ∧
    exec (Q.ctx 11) (.for_ (.nm 3) (.ex (.bin .add (.sl (.lo 2) (.lo 1) (.non)) (.sl (.lo 2) (.non) (.lo 1)))) [.iff (.not (.call 3 [.lo 3])) [.ret (.bl false)] []]) [.im (.lst (ns.map Tr.int)), .im (.int r), .ow five, .un, .un, .un, .un] =
      .ok (.nx [.im (.lst (ns.map Tr.int)), .im (.int r), .ow five, .im (.int t), .un, .un, .un]) := by
  rcases hr with rfl | rfl | rfl | rfl | rfl
  · exact ⟨12, 4, rfl, by decide, rfl⟩
  · exact ⟨4, 6, rfl, by decide, rfl⟩
  · exact ⟨6, 8, rfl, by decide, rfl⟩
  · exact ⟨8, 10, rfl, by decide, rfl⟩
  · exact ⟨10, 12, rfl, by decide, rfl⟩
theorem top (ns : List Int) (hl : ns.length ≤ 63) (hb : ∀ z ∈ ns, intBits z ≤ 1048576) : callK Q (KT + 1) 4 [.lst (ns.map Tr.int)] = .ok (.im (.bl true)) := by
  obtain ⟨c0, e0, w0⟩ := cell hb 0 (by decide) (by decide)
  obtain ⟨c1, e1, w1⟩ := cell hb 1 (by decide) (by decide)
  obtain ⟨c2, e2, w2⟩ := cell hb 2 (by decide) (by decide)
  obtain ⟨c3, e3, w3⟩ := cell hb 3 (by decide) (by decide)
  obtain ⟨c4, e4, w4⟩ := cell hb 4 (by decide) (by decide)
  have p : PF.opI .pow 10 60 = .ok 1000000000000000000000000000000000000000000000000000000000000 := rfl
  have m : mulOk 2 1000000000000000000000000000000000000000000000000000000000000 = true := by decide +kernel
  obtain ⟨t, v, f1, f2, f3⟩ := first ns (r := c0 % 5) (by omega)
  have last : ∃ v, ixE (.lst five) (.int (c4 % 5)) = .ok (.int v) ∧ CF v = true := by
    have : c4 % 5 = 0 ∨ c4 % 5 = 1 ∨ c4 % 5 = 2 ∨ c4 % 5 = 3 ∨ c4 % 5 = 4 := by omega
    rcases this with h | h | h | h | h <;> rw [h] <;> exact ⟨_, rfl, by decide⟩
  obtain ⟨vl, l1, l2⟩ := last
  rw [call_f (f := f4) rfl KT _ rfl]
  let L : Sl := .im (.lst (ns.map Tr.int))
  let W : List Int := [c1 % 81 - 40, c2 % (2 * 1000000000000000000000000000000000000000000000000000000000000 - 1) - 1000000000000000000000000000000000000000000000000000000000000 + 1]
  let W2 : List Int := W ++ [v + 1, v - 1, -v, 2 * v + 6, 0, 2, 5, 14]
  have mv : mulOk 2 v = true := by
    refine PF.mulOk_of (m := 64) (n := 64) (by decide) (Nat.le_trans f2 (by decide)) (by decide)
  have h1 : exec (Q.ctx 11) (.asg (.nm 1) (.bin .mod (.call 1 [.lo 0, .int 0]) (.int 5))) [L, .un, .un, .un, .un, .un, .un] = .ok (.nx [L, .im (.int (c0 % 5)), .un, .un, .un, .un, .un]) := by
    simp -implicitDefEqProofs (maxSteps := 400000) (disch := (first | with_reducible assumption | (with_reducible apply PF.mulOk_of <;> (repeat' (first | with_reducible assumption | with_reducible (apply PyProof.Rows.bits_add) | with_reducible (apply PyProof.Rows.bits_sub) | with_reducible (apply PyProof.Rows.bits_mul) | with_reducible (apply PyProof.Rows.bits_neg) | with_reducible (apply PF.bits_div (by first | omega | decide +kernel)) | with_reducible (apply PF.bits_mod (by first | omega | decide +kernel)) | (with_reducible show _ + _ ≤ 134217728; decide +kernel) | exact Nat.le_refl _))) | ((with_reducible apply PF.lt_len); with_unfolding_all rfl) | omega | decide +kernel)) only [PF.opI_mul, PF.opI_mod, PF.opI_fdiv, PF.ixT0, PF.ixT1, PF.cmp_eq, PF.cmp_ne, PF.cmp_lt, PF.cmp_le, PF.cmp_gt, PF.cmp_ge, PF.cmp_t2, PF.cmp_n2, PF.cmp_tt2, PF.cmp_nt2, PF.isInsT, PF.q_lo, PF.q_s1, PF.q_s2, PF.q_non, PF.q_bl, PF.q_int, PF.q_str, PF.q_gl, PF.q_bin, PF.q_bin1, PF.q_bin2, PF.q_kI, PF.q_kB, PF.q_kIm, PF.q_kFz, PF.q_neg, PF.q_neg1, PF.q_not, PF.q_not1, PF.q_cmp, PF.q_cmp1, PF.q_cmp2, PF.q_isN, PF.q_isN1, PF.q_and, PF.q_and1, PF.q_and2, PF.q_or, PF.q_or1, PF.q_or2, PF.q_ite, PF.q_ite1, PF.q_ite2, PF.q_tup, PF.q_tup1, PF.q_tup2, PF.q_lst, PF.q_lst1, PF.q_lst2, PF.q_ix, PF.q_ix1, PF.q_ix2, PF.q_call, PF.q_call1, PF.q_meth, PF.q_meth1, PF.q_meth2, PF.q_meth3, PF.q_fld, PF.q_fld1, PF.q_blt, PF.q_blt1, PF.q_isi, PF.q_isi0, PF.q_vs0, PF.q_vs1, PF.q_vs2, PF.q_vs3, PF.q_vb0, PF.q_vb1, PF.q_vb2, PF.q_vb3, PF.q_itE, PF.q_itE1, PF.q_it1, PF.q_it2, PF.q_it3, PF.q_asg, PF.q_asg0, PF.q_nx, PF.q_par, PF.q_par1, PF.q_ret, PF.q_ret1, PF.q_retN, PF.q_iff, PF.q_iff1, PF.q_iff2, PF.q_for, PF.q_for1, PF.q_fg0, PF.q_fg1, PF.q_fb, PF.q_f1, PF.q_f2, PF.q_rse, PF.q_es0, PF.q_es1, PF.q_cn, PF.q_cr, PF.q_rk1, PF.q_rk2, PF.q_see1, PF.q_see2, PF.q_see3, PF.q_fz1, PF.q_fz2, PF.q_out1, PF.q_out2, PF.q_out3, PF.q_op, PF.q_add, PF.q_sub, PF.q_isi1, PF.q_isi2, PF.q_isi3, PF.q_isi4, PF.q_isi5, PF.q_asg1, PF.q_asg2, PF.q_put1, PF.q_put2, PF.q_bnm, PF.q_bt0, PF.q_bt1, PF.q_bt2, PF.q_tg1, PF.q_tg2, PF.q_its1, PF.q_its2, PF.q_len1, PF.q_len2, PF.q_bint, PF.q_fld0, PF.q_ctx, PF.q_cgl, PF.q_cwf, PF.q_size, List.map_cons, List.map_nil, Nat.reduceSub, Nat.sub_self, List.replicate, List.append_nil, List.cons_append, List.nil_append, List.length_cons, List.length_nil, List.getElem?_cons_zero, List.getElem?_cons_succ, List.set_cons_zero, List.set_cons_succ, Nat.reduceAdd, Nat.reduceLT, Nat.reduceLeDiff, Int.cast_ofNat_Int, Int.reduceEq, Int.reduceLT, Int.reduceLE, decide_true, decide_false, if_true, Bool.false_eq_true, if_false, Bool.not_true, Bool.not_false, Bool.and_true, Bool.true_and, Bool.or_true, Bool.or_false, Bool.and_self, ite_true, ite_false, L, e0]
  have h4 : exec (Q.ctx 11) (.asg (.nm 4) (.lst [.bin .sub (.bin .mod (.call 1 [.lo 0, .int 1]) (.int 81)) (.int 40), .bin .add (.bin .sub (.bin .mod (.call 1 [.lo 0, .int 2]) (.bin .sub (.bin .mul (.int 2) (.bin .pow (.int 10) (.int 60))) (.int 1))) (.bin .pow (.int 10) (.int 60))) (.int 1)]))
      [L, .im (.int (c0 % 5)), .ow five, .im (.int t), .un, .un, .un] = .ok (.nx [L, .im (.int (c0 % 5)), .ow five, .im (.int t), .ow (W.map Tr.int), .un, .un]) := by
    simp -implicitDefEqProofs (maxSteps := 400000) (disch := (first | with_reducible assumption | (with_reducible apply PF.mulOk_of <;> (repeat' (first | with_reducible assumption | with_reducible (apply PyProof.Rows.bits_add) | with_reducible (apply PyProof.Rows.bits_sub) | with_reducible (apply PyProof.Rows.bits_mul) | with_reducible (apply PyProof.Rows.bits_neg) | with_reducible (apply PF.bits_div (by first | omega | decide +kernel)) | with_reducible (apply PF.bits_mod (by first | omega | decide +kernel)) | (with_reducible show _ + _ ≤ 134217728; decide +kernel) | exact Nat.le_refl _))) | ((with_reducible apply PF.lt_len); with_unfolding_all rfl) | omega | decide +kernel)) only [PF.opI_mul, PF.opI_mod, PF.opI_fdiv, PF.ixT0, PF.ixT1, PF.cmp_eq, PF.cmp_ne, PF.cmp_lt, PF.cmp_le, PF.cmp_gt, PF.cmp_ge, PF.cmp_t2, PF.cmp_n2, PF.cmp_tt2, PF.cmp_nt2, PF.isInsT, PF.q_lo, PF.q_s1, PF.q_s2, PF.q_non, PF.q_bl, PF.q_int, PF.q_str, PF.q_gl, PF.q_bin, PF.q_bin1, PF.q_bin2, PF.q_kI, PF.q_kB, PF.q_kIm, PF.q_kFz, PF.q_neg, PF.q_neg1, PF.q_not, PF.q_not1, PF.q_cmp, PF.q_cmp1, PF.q_cmp2, PF.q_isN, PF.q_isN1, PF.q_and, PF.q_and1, PF.q_and2, PF.q_or, PF.q_or1, PF.q_or2, PF.q_ite, PF.q_ite1, PF.q_ite2, PF.q_tup, PF.q_tup1, PF.q_tup2, PF.q_lst, PF.q_lst1, PF.q_lst2, PF.q_ix, PF.q_ix1, PF.q_ix2, PF.q_call, PF.q_call1, PF.q_meth, PF.q_meth1, PF.q_meth2, PF.q_meth3, PF.q_fld, PF.q_fld1, PF.q_blt, PF.q_blt1, PF.q_isi, PF.q_isi0, PF.q_vs0, PF.q_vs1, PF.q_vs2, PF.q_vs3, PF.q_vb0, PF.q_vb1, PF.q_vb2, PF.q_vb3, PF.q_itE, PF.q_itE1, PF.q_it1, PF.q_it2, PF.q_it3, PF.q_asg, PF.q_asg0, PF.q_nx, PF.q_par, PF.q_par1, PF.q_ret, PF.q_ret1, PF.q_retN, PF.q_iff, PF.q_iff1, PF.q_iff2, PF.q_for, PF.q_for1, PF.q_fg0, PF.q_fg1, PF.q_fb, PF.q_f1, PF.q_f2, PF.q_rse, PF.q_es0, PF.q_es1, PF.q_cn, PF.q_cr, PF.q_rk1, PF.q_rk2, PF.q_see1, PF.q_see2, PF.q_see3, PF.q_fz1, PF.q_fz2, PF.q_out1, PF.q_out2, PF.q_out3, PF.q_op, PF.q_add, PF.q_sub, PF.q_isi1, PF.q_isi2, PF.q_isi3, PF.q_isi4, PF.q_isi5, PF.q_asg1, PF.q_asg2, PF.q_put1, PF.q_put2, PF.q_bnm, PF.q_bt0, PF.q_bt1, PF.q_bt2, PF.q_tg1, PF.q_tg2, PF.q_its1, PF.q_its2, PF.q_len1, PF.q_len2, PF.q_bint, PF.q_fld0, PF.q_ctx, PF.q_cgl, PF.q_cwf, PF.q_size, List.map_cons, List.map_nil, Nat.reduceSub, Nat.sub_self, List.replicate, List.append_nil, List.cons_append, List.nil_append, List.length_cons, List.length_nil, List.getElem?_cons_zero, List.getElem?_cons_succ, List.set_cons_zero, List.set_cons_succ, Nat.reduceAdd, Nat.reduceLT, Nat.reduceLeDiff, Int.cast_ofNat_Int, Int.reduceEq, Int.reduceLT, Int.reduceLE, decide_true, decide_false, if_true, Bool.false_eq_true, if_false, Bool.not_true, Bool.not_false, Bool.and_true, Bool.true_and, Bool.or_true, Bool.or_false, Bool.and_self, ite_true, ite_false, L, W, e1, e2, p]
  have h5 : exec (Q.ctx 11) (.asg (.nm 4) (.bin .add (.lo 4) (.lst [.bin .add (.ix (.lo 2) (.lo 1)) (.int 1), .bin .sub (.ix (.lo 2) (.lo 1)) (.int 1), .neg (.ix (.lo 2) (.lo 1)), .bin .add (.bin .mul (.int 2) (.ix (.lo 2) (.lo 1))) (.int 6), .int 0, .int 2, .int 5, .int 14])))
      [L, .im (.int (c0 % 5)), .ow five, .im (.int t), .ow (W.map Tr.int), .un, .un] = .ok (.nx [L, .im (.int (c0 % 5)), .ow five, .im (.int t), .ow (W2.map Tr.int), .un, .un]) := by
    have q : evs (Q.ctx 11) [.bin .add (.ix (.lo 2) (.lo 1)) (.int 1), .bin .sub (.ix (.lo 2) (.lo 1)) (.int 1), .neg (.ix (.lo 2) (.lo 1)), .bin .add (.bin .mul (.int 2) (.ix (.lo 2) (.lo 1))) (.int 6), .int 0, .int 2, .int 5, .int 14]
        [L, .im (.int (c0 % 5)), .ow five, .im (.int t), .ow (W.map Tr.int), .un, .un] = .ok ([v + 1, v - 1, -v, 2 * v + 6, 0, 2, 5, 14].map Tr.int) := by
      simp -implicitDefEqProofs (maxSteps := 400000) (disch := (first | with_reducible assumption | (with_reducible apply PF.mulOk_of <;> (repeat' (first | with_reducible assumption | with_reducible (apply PyProof.Rows.bits_add) | with_reducible (apply PyProof.Rows.bits_sub) | with_reducible (apply PyProof.Rows.bits_mul) | with_reducible (apply PyProof.Rows.bits_neg) | with_reducible (apply PF.bits_div (by first | omega | decide +kernel)) | with_reducible (apply PF.bits_mod (by first | omega | decide +kernel)) | (with_reducible show _ + _ ≤ 134217728; decide +kernel) | exact Nat.le_refl _))) | ((with_reducible apply PF.lt_len); with_unfolding_all rfl) | omega | decide +kernel)) only [PF.opI_mul, PF.opI_mod, PF.opI_fdiv, PF.ixT0, PF.ixT1, PF.cmp_eq, PF.cmp_ne, PF.cmp_lt, PF.cmp_le, PF.cmp_gt, PF.cmp_ge, PF.cmp_t2, PF.cmp_n2, PF.cmp_tt2, PF.cmp_nt2, PF.isInsT, PF.q_lo, PF.q_s1, PF.q_s2, PF.q_non, PF.q_bl, PF.q_int, PF.q_str, PF.q_gl, PF.q_bin, PF.q_bin1, PF.q_bin2, PF.q_kI, PF.q_kB, PF.q_kIm, PF.q_kFz, PF.q_neg, PF.q_neg1, PF.q_not, PF.q_not1, PF.q_cmp, PF.q_cmp1, PF.q_cmp2, PF.q_isN, PF.q_isN1, PF.q_and, PF.q_and1, PF.q_and2, PF.q_or, PF.q_or1, PF.q_or2, PF.q_ite, PF.q_ite1, PF.q_ite2, PF.q_tup, PF.q_tup1, PF.q_tup2, PF.q_lst, PF.q_lst1, PF.q_lst2, PF.q_ix, PF.q_ix1, PF.q_ix2, PF.q_call, PF.q_call1, PF.q_meth, PF.q_meth1, PF.q_meth2, PF.q_meth3, PF.q_fld, PF.q_fld1, PF.q_blt, PF.q_blt1, PF.q_isi, PF.q_isi0, PF.q_vs0, PF.q_vs1, PF.q_vs2, PF.q_vs3, PF.q_vb0, PF.q_vb1, PF.q_vb2, PF.q_vb3, PF.q_itE, PF.q_itE1, PF.q_it1, PF.q_it2, PF.q_it3, PF.q_asg, PF.q_asg0, PF.q_nx, PF.q_par, PF.q_par1, PF.q_ret, PF.q_ret1, PF.q_retN, PF.q_iff, PF.q_iff1, PF.q_iff2, PF.q_for, PF.q_for1, PF.q_fg0, PF.q_fg1, PF.q_fb, PF.q_f1, PF.q_f2, PF.q_rse, PF.q_es0, PF.q_es1, PF.q_cn, PF.q_cr, PF.q_rk1, PF.q_rk2, PF.q_see1, PF.q_see2, PF.q_see3, PF.q_fz1, PF.q_fz2, PF.q_out1, PF.q_out2, PF.q_out3, PF.q_op, PF.q_add, PF.q_sub, PF.q_isi1, PF.q_isi2, PF.q_isi3, PF.q_isi4, PF.q_isi5, PF.q_asg1, PF.q_asg2, PF.q_put1, PF.q_put2, PF.q_bnm, PF.q_bt0, PF.q_bt1, PF.q_bt2, PF.q_tg1, PF.q_tg2, PF.q_its1, PF.q_its2, PF.q_len1, PF.q_len2, PF.q_bint, PF.q_fld0, PF.q_ctx, PF.q_cgl, PF.q_cwf, PF.q_size, List.map_cons, List.map_nil, Nat.reduceSub, Nat.sub_self, List.replicate, List.append_nil, List.cons_append, List.nil_append, List.length_cons, List.length_nil, List.getElem?_cons_zero, List.getElem?_cons_succ, List.set_cons_zero, List.set_cons_succ, Nat.reduceAdd, Nat.reduceLT, Nat.reduceLeDiff, Int.cast_ofNat_Int, Int.reduceEq, Int.reduceLT, Int.reduceLE, decide_true, decide_false, if_true, Bool.false_eq_true, if_false, Bool.not_true, Bool.not_false, Bool.and_true, Bool.true_and, Bool.or_true, Bool.or_false, Bool.and_self, ite_true, ite_false, f1, mv]
    show kAsg (.nm 4) _ (kLst (evs (Q.ctx 11) _ _) >>= fun y => opE .add (.br (W.map Tr.int)) y) = _
    rw [q]
    rfl
  obtain ⟨y2, h7⟩ := loop2 (k := 8) (a0 := L) (a1 := .im (.int (c0 % 5))) (a4 := .im (.lst (W2.map Tr.int))) (a5 := .un) (a6 := .un) W2 t
  obtain ⟨y3, h9⟩ := loop3 (k := 8) e3 (a1 := .im (.int (c0 % 5))) (a2 := .ow five) (a3 := .im (.int y2)) (a4 := .im (.lst (W2.map Tr.int))) [0, 1, 2, 3, 4, 5, 6, 7, 8, 9, 10, 11] .un
  have h10 : execs (Q.ctx 11) [.ret (.call 3 [.ix (.lo 2) (.bin .mod (.call 1 [.lo 0, .int 4]) (.int 5))])] [L, .im (.int (c0 % 5)), .ow five, .im (.int y2), .im (.lst (W2.map Tr.int)), .ow things, y3] = .ok (.rt (.im (.bl true))) := by
    have g := good (k := 7) l2
    simp -implicitDefEqProofs (maxSteps := 400000) (disch := (first | with_reducible assumption | (with_reducible apply PF.mulOk_of <;> (repeat' (first | with_reducible assumption | with_reducible (apply PyProof.Rows.bits_add) | with_reducible (apply PyProof.Rows.bits_sub) | with_reducible (apply PyProof.Rows.bits_mul) | with_reducible (apply PyProof.Rows.bits_neg) | with_reducible (apply PF.bits_div (by first | omega | decide +kernel)) | with_reducible (apply PF.bits_mod (by first | omega | decide +kernel)) | (with_reducible show _ + _ ≤ 134217728; decide +kernel) | exact Nat.le_refl _))) | ((with_reducible apply PF.lt_len); with_unfolding_all rfl) | omega | decide +kernel)) only [PF.opI_mul, PF.opI_mod, PF.opI_fdiv, PF.ixT0, PF.ixT1, PF.cmp_eq, PF.cmp_ne, PF.cmp_lt, PF.cmp_le, PF.cmp_gt, PF.cmp_ge, PF.cmp_t2, PF.cmp_n2, PF.cmp_tt2, PF.cmp_nt2, PF.isInsT, PF.q_lo, PF.q_s1, PF.q_s2, PF.q_non, PF.q_bl, PF.q_int, PF.q_str, PF.q_gl, PF.q_bin, PF.q_bin1, PF.q_bin2, PF.q_kI, PF.q_kB, PF.q_kIm, PF.q_kFz, PF.q_neg, PF.q_neg1, PF.q_not, PF.q_not1, PF.q_cmp, PF.q_cmp1, PF.q_cmp2, PF.q_isN, PF.q_isN1, PF.q_and, PF.q_and1, PF.q_and2, PF.q_or, PF.q_or1, PF.q_or2, PF.q_ite, PF.q_ite1, PF.q_ite2, PF.q_tup, PF.q_tup1, PF.q_tup2, PF.q_lst, PF.q_lst1, PF.q_lst2, PF.q_ix, PF.q_ix1, PF.q_ix2, PF.q_call, PF.q_call1, PF.q_meth, PF.q_meth1, PF.q_meth2, PF.q_meth3, PF.q_fld, PF.q_fld1, PF.q_blt, PF.q_blt1, PF.q_isi, PF.q_isi0, PF.q_vs0, PF.q_vs1, PF.q_vs2, PF.q_vs3, PF.q_vb0, PF.q_vb1, PF.q_vb2, PF.q_vb3, PF.q_itE, PF.q_itE1, PF.q_it1, PF.q_it2, PF.q_it3, PF.q_asg, PF.q_asg0, PF.q_nx, PF.q_par, PF.q_par1, PF.q_ret, PF.q_ret1, PF.q_retN, PF.q_iff, PF.q_iff1, PF.q_iff2, PF.q_for, PF.q_for1, PF.q_fg0, PF.q_fg1, PF.q_fb, PF.q_f1, PF.q_f2, PF.q_rse, PF.q_es0, PF.q_es1, PF.q_cn, PF.q_cr, PF.q_rk1, PF.q_rk2, PF.q_see1, PF.q_see2, PF.q_see3, PF.q_fz1, PF.q_fz2, PF.q_out1, PF.q_out2, PF.q_out3, PF.q_op, PF.q_add, PF.q_sub, PF.q_isi1, PF.q_isi2, PF.q_isi3, PF.q_isi4, PF.q_isi5, PF.q_asg1, PF.q_asg2, PF.q_put1, PF.q_put2, PF.q_bnm, PF.q_bt0, PF.q_bt1, PF.q_bt2, PF.q_tg1, PF.q_tg2, PF.q_its1, PF.q_its2, PF.q_len1, PF.q_len2, PF.q_bint, PF.q_fld0, PF.q_ctx, PF.q_cgl, PF.q_cwf, PF.q_size, List.map_cons, List.map_nil, Nat.reduceSub, Nat.sub_self, List.replicate, List.append_nil, List.cons_append, List.nil_append, List.length_cons, List.length_nil, List.getElem?_cons_zero, List.getElem?_cons_succ, List.set_cons_zero, List.set_cons_succ, Nat.reduceAdd, Nat.reduceLT, Nat.reduceLeDiff, Int.cast_ofNat_Int, Int.reduceEq, Int.reduceLT, Int.reduceLE, decide_true, decide_false, if_true, Bool.false_eq_true, if_false, Bool.not_true, Bool.not_false, Bool.and_true, Bool.true_and, Bool.or_true, Bool.or_false, Bool.and_self, ite_true, ite_false, L, e4, l1, g]
  have all : execs (Q.ctx 11) b4 [L, .un, .un, .un, .un, .un, .un] = .ok (.rt (.im (.bl true))) := by
    refine steps h1 (steps (e' := [L, .im (.int (c0 % 5)), .ow five, .un, .un, .un, .un]) rfl (steps f3 (steps h4 (steps h5 (steps (e' := [L, .im (.int (c0 % 5)), .ow five, .im (.int t), .im (.lst (W2.map Tr.int)), .un, .un]) rfl (steps h7 (steps (e' := [L, .im (.int (c0 % 5)), .ow five, .im (.int y2), .im (.lst (W2.map Tr.int)), .ow things, .un]) rfl (steps h9 h10))))))))
  show kEnd (execs (Q.ctx 11) b4 [L, .un, .un, .un, .un, .un, .un]) = _
  rw [all]
  rfl
end Zk01

open PySem PySem.W PyProof.Rows
set_option maxRecDepth 100000 in
set_option maxHeartbeats 0 in
theorem PySem.Challenge.cw_inflate_k01_a_frame_holds : PySem.Challenge.rw_inflate_k01_a_frame.Holds := by
  w_on; o_law; k_head; (case hw => w_witness2)
  k_fill
  refine L2.walk_ofB (l := PySem.Challenge.rw_inflate_k01_a_frame) (n := 63) (k := Zk01.KT + 1) (x := "_law_script") (CX := fun w => L2.CX PySem.Challenge.pw_inflate_k01_a_frame w) (sp := fun w => PF.spLaw _) rfl (by decide) rfl ⟨rfl, by decide, by decide⟩ (fun w h Y => PySem.W.kIn_of Y) ?F (fun _ _ a ns hl hb _ hS => ⟨a, ns, rfl, hS, hl, hb, fun _ => rfl⟩) (fun _ _ _ _ _ h => PF.noCX h)
  case F =>
    intro w mg fa h KX G hmg
    refine' Zk01.facts KX G hmg ?fx_xC0 ?fx_xI0 ?fx_iI0 ?fx_lI0 ?fx_cI0 ?fx_kI0 ?fx_pg0 ?fx_hd0 ?fx_po0 ?fx_sa0 ?fx_mk0 ?fx_kC0 ?fx_nf0_0 ?fx_x0 ?fx_i0 ?fx_l0 ?fx_c0 ?fx_k0_ ?fx_x1 ?fx_l1 ?fx_c1 ?fx_k1_ ?fx_x2 ?fx_l2 ?fx_c2 ?fx_k2_ ?fx_x3 ?fx_l3 ?fx_c3 ?fx_k3_ ?fx_x4 ?fx_l4 ?fx_c4 ?fx_k4_ ?fx_lq1 ?fx_g0 ?fx_xE0 ?fx_eE0 ?fx_kE0 ?fx_bE0 ?fx_tE0 ?fx_z0 ?fx_z1 ?fx_z2 ?fx_z3 ?fx_z4 ?fx_z5 ?fx_z6 ?fx_z7 ?fx_z8 ?fx_z9 ?fx_z10 ?fx_z11 ?fx_z12 ?fx_z13 ?fx_hN ?fx_hT ?fx_hg0 ?fx_hk0 ?fx_hD0 ?fx_ha0 ?fx_hm0 ?fx_xD0 ?fx_u0 ?fx_u0_0 ?fx_v0_0 ?fx_xD1 ?fx_u1 ?fx_u1_0 ?fx_v1_0 ?fx_xD2 ?fx_u2 ?fx_u2_0 ?fx_v2_0 ?fx_xD3 ?fx_u3 ?fx_u3_0 ?fx_v3_0 ?fx_xD4 ?fx_u4 ?fx_u4_0 ?fx_v4_0 ?fx_xD5 ?fx_u5 ?fx_u5_0 ?fx_v5_0 ?fx_xD6 ?fx_u6 ?fx_u6_0 ?fx_v6_0 ?fx_xD7 ?fx_u7 ?fx_u7_0 ?fx_v7_0 ?fx_xD8 ?fx_u8 ?fx_u8_0 ?fx_v8_0 ?fx_xD9 ?fx_u9 ?fx_u9_0 ?fx_v9_0 ?fx_xD10 ?fx_u10 ?fx_u10_0 ?fx_v10_0 ?fx_u11 ?fx_u11_0 ?fx_v11_0 ?fx_xD12 ?fx_u12 ?fx_u12_0 ?fx_v12_0 Zk01.KT Zk01.top
    (case fx_xC0 => k_is)
    (case fx_xI0 => k_is)
    (case fx_iI0 => k_is)
    (case fx_lI0 => k_is)
    (case fx_cI0 => k_is)
    (case fx_kI0 => k_is)
    (case fx_pg0 => k_is)
    (case fx_hd0 => k_is)
    (case fx_po0 => k_is)
    (case fx_sa0 => k_is)
    (case fx_mk0 => k_is)
    (case fx_kC0 => k_is)
    (case fx_nf0_0 => k_is)
    (case fx_x0 => k_is)
    (case fx_i0 => k_is)
    (case fx_l0 => k_is)
    (case fx_c0 => k_is)
    (case fx_k0_ => k_is)
    (case fx_x1 => k_is)
    (case fx_l1 => k_is)
    (case fx_c1 => k_is)
    (case fx_k1_ => k_is)
    (case fx_x2 => k_is)
    (case fx_l2 => k_is)
    (case fx_c2 => k_is)
    (case fx_k2_ => k_is)
    (case fx_x3 => k_is)
    (case fx_l3 => k_is)
    (case fx_c3 => k_is)
    (case fx_k3_ => k_is)
    (case fx_x4 => k_is)
    (case fx_l4 => k_is)
    (case fx_c4 => k_is)
    (case fx_k4_ => k_is)
    (case fx_g0 => k_is)
    (case fx_xE0 => k_is)
    (case fx_eE0 => first | k_is | k_exc)
    (case fx_kE0 => k_is)
    (case fx_bE0 => k_is)
    (case fx_tE0 => k_is)
    (case fx_z0 => k_is)
    (case fx_z1 => k_is)
    (case fx_z2 => k_is)
    (case fx_z3 => k_is)
    (case fx_z4 => k_is)
    (case fx_z5 => k_is)
    (case fx_z6 => k_is)
    (case fx_z7 => k_is)
    (case fx_z8 => k_is)
    (case fx_z9 => k_is)
    (case fx_z10 => k_is)
    (case fx_z11 => k_is)
    (case fx_z12 => k_is)
    (case fx_z13 => k_is)
    (case fx_hN => k_is)
    (case fx_hT => k_is)
    (case fx_hg0 => k_is)
    (case fx_hk0 => k_is)
    (case fx_hD0 => k_is)
    (case fx_ha0 => k_is)
    (case fx_hm0 => k_is)
    (case fx_xD0 => k_is)
    (case fx_u0 => kit_is)
    (case fx_u0_0 => kit_is)
    (case fx_v0_0 => kts_exm)
    (case fx_xD1 => k_is)
    (case fx_u1 => kit_is)
    (case fx_u1_0 => kit_is)
    (case fx_v1_0 => kts_exm)
    (case fx_xD2 => k_is)
    (case fx_u2 => kit_is)
    (case fx_u2_0 => kit_is)
    (case fx_v2_0 => kts_exm)
    (case fx_xD3 => k_is)
    (case fx_u3 => kit_is)
    (case fx_u3_0 => kit_is)
    (case fx_v3_0 => kts_exm)
    (case fx_xD4 => k_is)
    (case fx_u4 => kit_is)
    (case fx_u4_0 => kit_is)
    (case fx_v4_0 => kts_exm)
    (case fx_xD5 => k_is)
    (case fx_u5 => kit_is)
    (case fx_u5_0 => kit_is)
    (case fx_v5_0 => kts_exm)
    (case fx_xD6 => k_is)
    (case fx_u6 => kit_is)
    (case fx_u6_0 => kit_is)
    (case fx_v6_0 => kts_exm)
    (case fx_xD7 => k_is)
    (case fx_u7 => kit_is)
    (case fx_u7_0 => kit_is)
    (case fx_v7_0 => kts_exm)
    (case fx_xD8 => k_is)
    (case fx_u8 => kit_is)
    (case fx_u8_0 => kit_is)
    (case fx_v8_0 => kts_exm)
    (case fx_xD9 => k_is)
    (case fx_u9 => kit_is)
    (case fx_u9_0 => kit_is)
    (case fx_v9_0 => kts_exm)
    (case fx_xD10 => k_is)
    (case fx_u10 => kit_is)
    (case fx_u10_0 => kit_is)
    (case fx_v10_0 => kts_exm)
    (case fx_u11 => kit_is)
    (case fx_u11_0 => kit_is)
    (case fx_v11_0 => kts_exm)
    (case fx_xD12 => k_is)
    (case fx_u12 => kit_is)
    (case fx_u12_0 => kit_is)
    (case fx_v12_0 => kts_exm)
    (case fx_lq1 => k_is)
