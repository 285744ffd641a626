import PyProof.Rows.All
import Wide.All
import OpenK.AllK
import Wide.FinOn
import HandS.ForMost
import HandS.Deep
import HandS.TupAny
import HandS.TupMul
import HandS.Zip
import HandS.Style
import HandS.WideBits
import HandS.Conv
import HandS.IsInst
import HandS.SortInts
import KE.GoesNew
import KE.GoesMore
import KE.GoesZip
import HandS.TupSets
import HandS.SetFor
import PyProof.ReprRoads
import HandS.HeadEnd
import HandS.HeadHook2
import KE.BitLaws
import KE.OsArith
import KE.IntBitsLaws
import HandS.Head0
import HandS.Head1
import HandS.Head2
import HandS.HeadHook1
import KE.KStateDown
import PySem.Challenge.RW_fewbitsread_k78_whole_spectra_to_trees
set_option Elab.async false
set_option linter.all false
set_option maxRecDepth 100000
/-! Ev1: values by value, their place in the abstract heap, what a step may change. -/
namespace Ev
open PySem PySem.Spec PyProof.Rows L2

/-- a value as the evaluator sees it: shared data (never changed any more), a list or a dict that one name alone holds, the pot -/
inductive Val where
  | d (x : PyData)
  | own (xs : List PyData)
  | odk (kvs : List (PyData × PyData))
  | pot

abbrev Env := List (Option Val)
abbrev AP1 := Addr → Prop

mutual
def RepD (F : AP1) (H : Hp) : PyData → V → Prop
  | .none, v => v = .non
  | .bool b, v => v = .bl b
  | .int i, v => v = .int i
  | .str s, v => v = .str s
  | .tuple xs, v => ∃ a vs, v = .ref a ∧ F a ∧ H a = some (.tup vs) ∧ RepAll F H xs vs
  | .list xs, v => ∃ a vs, v = .ref a ∧ F a ∧ H a = some (.lst vs) ∧ RepAll F H xs vs
  | .dict _, _ => False
def RepAll (F : AP1) (H : Hp) : List PyData → List V → Prop
  | [], vs => vs = []
  | x :: xs, vs => ∃ v r, vs = v :: r ∧ RepD F H x v ∧ RepAll F H xs r
end

section
variable {F F' : AP1} {H H' : Hp}
mutual
theorem RepD.mono (g : ∀ a, F a → F' a) (k : ∀ a o, F a → H a = some o → H' a = some o) : ∀ (x : PyData) (v : V), RepD F H x v → RepD F' H' x v
  | .none, v, h => by simp only [RepD] at h ⊢; exact h
  | .bool b, v, h => by simp only [RepD] at h ⊢; exact h
  | .int i, v, h => by simp only [RepD] at h ⊢; exact h
  | .str s, v, h => by simp only [RepD] at h ⊢; exact h
  | .tuple xs, v, h => by
    simp only [RepD] at h ⊢
    obtain ⟨a, vs, e, fa, ha, r⟩ := h
    exact ⟨a, vs, e, g a fa, k a _ fa ha, RepAll.mono g k xs vs r⟩
  | .list xs, v, h => by
    simp only [RepD] at h ⊢
    obtain ⟨a, vs, e, fa, ha, r⟩ := h
    exact ⟨a, vs, e, g a fa, k a _ fa ha, RepAll.mono g k xs vs r⟩
  | .dict _, v, h => by simp only [RepD] at h
theorem RepAll.mono (g : ∀ a, F a → F' a) (k : ∀ a o, F a → H a = some o → H' a = some o) : ∀ (xs : List PyData) (vs : List V), RepAll F H xs vs → RepAll F' H' xs vs
  | [], vs, h => by simp only [RepAll] at h ⊢; exact h
  | x :: xs, vs, h => by
    simp only [RepAll] at h ⊢
    obtain ⟨v, r, e, h1, h2⟩ := h
    exact ⟨v, r, e, RepD.mono g k x v h1, RepAll.mono g k xs r h2⟩
end
mutual
/-- what is shown as data is read as data -/
theorem RepD.dp {K : PySem.W.Frag} : ∀ (x : PyData) (v : V), RepD F H x v → Dp K H v x
  | .none, v, h => by simp only [RepD] at h; subst h; exact .non
  | .bool b, v, h => by simp only [RepD] at h; subst h; exact .bl b
  | .int i, v, h => by simp only [RepD] at h; subst h; exact .int i
  | .str s, v, h => by simp only [RepD] at h; subst h; exact .str s
  | .tuple xs, v, h => by
    simp only [RepD] at h
    obtain ⟨a, vs, e, fa, ha, r⟩ := h
    subst e
    exact .tup (SqT.of ha) (RepAll.dp xs vs r)
  | .list xs, v, h => by
    simp only [RepD] at h
    obtain ⟨a, vs, e, fa, ha, r⟩ := h
    subst e
    exact .lst (SqL.of ha) (RepAll.dp xs vs r)
  | .dict _, v, h => by simp only [RepD] at h
theorem RepAll.dp {K : PySem.W.Frag} : ∀ (xs : List PyData) (vs : List V), RepAll F H xs vs → DpAll K H vs xs
  | [], vs, h => by simp only [RepAll] at h; subst h; exact .nil
  | x :: xs, vs, h => by
    simp only [RepAll] at h
    obtain ⟨v, r, e, h1, h2⟩ := h
    subst e
    exact .cons (RepD.dp x v h1) (RepAll.dp xs r h2)
end
end

/-! ### the pot: a dict of the law's own, with a list in it -/
structure PotOk (H : Hp) (p g : Addr) : Prop where
  ex : ∃ (ns : List Int) (sl tn : Int), H p = some (.dK [(Sum.inr (Str.ofString "great"), V.ref g), (Sum.inr (Str.ofString "seal"), V.int sl), (Sum.inr (Str.ofString "turn"), V.int tn)]) ∧
    H g = some (.lst (ns.map V.int)) ∧ (∀ n ∈ ns, 0 ≤ n) ∧ ns.length ≤ 62 ∧ 0 ≤ sl ∧ sl < 4294967291 ∧ 0 ≤ tn

abbrev Gh := Option (Addr × Addr)
def InPot (G : Gh) (a : Addr) : Prop := ∃ p g, G = some (p, g) ∧ (a = p ∨ a = g)

def isOwn : Val → Bool
  | .own _ => true
  | .odk _ => true
  | _ => false

/-- a dict that one name alone holds: keys are ints, texts -/
def keyOf : PyData → Option Key
  | .int i => some (.inl i)
  | .str s => some (.inr s)
  | _ => none
def keysOf : List PyData → Option (List Key)
  | [] => some []
  | x :: xs => (keyOf x).bind fun k => (keysOf xs).map fun r => k :: r

def RepV (G : Gh) (F : AP1) (H : Hp) : Val → V → Prop
  | .d x, v => RepD F H x v
  | .own xs, v => ∃ a vs, v = .ref a ∧ ¬ F a ∧ H a = some (.lst vs) ∧ RepAll F H xs vs
  | .odk kvs, v => ∃ a ks vs, v = .ref a ∧ ¬ F a ∧ keysOf (kvs.map (·.1)) = some ks ∧ RepAll F H (kvs.map (·.2)) vs ∧ ks.Nodup ∧ H a = some (.dK (ks.zip vs))
  | .pot, v => ∃ p g, G = some (p, g) ∧ v = .ref p

def OwnS (env : Env) (σ : L2.St) (a : Addr) : Prop := ∃ (i : Nat) (v : Val), env[i]? = some (some v) ∧ isOwn v = true ∧ σ[i]? = some (some (V.ref a))

/-- how a frame's names stand in the heap -/
structure R (G : Gh) (F : AP1) (env : Env) (σ : L2.St) (H : Hp) : Prop where
  len : env.length = σ.length
  rep : ∀ (i : Nat) (v : Val), env[i]? = some (some v) → ∃ x, σ[i]? = some (some x) ∧ RepV G F H v x
  sep : ∀ (i j : Nat) (v w : Val) (a : Addr), env[i]? = some (some v) → env[j]? = some (some w) → isOwn v = true → isOwn w = true → σ[i]? = some (some (V.ref a)) → σ[j]? = some (some (V.ref a)) → i = j
  al : ∀ a, F a → ∃ o, H a = some o
  pt : ∀ p g, G = some (p, g) → PotOk H p g ∧ ¬ F p ∧ ¬ F g ∧ ∀ a, OwnS env σ a → a ≠ p ∧ a ≠ g

/-- what an expression may have changed -/
structure Ext (G : Gh) (F : AP1) (env : Env) (σ : L2.St) (H : Hp) (F' : AP1) (env' : Env) (H' : Hp) : Prop where
  r : R G F' env' σ H'
  keep : ∀ a o, H a = some o → ¬ OwnS env σ a → ¬ InPot G a → H' a = some o
  live : ∀ a o, H a = some o → ∃ o', H' a = some o'
  grow : ∀ a, F a → F' a
  fro : ∀ a, F' a → F a ∨ OwnS env σ a ∨ H a = none
  ownd : ∀ a, OwnS env' σ a → OwnS env σ a

/-- where a value that has come stands -/
structure Res (G : Gh) (env : Env) (σ : L2.St) (H : Hp) (F' : AP1) (env' : Env) (H' : Hp) (v : Val) (x : V) : Prop where
  rep : RepV G F' H' v x
  one : isOwn v = true → ∀ a, x = .ref a → (OwnS env σ a ∨ H a = none) ∧ ¬ OwnS env' σ a ∧ ¬ InPot G a

section
variable {G : Gh} {F F1 F2 : AP1} {env env1 env2 : Env} {σ : L2.St} {H H1 H2 : Hp} {v w : Val} {x y : V}

theorem R.ownF (r : R G F env σ H) {a : Addr} (h : OwnS env σ a) : ¬ F a := by
  obtain ⟨i, v, e, o, s⟩ := h
  obtain ⟨x, s', rv⟩ := r.rep i v e
  rw [s] at s'; cases s'
  cases v with
  | d _ => cases o
  | pot => cases o
  | own xs => obtain ⟨a', vs, e1, h1, _⟩ := rv; cases e1; exact h1
  | odk kvs => obtain ⟨a', ks, vs, e1, h1, _⟩ := rv; cases e1; exact h1
theorem R.ownL (r : R G F env σ H) {a : Addr} (h : OwnS env σ a) : ∃ o, H a = some o := by
  obtain ⟨i, v, e, o, s⟩ := h
  obtain ⟨x, s', rv⟩ := r.rep i v e
  rw [s] at s'; cases s'
  cases v with
  | d _ => cases o
  | pot => cases o
  | own xs => obtain ⟨a', vs, e1, _, h1, _⟩ := rv; cases e1; exact ⟨_, h1⟩
  | odk kvs => obtain ⟨a', ks, vs, e1, _, _, _, _, h1⟩ := rv; cases e1; exact ⟨_, h1⟩
theorem R.potF (r : R G F env σ H) {a : Addr} (h : InPot G a) : ¬ F a := by
  obtain ⟨p, g, e, h⟩ := h
  obtain ⟨_, h1, h2, _⟩ := r.pt p g e
  rcases h with rfl | rfl
  · exact h1
  · exact h2
theorem R.potL (r : R G F env σ H) {a : Addr} (h : InPot G a) : ∃ o, H a = some o := by
  obtain ⟨p, g, e, h⟩ := h
  obtain ⟨⟨ns, sl, tn, h1, h2, _⟩, _⟩ := r.pt p g e
  rcases h with rfl | rfl
  · exact ⟨_, h1⟩
  · exact ⟨_, h2⟩
theorem R.potO (r : R G F env σ H) {a : Addr} (h : InPot G a) : ¬ OwnS env σ a := fun o => by
  obtain ⟨p, g, e, h⟩ := h
  obtain ⟨_, _, _, n⟩ := r.pt p g e
  have := n a o
  rcases h with rfl | rfl
  · exact this.1 rfl
  · exact this.2 rfl
theorem R.freshF (r : R G F env σ H) {a : Addr} (h : H a = none) : ¬ F a := fun f => by
  obtain ⟨o, e⟩ := r.al a f
  rw [h] at e; cases e
theorem R.freshO (r : R G F env σ H) {a : Addr} (h : H a = none) : ¬ OwnS env σ a := fun f => by
  obtain ⟨o, e⟩ := r.ownL f
  rw [h] at e; cases e
theorem R.freshP (r : R G F env σ H) {a : Addr} (h : H a = none) : ¬ InPot G a := fun f => by
  obtain ⟨o, e⟩ := r.potL f
  rw [h] at e; cases e

theorem Ext.stab (r : R G F env σ H) (e : Ext G F env σ H F1 env1 H1) : ∀ a o, F a → H a = some o → H1 a = some o :=
  fun a o f h => e.keep a o h (fun z => r.ownF z f) (fun z => r.potF z f)
theorem Ext.repD (r : R G F env σ H) (e : Ext G F env σ H F1 env1 H1) {d : PyData} (h : RepD F H d x) : RepD F1 H1 d x :=
  RepD.mono e.grow (e.stab r) d x h
theorem Ext.repA (r : R G F env σ H) (e : Ext G F env σ H F1 env1 H1) {ds : List PyData} {xs : List V} (h : RepAll F H ds xs) : RepAll F1 H1 ds xs :=
  RepAll.mono e.grow (e.stab r) ds xs h
theorem Ext.refl (r : R G F env σ H) : Ext G F env σ H F env H :=
  ⟨r, fun _ _ h _ _ => h, fun _ o h => ⟨o, h⟩, fun _ h => h, fun _ h => .inl h, fun _ h => h⟩
theorem Ext.trans (a : Ext G F env σ H F1 env1 H1) (b : Ext G F1 env1 σ H1 F2 env2 H2) : Ext G F env σ H F2 env2 H2 where
  r := b.r
  keep := fun c o h n p => b.keep c o (a.keep c o h n p) (fun z => n (a.ownd c z)) p
  live := fun c o h => let ⟨o1, h1⟩ := a.live c o h; b.live c o1 h1
  grow := fun c h => b.grow c (a.grow c h)
  fro := fun c h => by
    rcases b.fro c h with z | z | z
    · exact a.fro c z
    · exact .inr (.inl (a.ownd c z))
    · refine .inr (.inr ?_)
      cases q : H c with
      | none => rfl
      | some o => obtain ⟨o', e⟩ := a.live c o q; rw [z] at e; cases e
  ownd := fun c h => a.ownd c (b.ownd c h)
theorem Ext.free (a : Ext G F env σ H F1 env1 H1) {c : Addr} (h : H1 c = none) : H c = none := by
  cases q : H c with
  | none => rfl
  | some o => obtain ⟨o', e⟩ := a.live c o q; rw [h] at e; cases e

/-- a value that stood stays through a further step -/
theorem Res.step (r1 : R G F1 env1 σ H1) (q : Res G env σ H F1 env1 H1 v x) (e : Ext G F1 env1 σ H1 F2 env2 H2) : Res G env σ H F2 env2 H2 v x := by
  have kp : ∀ a o, H1 a = some o → ¬ OwnS env1 σ a → ¬ InPot G a → H2 a = some o := e.keep
  have nF : ∀ a o, H1 a = some o → ¬ F1 a → ¬ OwnS env1 σ a → ¬ F2 a := fun a o h n n2 f => by
    rcases e.fro a f with z | z | z
    · exact n z
    · exact n2 z
    · rw [h] at z; cases z
  refine ⟨?_, fun ho a ea => ?_⟩
  · cases v with
    | d z => exact e.repD r1 q.rep
    | pot => exact q.rep
    | own xs =>
      obtain ⟨a, vs, ea, n, ha, rr⟩ := q.rep
      obtain ⟨_, o2, o3⟩ := q.one rfl a ea
      exact ⟨a, vs, ea, nF a _ ha n o2, kp a _ ha o2 o3, e.repA r1 rr⟩
    | odk kvs =>
      obtain ⟨a, ks, vs, ea, n, hk, rr, nd, ha⟩ := q.rep
      obtain ⟨_, o2, o3⟩ := q.one rfl a ea
      exact ⟨a, ks, vs, ea, nF a _ ha n o2, hk, e.repA r1 rr, nd, kp a _ ha o2 o3⟩
  · obtain ⟨o1, o2, o3⟩ := q.one ho a ea
    exact ⟨o1, fun z => o2 (e.ownd a z), o3⟩
/-- .. from the beginning of a step further back -/
theorem Res.back (a : Ext G F env σ H F1 env1 H1) (q : Res G env1 σ H1 F2 env2 H2 v x) : Res G env σ H F2 env2 H2 v x :=
  ⟨q.rep, fun ho c ec => by
    obtain ⟨o1, o2, o3⟩ := q.one ho c ec
    refine ⟨?_, o2, o3⟩
    rcases o1 with z | z
    · exact .inl (a.ownd c z)
    · exact .inr (a.free z)⟩
theorem Res.imm {z : PyData} (h : RepD F1 H1 z x) : Res G env σ H F1 env1 H1 (.d z) x := ⟨h, fun ho => by cases ho⟩

/-- a new object, which nobody writes any more -/
theorem Ext.shared (r : R G F env σ H) {p : Addr} {o : HO} (hp : H p = none) : Ext G F env σ H (fun a => F a ∨ a = p) env (upd H p o) := by
  have np : ∀ a u, H a = some u → a ≠ p := fun a u h e => by subst e; rw [hp] at h; cases h
  have k : ∀ a u, H a = some u → upd H p o a = some u := fun a u h => by rw [upd_ne (np a u h)]; exact h
  refine ⟨⟨r.len, fun i v e => ?_, r.sep, fun a f => ?_, fun q g e => ?_⟩, fun a u h _ _ => k a u h, fun a u h => ⟨u, k a u h⟩, fun a h => .inl h, fun a h => ?_, fun _ h => h⟩
  · obtain ⟨x, sx, rv⟩ := r.rep i v e
    refine ⟨x, sx, ?_⟩
    have gr : ∀ a, F a → F a ∨ a = p := fun a h => .inl h
    have st : ∀ a u, F a → H a = some u → upd H p o a = some u := fun a u _ h => k a u h
    cases v with
    | d z => exact RepD.mono gr st _ _ rv
    | pot => exact rv
    | own xs =>
      obtain ⟨a, vs, ea, n, ha, rr⟩ := rv
      exact ⟨a, vs, ea, fun z => z.elim n (np a _ ha), k a _ ha, RepAll.mono gr st _ _ rr⟩
    | odk kvs =>
      obtain ⟨a, ks, vs, ea, n, hk, rr, nd, ha⟩ := rv
      exact ⟨a, ks, vs, ea, fun z => z.elim n (np a _ ha), hk, RepAll.mono gr st _ _ rr, nd, k a _ ha⟩
  · rcases f with f | rfl
    · obtain ⟨u, h⟩ := r.al a f
      exact ⟨u, k a u h⟩
    · exact ⟨o, upd_same⟩
  · obtain ⟨⟨ns, sl, tn, h1, h2, h3⟩, h4, h5, h6⟩ := r.pt q g e
    exact ⟨⟨ns, sl, tn, k _ _ h1, k _ _ h2, h3⟩, fun z => z.elim h4 (np _ _ h1), fun z => z.elim h5 (np _ _ h2), h6⟩
  · rcases h with h | rfl
    · exact .inl h
    · exact .inr (.inr hp)
/-- a new object that the one who made it holds alone -/
theorem Ext.lone (r : R G F env σ H) {p : Addr} {o : HO} (hp : H p = none) : Ext G F env σ H F env (upd H p o) := by
  have np : ∀ a u, H a = some u → a ≠ p := fun a u h e => by subst e; rw [hp] at h; cases h
  have k : ∀ a u, H a = some u → upd H p o a = some u := fun a u h => by rw [upd_ne (np a u h)]; exact h
  refine ⟨⟨r.len, fun i v e => ?_, r.sep, fun a f => ?_, fun q g e => ?_⟩, fun a u h _ _ => k a u h, fun a u h => ⟨u, k a u h⟩, fun a h => h, fun a h => .inl h, fun _ h => h⟩
  · obtain ⟨x, sx, rv⟩ := r.rep i v e
    refine ⟨x, sx, ?_⟩
    have gr : ∀ a, F a → F a := fun a h => h
    have st : ∀ a u, F a → H a = some u → upd H p o a = some u := fun a u _ h => k a u h
    cases v with
    | d z => exact RepD.mono gr st _ _ rv
    | pot => exact rv
    | own xs =>
      obtain ⟨a, vs, ea, n, ha, rr⟩ := rv
      exact ⟨a, vs, ea, n, k a _ ha, RepAll.mono gr st _ _ rr⟩
    | odk kvs =>
      obtain ⟨a, ks, vs, ea, n, hk, rr, nd, ha⟩ := rv
      exact ⟨a, ks, vs, ea, n, hk, RepAll.mono gr st _ _ rr, nd, k a _ ha⟩
  · obtain ⟨u, h⟩ := r.al a f
    exact ⟨u, k a u h⟩
  · obtain ⟨⟨ns, sl, tn, h1, h2, h3⟩, h4, h5, h6⟩ := r.pt q g e
    exact ⟨⟨ns, sl, tn, k _ _ h1, k _ _ h2, h3⟩, h4, h5, h6⟩
/-- an object that is held alone by nobody's name is from now on shared: at a, of the list vs -/
theorem Ext.froze (r : R G F env σ H) {a : Addr} {o : HO} (ha : H a = some o) (n1 : ¬ OwnS env σ a) (n2 : ¬ InPot G a) (hn : ∀ c, ¬ F c → (fun c => F c ∨ c = a) c → c = a := fun c h h2 => h2.resolve_left h) :
    R G (fun c => F c ∨ c = a) env σ H := by
  refine ⟨r.len, fun i v e => ?_, r.sep, fun c f => ?_, fun q g e => ?_⟩
  · obtain ⟨x, sx, rv⟩ := r.rep i v e
    refine ⟨x, sx, ?_⟩
    have gr : ∀ c, F c → F c ∨ c = a := fun c h => .inl h
    have st : ∀ c u, F c → H c = some u → H c = some u := fun c u _ h => h
    cases v with
    | d z => exact RepD.mono gr st _ _ rv
    | pot => exact rv
    | own xs =>
      obtain ⟨c, vs, ea, n, hc, rr⟩ := rv
      subst ea
      exact ⟨c, vs, rfl, fun z => z.elim n fun z => n1 ⟨i, _, e, rfl, by rw [← z]; exact sx⟩, hc, RepAll.mono gr st _ _ rr⟩
    | odk kvs =>
      obtain ⟨c, ks, vs, ea, n, hk, rr, nd, hc⟩ := rv
      subst ea
      exact ⟨c, ks, vs, rfl, fun z => z.elim n fun z => n1 ⟨i, _, e, rfl, by rw [← z]; exact sx⟩, hk, RepAll.mono gr st _ _ rr, nd, hc⟩
  · rcases f with f | rfl
    · exact r.al c f
    · exact ⟨o, ha⟩
  · obtain ⟨h1, h4, h5, h6⟩ := r.pt q g e
    exact ⟨h1, fun z => z.elim h4 fun z => n2 ⟨q, g, e, .inl z.symm⟩, fun z => z.elim h5 fun z => n2 ⟨q, g, e, .inr z.symm⟩, h6⟩
end
end Ev
set_option Elab.async false
set_option linter.all false
set_option maxRecDepth 100000
/-! Ev2: the evaluator's judgements; names, constants, operators, tests, displays, subscripts. -/
namespace Ev
open PySem PySem.Spec PyProof.Rows L2

/-! ### weakest readings -/
section
variable (X : Cx)
def wE (e : Expr) : TE := fun σ H Q => ∀ (pins : List (Addr × Obj)) (s : Shared), Inv X pins σ H s → wpAny (model X.prog X.w) X.A (eval e X.env) (EP X pins σ Q) X.xe s
def wT (e : Expr) : TT := fun σ H Q => ∀ (pins : List (Addr × Obj)) (s : Shared), Inv X pins σ H s → wpAny (model X.prog X.w) X.A (isTrue e X.env (eval e X.env)) (TP X pins σ Q) X.xe s
def wW (e : Expr) : TT := fun σ H Q => ∀ (whole : Sem Value) (pins : List (Addr × Obj)) (s : Shared), Inv X pins σ H s → wpAny (model X.prog X.w) X.A (isTrue e X.env whole) (TP X pins σ Q) X.xe s
def wA (es : List Expr) : TA := fun σ H Q => ∀ (pos : Pos) (pins : List (Addr × Obj)) (s : Shared), Inv X pins σ H s → wpAny (model X.prog X.w) X.A (spliced (backTo pos (starEach es X.env))) (AP X pins σ Q) X.xe s
def wS (st : Stmt) : TS := fun D σ H => ∀ (pins : List (Addr × Obj)) (s : Shared), Inv X pins σ H s → wpAny (model X.prog X.w) X.A (exec st X.env) (SP X pins D) X.xe s
def wB (st : List Stmt) : TS := fun D σ H => ∀ (pins : List (Addr × Obj)) (s : Shared), Inv X pins σ H s → wpAny (model X.prog X.w) X.A (execs st X.env) (SP X pins D) X.xe s
variable {X}
theorem pe_w {e : Expr} : PE X e (wE X e) := ⟨fun pins s _ _ _ I h => h pins s I⟩
theorem pt_w {e : Expr} : PT X e (wT X e) := ⟨fun pins s _ _ _ I h => h pins s I⟩
theorem pw_w {e : Expr} : PW X e (wW X e) := ⟨fun wh pins s _ _ _ I h => h wh pins s I⟩
theorem pa_w {e : List Expr} : PA X e (wA X e) := ⟨fun pos pins s _ _ _ I h => h pos pins s I⟩
theorem ps_w {e : Stmt} : PS X e (wS X e) := ⟨fun pins s _ _ _ I h => h pins s I⟩
theorem pb_w {e : List Stmt} : PSs X e (wB X e) := ⟨fun pins s _ _ _ I h => h pins s I⟩
theorem w_of {e : Expr} {t : TE} {σ H Q} (h : PE X e t) (q : t σ H Q) : wE X e σ H Q := fun pins s I => h.run pins s σ H Q I q
theorem wt_of {e : Expr} {t : TT} {σ H Q} (h : PT X e t) (q : t σ H Q) : wT X e σ H Q := fun pins s I => h.run pins s σ H Q I q
theorem ww_of {e : Expr} {t : TT} {σ H Q} (h : PW X e t) (q : t σ H Q) : wW X e σ H Q := fun wh pins s I => h.run wh pins s σ H Q I q
theorem wa_of {e : List Expr} {t : TA} {σ H Q} (h : PA X e t) (q : t σ H Q) : wA X e σ H Q := fun pos pins s I => h.run pos pins s σ H Q I q
theorem ws_of {e : Stmt} {t : TS} {D σ H} (h : PS X e t) (q : t D σ H) : wS X e D σ H := fun pins s I => h.run pins s σ H D I q
theorem wb_of {e : List Stmt} {t : TS} {D σ H} (h : PSs X e t) (q : t D σ H) : wB X e D σ H := fun pins s I => h.run pins s σ H D I q
end

/-! ### a def's promise by values -/
abbrev FSpec := List Val → (Val → Prop) → Prop
def RepVs (G : Gh) (F : AP1) (H : Hp) : List Val → List V → Prop
  | [], xs => xs = []
  | v :: vs, xs => ∃ x r, xs = x :: r ∧ (RepV G F H v x ∧ isOwn v = false) ∧ RepVs G F H vs r
/-- behind a call -/
structure CEnd (G : Gh) (F : AP1) (H : Hp) (F' : AP1) (H' : Hp) : Prop where
  keep : ∀ a o, H a = some o → ¬ InPot G a → H' a = some o
  live : ∀ a o, H a = some o → ∃ o', H' a = some o'
  grow : ∀ a, F a → F' a
  fro : ∀ a, F' a → F a ∨ H a = none
  al : ∀ a, F' a → ∃ o, H' a = some o
  pt : ∀ p g, G = some (p, g) → PotOk H' p g
structure CBeg (G : Gh) (F : AP1) (H : Hp) : Prop where
  al : ∀ a, F a → ∃ o, H a = some o
  pt : ∀ p g, G = some (p, g) → PotOk H p g ∧ ¬ F p ∧ ¬ F g
structure CRes (G : Gh) (H : Hp) (F' : AP1) (H' : Hp) (v : Val) (x : V) : Prop where
  rep : RepV G F' H' v x
  one : isOwn v = true → ∀ a, x = .ref a → H a = none ∧ ¬ InPot G a
def spV (n : Nat) (sp : FSpec) : Sp := fun vs H Q _ => vs.length = n ∧ ∃ (G : Gh) (F : AP1) (args : List Val) (Φ : Val → Prop), CBeg G F H ∧ RepVs G F H args vs ∧ sp args Φ ∧
  ∀ v F' H' x, CEnd G F H F' H' → CRes G H F' H' v x → Φ v → Q x H'
structure FnS where
  name : Str
  ps : List Str
  sp : FSpec
structure CallOk (X : Cx) (f : FnS) : Prop where
  ex : ∃ (k : Nat) (a : Addr) (fd : FuncData), FnOk X.prog X.w X.K X.mg X.base CX0 k a fd f.ps (spV f.ps.length f.sp) ∧ Room k X.A ∧ X.mg f.name = some (.ref a) ∧ PySem.W.keepIn X.K (.ref a) = true ∧ Binds X.K fd f.ps []

/-! ### where one stands -/
def bltNames : List Str := ["len", "range", "tuple", "list", "sum", "abs", "min", "max", "sorted", "enumerate", "zip", "isinstance", "int", "bool", "repr", "any", "all", "set", "dict", "str", "reversed"]
structure SC where
  N : List Str
  sc : Scope
  fns : List FnS
  glb : List (Str × Int)
  grd : Bool
  own : List Str
structure Fits (C : SC) (X : Cx) : Prop where
  n : X.N = C.N
  nd : X.N.Nodup
  sc : X.env.scope = C.sc
  kind : X.env.scope.kind = .function
  calm : X.calm = true
  xe : X.xe = fun _ _ => False
  fn : ∀ x ∈ C.own, X.fn x = true
  blt : ∀ x ∈ bltNames, X.mg x = none
  glb : ∀ p ∈ C.glb, ∃ t, X.mg p.1 = some (.int p.2 t)
  fns : ∀ f ∈ C.fns, CallOk X f
  grd : C.grd = true → X.A.guards = some []
  units : X.A.units + 65 < cLine

/-! ### operands -/
inductive Rv where
  | v (x : Val)
  | s (i : Nat)
def Rv.get (env : Env) : Rv → Option Val
  | .v x => some x
  | .s i => match env[i]? with
    | some (some x) => some x
    | _ => none
abbrev DO := Env → (Rv → Env → Prop) → Prop
abbrev DV := Env → (Val → Env → Prop) → Prop
abbrev DB := Env → (Bool → Env → Prop) → Prop
abbrev DA := Env → (List Val → Env → Prop) → Prop
def ResR (G : Gh) (env : Env) (σ : L2.St) (H : Hp) (F' : AP1) (env' : Env) (H' : Hp) : Rv → V → Prop
  | .v v, x => Res G env σ H F' env' H' v x
  | .s i, x => σ[i]? = some (some x)
/-- the soundness of an operand, a test, an argument list -/
def SO (C : SC) (e : Expr) (d : DO) : Prop := ∀ (X : Cx), Fits C X → ∀ (G : Gh) (F : AP1) (env : Env) (σ : L2.St) (H : Hp) (Q : VK) (Φ : Rv → Env → Prop), R G F env σ H → d env Φ →
  (∀ r env' F' H' x, Ext G F env σ H F' env' H' → ResR G env σ H F' env' H' r x → Φ r env' → Q x H') → wE X e σ H Q
def STe (C : SC) (e : Expr) (d : DB) : Prop := ∀ (X : Cx), Fits C X → ∀ (G : Gh) (F : AP1) (env : Env) (σ : L2.St) (H : Hp) (Q : Bool → Hp → Prop) (Φ : Bool → Env → Prop), R G F env σ H → d env Φ →
  (∀ b env' F' H', Ext G F env σ H F' env' H' → Φ b env' → Q b H') → wT X e σ H Q
def SW (C : SC) (e : Expr) (d : DB) : Prop := ∀ (X : Cx), Fits C X → ∀ (G : Gh) (F : AP1) (env : Env) (σ : L2.St) (H : Hp) (Q : Bool → Hp → Prop) (Φ : Bool → Env → Prop), R G F env σ H → d env Φ →
  (∀ b env' F' H', Ext G F env σ H F' env' H' → Φ b env' → Q b H') → wW X e σ H Q
def SA (C : SC) (es : List Expr) (d : DA) : Prop := ∀ (X : Cx), Fits C X → ∀ (G : Gh) (F : AP1) (env : Env) (σ : L2.St) (H : Hp) (Q : List V → Hp → Prop) (Φ : List Val → Env → Prop), R G F env σ H → d env Φ →
  (∀ vs env' F' H' xs, Ext G F env σ H F' env' H' → RepVs G F' H' vs xs → Φ vs env' → Q xs H') → wA X es σ H Q

section
variable {G : Gh} {F F1 F2 : AP1} {env env1 env2 : Env} {σ : L2.St} {H H1 H2 : Hp} {v w : Val} {x y : V} {r : Rv}
theorem get_s {i : Nat} (h : Rv.get env (.s i) = some v) : env[i]? = some (some v) := by
  have h : (match env[i]? with
    | some (some x) => some x
    | _ => none) = some v := h
  split at h
  · rename_i z q; cases h; exact q
  · cases h
/-- an operand as it is when it is used -/
theorem ResR.at (r1 : R G F1 env1 σ H1) (q : ResR G env σ H F1 env1 H1 r x) (g : r.get env1 = some v) : RepV G F1 H1 v x := by
  cases r with
  | v z => cases g; exact q.rep
  | s i =>
    obtain ⟨x', s', rv⟩ := r1.rep i v (get_s g)
    have q' : σ[i]? = some (some x) := q
    rw [q'] at s'; cases s'
    exact rv
theorem ResR.step (r1 : R G F1 env1 σ H1) (q : ResR G env σ H F1 env1 H1 r x) (e : Ext G F1 env1 σ H1 F2 env2 H2) : ResR G env σ H F2 env2 H2 r x := by
  cases r with
  | v z => exact Res.step r1 q e
  | s i => exact q
theorem ResR.back (a : Ext G F env σ H F1 env1 H1) (q : ResR G env1 σ H1 F2 env2 H2 r x) : ResR G env σ H F2 env2 H2 r x := by
  cases r with
  | v z => exact Res.back a q
  | s i => exact q
end

/-! ### sharing -/
def shR : Rv → Env → (Val → Env → Prop) → Prop
  | .v (.own xs), env, Φ => Φ (.d (.list xs)) env
  | .v (.d x), env, Φ => Φ (.d x) env
  | .v .pot, env, Φ => Φ .pot env
  | .v (.odk _), _, _ => False
  | .s i, env, Φ => match env[i]? with
    | some (some (.own xs)) => Φ (.d (.list xs)) (env.set i (some (.d (.list xs))))
    | some (some (.d x)) => Φ (.d x) env
    | some (some .pot) => Φ .pot env
    | _ => False
section
variable {G : Gh} {F F1 F2 : AP1} {env env1 env2 : Env} {σ : L2.St} {H H1 H2 : Hp} {v w : Val} {x y : V} {r : Rv}
theorem setEnv_get {i j : Nat} {z : Val} (h : (env.set i (some z))[j]? = some (some w)) : (j = i ∧ w = z) ∨ (j ≠ i ∧ env[j]? = some (some w)) := by
  by_cases e : i = j
  · subst e
    by_cases hl : i < env.length
    · rw [List.getElem?_set_self hl] at h; cases h; exact .inl ⟨rfl, rfl⟩
    · rw [List.getElem?_eq_none (by simpa using hl)] at h; cases h
  · rw [List.getElem?_set_ne e] at h
    exact .inr ⟨fun z => e z.symm, h⟩
theorem ownS_unset {i : Nat} {z : PyData} {a : Addr} (h : OwnS (env.set i (some (.d z))) σ a) : OwnS env σ a ∧ ∀ x, σ[i]? = some (some x) → (∃ v, env[i]? = some (some v) ∧ isOwn v = true) → True := by
  obtain ⟨j, v, e, o, s⟩ := h
  rcases setEnv_get e with ⟨_, rfl⟩ | ⟨_, e⟩
  · cases o
  · exact ⟨⟨j, v, e, o, s⟩, fun _ _ _ => trivial⟩
theorem share {Φ : Val → Env → Prop} (e1 : Ext G F env σ H F1 env1 H1) (q : ResR G env σ H F1 env1 H1 r x) (h : shR r env1 Φ) :
    ∃ F2 env2 v, Ext G F env σ H F2 env2 H1 ∧ (∀ a, F1 a → F2 a) ∧ RepV G F2 H1 v x ∧ isOwn v = false ∧ Φ v env2 := by
  cases r with
  | v z =>
    have q : Res G env σ H F1 env1 H1 z x := q
    cases z with
    | d u => exact ⟨F1, env1, .d u, e1, fun _ h => h, q.rep, rfl, h⟩
    | pot => exact ⟨F1, env1, .pot, e1, fun _ h => h, q.rep, rfl, h⟩
    | odk _ => exact h.elim
    | own xs =>
      obtain ⟨a, vs, ea, n, ha, rr⟩ := q.rep
      obtain ⟨o1, o2, o3⟩ := q.one rfl a ea
      refine ⟨fun c => F1 c ∨ c = a, env1, .d (.list xs), ⟨Ext.froze e1.r ha o2 o3 (fun c h h2 => h2.resolve_left h), e1.keep, e1.live, fun c hc => .inl (e1.grow c hc), fun c hc => ?_, e1.ownd⟩, fun _ h => .inl h, ?_, rfl, h⟩
      · rcases hc with hc | rfl
        · exact e1.fro c hc
        · exact .inr o1
      · show RepD _ _ _ _
        simp only [RepD]
        exact ⟨a, vs, ea, .inr rfl, ha, RepAll.mono (fun _ h => .inl h) (fun _ _ _ h => h) _ _ rr⟩
  | s i =>
    have q : σ[i]? = some (some x) := q
    have h : (match env1[i]? with
      | some (some (.own xs)) => Φ (.d (.list xs)) (env1.set i (some (.d (.list xs))))
      | some (some (.d x)) => Φ (.d x) env1
      | some (some .pot) => Φ .pot env1
      | _ => False) := h
    split at h
    · rename_i xs ei
      obtain ⟨x', sx, rv⟩ := e1.r.rep i _ ei
      rw [q] at sx; cases sx
      obtain ⟨a, vs, ea, n, ha, rr⟩ := rv
      subst ea
      have hi : i < env1.length := (List.getElem?_eq_some_iff.mp ei).1
      have oa : OwnS env1 σ a := ⟨i, _, ei, rfl, q⟩
      have un : ∀ c, OwnS (env1.set i (some (.d (.list xs)))) σ c → OwnS env1 σ c := fun c hc => (ownS_unset hc).1
      have na : ¬ OwnS (env1.set i (some (.d (.list xs)))) σ a := fun ⟨j, v, e, o, s⟩ => by
        rcases setEnv_get e with ⟨_, rfl⟩ | ⟨ne, e⟩
        · cases o
        · exact ne (e1.r.sep j i v _ a e ei o rfl s q)
      have np : ¬ InPot G a := fun z => e1.r.potO z oa
      have gr : ∀ c, F1 c → F1 c ∨ c = a := fun c h => .inl h
      have rd : RepD (fun c => F1 c ∨ c = a) H1 (.list xs) (.ref a) := by
        simp only [RepD]
        exact ⟨a, vs, rfl, .inr rfl, ha, RepAll.mono gr (fun _ _ _ h => h) _ _ rr⟩
      refine ⟨fun c => F1 c ∨ c = a, env1.set i (some (.d (.list xs))), .d (.list xs), ⟨⟨?_, fun j w ej => ?_, fun j k w u c ej ek ow ou sj sk => ?_, fun c fc => ?_, fun p g eg => ?_⟩, e1.keep, e1.live, fun c hc => .inl (e1.grow c hc), fun c hc => ?_, fun c hc => e1.ownd c (un c hc)⟩, gr, rd, rfl, h⟩
      · rw [List.length_set]; exact e1.r.len
      · rcases setEnv_get ej with ⟨rfl, rfl⟩ | ⟨ne, ej⟩
        · exact ⟨_, q, rd⟩
        · obtain ⟨z, sz, rz⟩ := e1.r.rep j w ej
          refine ⟨z, sz, ?_⟩
          cases w with
          | d u => exact RepD.mono gr (fun _ _ _ h => h) _ _ rz
          | pot => exact rz
          | own ys =>
            obtain ⟨c, us, ec, nc, hc, rc⟩ := rz
            subst ec
            exact ⟨c, us, rfl, fun z => z.elim nc fun z => na ⟨j, _, by rw [List.getElem?_set_ne (fun z => ne z.symm)]; exact ej, rfl, by rw [← z]; exact sz⟩, hc, RepAll.mono gr (fun _ _ _ h => h) _ _ rc⟩
          | odk kvs =>
            obtain ⟨c, ks, us, ec, nc, hk, rc, nd, hc⟩ := rz
            subst ec
            exact ⟨c, ks, us, rfl, fun z => z.elim nc fun z => na ⟨j, _, by rw [List.getElem?_set_ne (fun z => ne z.symm)]; exact ej, rfl, by rw [← z]; exact sz⟩, hk, RepAll.mono gr (fun _ _ _ h => h) _ _ rc, nd, hc⟩
      · rcases setEnv_get ej with ⟨_, rfl⟩ | ⟨_, ej⟩
        · cases ow
        · rcases setEnv_get ek with ⟨_, rfl⟩ | ⟨_, ek⟩
          · cases ou
          · exact e1.r.sep j k w u c ej ek ow ou sj sk
      · rcases fc with fc | rfl
        · exact e1.r.al c fc
        · exact ⟨_, ha⟩
      · obtain ⟨h1, h2, h3, h4⟩ := e1.r.pt p g eg
        refine ⟨h1, fun z => z.elim h2 fun z => np ⟨p, g, eg, .inl z.symm⟩, fun z => z.elim h3 fun z => np ⟨p, g, eg, .inr z.symm⟩, fun c hc => h4 c (un c hc)⟩
      · rcases hc with hc | rfl
        · exact e1.fro c hc
        · exact .inr (.inl (e1.ownd c oa))
    · rename_i u ei
      obtain ⟨x', sx, rv⟩ := e1.r.rep i _ ei
      rw [q] at sx; cases sx
      exact ⟨F1, env1, _, e1, fun _ h => h, rv, rfl, h⟩
    · rename_i ei
      obtain ⟨x', sx, rv⟩ := e1.r.rep i _ ei
      rw [q] at sx; cases sx
      exact ⟨F1, env1, _, e1, fun _ h => h, rv, rfl, h⟩
    · exact h.elim
end
end Ev
set_option Elab.async false
set_option linter.all false
set_option maxRecDepth 100000
/-! Ev3: lists of values; operators and comparisons by value. -/
namespace Ev
open PySem PySem.Spec PyProof.Rows L2

section
variable {F : AP1} {H : Hp}
theorem RepAll.nil : RepAll F H [] [] := by simp only [RepAll]
theorem RepAll.cons {x : PyData} {v : V} {xs : List PyData} {vs : List V} (h : RepD F H x v) (t : RepAll F H xs vs) : RepAll F H (x :: xs) (v :: vs) := by
  simp only [RepAll]; exact ⟨v, vs, rfl, h, t⟩
theorem RepAll.inv {x : PyData} {xs : List PyData} {vs : List V} (h : RepAll F H (x :: xs) vs) : ∃ v r, vs = v :: r ∧ RepD F H x v ∧ RepAll F H xs r := by
  simp only [RepAll] at h; exact h
theorem RepAll.inv0 {vs : List V} (h : RepAll F H [] vs) : vs = [] := by
  simp only [RepAll] at h; exact h
theorem RepAll.append {xs ys : List PyData} {vs ws : List V} (h : RepAll F H xs vs) (t : RepAll F H ys ws) : RepAll F H (xs ++ ys) (vs ++ ws) := by
  induction xs generalizing vs with
  | nil => cases h.inv0; exact t
  | cons x xs ih => obtain ⟨v, r, rfl, h1, h2⟩ := h.inv; exact .cons h1 (ih h2)
theorem RepAll.length {xs : List PyData} {vs : List V} (h : RepAll F H xs vs) : vs.length = xs.length := by
  induction xs generalizing vs with
  | nil => cases h.inv0; rfl
  | cons x xs ih => obtain ⟨v, r, rfl, h1, h2⟩ := h.inv; simp [ih h2]
theorem RepAll.get {xs : List PyData} {vs : List V} (h : RepAll F H xs vs) {i : Nat} {x : PyData} (e : xs[i]? = some x) : ∃ v, vs[i]? = some v ∧ RepD F H x v := by
  induction xs generalizing vs i with
  | nil => simp at e
  | cons y xs ih =>
    obtain ⟨v, r, rfl, h1, h2⟩ := h.inv
    cases i with
    | zero => simp at e; subst e; exact ⟨v, by simp, h1⟩
    | succ i => simpa using ih h2 (i := i) (by simpa using e)
theorem RepAll.take {xs : List PyData} {vs : List V} (h : RepAll F H xs vs) (n : Nat) : RepAll F H (xs.take n) (vs.take n) := by
  induction n generalizing xs vs with
  | zero => simpa using RepAll.nil
  | succ n ih => cases xs with
    | nil => cases h.inv0; simpa using RepAll.nil
    | cons x xs => obtain ⟨v, r, rfl, h1, h2⟩ := h.inv; exact .cons h1 (ih h2)
theorem RepAll.drop {xs : List PyData} {vs : List V} (h : RepAll F H xs vs) (n : Nat) : RepAll F H (xs.drop n) (vs.drop n) := by
  induction n generalizing xs vs with
  | zero => simpa using h
  | succ n ih => cases xs with
    | nil => cases h.inv0; simpa using RepAll.nil
    | cons x xs => obtain ⟨v, r, rfl, h1, h2⟩ := h.inv; simpa using ih h2
theorem RepAll.reverse {xs : List PyData} {vs : List V} (h : RepAll F H xs vs) : RepAll F H xs.reverse vs.reverse := by
  induction xs generalizing vs with
  | nil => cases h.inv0; exact .nil
  | cons x xs ih => obtain ⟨v, r, rfl, h1, h2⟩ := h.inv; simpa using (ih h2).append (.cons h1 .nil)
theorem RepAll.set {xs : List PyData} {vs : List V} (h : RepAll F H xs vs) {x : PyData} {v : V} (hx : RepD F H x v) (i : Nat) : RepAll F H (xs.set i x) (vs.set i v) := by
  induction xs generalizing vs i with
  | nil => cases h.inv0; exact .nil
  | cons y xs ih =>
    obtain ⟨w, r, rfl, h1, h2⟩ := h.inv
    cases i with
    | zero => exact .cons hx h2
    | succ i => exact .cons h1 (ih h2 i)
theorem RepAll.eraseIdx {xs : List PyData} {vs : List V} (h : RepAll F H xs vs) (i : Nat) : RepAll F H (xs.eraseIdx i) (vs.eraseIdx i) := by
  induction xs generalizing vs i with
  | nil => cases h.inv0; exact .nil
  | cons y xs ih =>
    obtain ⟨w, r, rfl, h1, h2⟩ := h.inv
    cases i with
    | zero => exact h2
    | succ i => exact .cons h1 (ih h2 i)
theorem RepAll.dropLast {xs : List PyData} {vs : List V} (h : RepAll F H xs vs) : RepAll F H xs.dropLast vs.dropLast := by
  rw [List.dropLast_eq_take, List.dropLast_eq_take, h.length]
  exact h.take _
theorem RepAll.rep {xs : List PyData} {vs : List V} (h : RepAll F H xs vs) : ∀ k : Nat, RepAll F H (List.replicate k xs).flatten (List.replicate k vs).flatten
  | 0 => by simpa using RepAll.nil
  | k + 1 => by rw [List.replicate_succ, List.replicate_succ, List.flatten_cons, List.flatten_cons]; exact h.append (RepAll.rep h k)
theorem RepAll.ints {ns : List Int} {vs : List V} (h : RepAll F H (ns.map PyData.int) vs) : vs = ns.map V.int := by
  induction ns generalizing vs with
  | nil => exact h.inv0
  | cons n ns ih => obtain ⟨v, r, rfl, h1, h2⟩ := h.inv; simp only [RepD] at h1; subst h1; rw [ih h2]; rfl
theorem RepAll.ofInts (ns : List Int) : RepAll F H (ns.map PyData.int) (ns.map V.int) := by
  induction ns with
  | nil => exact .nil
  | cons n ns ih => exact .cons (by simp only [RepD]) ih
theorem RepAll.bools {bs : List Bool} {vs : List V} (h : RepAll F H (bs.map PyData.bool) vs) : vs = bs.map V.bl := by
  induction bs generalizing vs with
  | nil => exact h.inv0
  | cons n ns ih => obtain ⟨v, r, rfl, h1, h2⟩ := h.inv; simp only [RepD] at h1; subst h1; rw [ih h2]; rfl
end

/-! ### operators by value -/
section
variable (X : Cx)
def wOp (f : Value → Value → Sem Value) : R2 := fun x y H Q => ∀ (pins : List (Addr × Obj)) (s : Shared) (σ : L2.St) (v u : Value), Inv X pins σ H s → RelV x v → RelV y u → wpAny (model X.prog X.w) X.A (f v u) (EP X pins σ Q) X.xe s
variable {X}
theorem opr_w {f : Value → Value → Sem Value} : OpR X f (wOp X f) := fun pins s σ _ _ _ v u _ I rx ry h => h pins s σ v u I rx ry
theorem wop_of {f : Value → Value → Sem Value} {r : R2} {x y : V} {H : Hp} {Q : VK} (h : OpR X f r) (q : r x y H Q) : wOp X f x y H Q := fun pins s σ v u I rx ry => h pins s σ _ x y v u Q I rx ry q
end
abbrev Opd := Val → Val → (Val → Prop) → Prop
def OpS (f : Value → Value → Sem Value) (o : Opd) : Prop := ∀ (C : SC) (X : Cx), Fits C X → ∀ (G : Gh) (F : AP1) (env : Env) (σ : L2.St) (H : Hp) (v w : Val) (x y : V) (Q : VK) (Φ : Val → Prop), R G F env σ H → RepV G F H v x → RepV G F H w y → o v w Φ →
  (∀ z F' H' zx, Ext G F env σ H F' env H' → Res G env σ H F' env H' z zx → Φ z → Q zx H') → wOp X f x y H Q
@[simp] def dBin (o : Opd) (da db : DO) : DO := fun env Φ => da env fun ra env1 => db env1 fun rb env2 => ∃ v w, ra.get env2 = some v ∧ rb.get env2 = some w ∧ o v w fun z => Φ (.v z) env2
section
variable {C : SC} {a b : Expr} {da db : DO} {pos : Pos}
/-- two operands, then what is done with them -/
theorem two {X : Cx} (fx : Fits C X) {G : Gh} {F : AP1} {env : Env} {σ : L2.St} {H : Hp} {P : V → V → Hp → Prop} {Φ : Val → Val → Env → Prop} (ha : SO C a da) (hb : SO C b db) (r : R G F env σ H)
    (h : da env fun ra env1 => db env1 fun rb env2 => ∃ v w, ra.get env2 = some v ∧ rb.get env2 = some w ∧ Φ v w env2)
    (k : ∀ v w env2 F2 H2 x y, Ext G F env σ H F2 env2 H2 → RepV G F2 H2 v x → RepV G F2 H2 w y → Φ v w env2 → P x y H2) :
    wE X a σ H fun x H1 => wE X b σ H1 fun y H2 => P x y H2 := by
  refine ha X fx G F env σ H _ _ r h fun r1 env1 F1 H1 x e1 q1 h1 => ?_
  refine hb X fx G F1 env1 σ H1 _ _ e1.r h1 fun r2 env2 F2 H2 y e2 q2 h2 => ?_
  obtain ⟨v, w, g1, g2, h2⟩ := h2
  have q1' := q1.step e1.r e2
  exact k v w env2 F2 H2 x y (e1.trans e2) (q1'.at e2.r g1) ((q2.back e1).at e2.r g2) h2
theorem so_bin {op : Operator} {o : Opd} (ho : OpS (binaryOp op) o) (ha : SO C a da) (hb : SO C b db) : SO C (.BinOp a op b pos) (dBin o da db) := by
  intro X fx G F env σ H Q Φ r h hQ
  refine w_of (pe_op opr_w pe_w pe_w) ?_
  refine two fx (Φ := fun v w env2 => o v w fun z => Φ (.v z) env2) ha hb r h fun v w env2 F2 H2 x y e rv rw' h2 => ?_
  exact ho C X fx G F2 env2 σ H2 v w x y Q _ e.r rv rw' h2 fun z F3 H3 zx e3 q3 h3 => hQ (.v z) _ _ _ _ (e.trans e3) (Res.back e q3) h3
theorem so_cmp {op : CmpOp} {o : Opd} (ho : OpS (compareOp op) o) (ha : SO C a da) (hb : SO C b db) (hm : behindInMarks op b = false) : SO C (.Compare a [op] [b] pos) (dBin o da db) := by
  intro X fx G F env σ H Q Φ r h hQ
  refine w_of (pe_cmpR opr_w pe_w pe_w hm) ?_
  refine two fx (Φ := fun v w env2 => o v w fun z => Φ (.v z) env2) ha hb r h fun v w env2 F2 H2 x y e rv rw' h2 => ?_
  exact ho C X fx G F2 env2 σ H2 v w x y Q _ e.r rv rw' h2 fun z F3 H3 zx e3 q3 h3 => hQ (.v z) _ _ _ _ (e.trans e3) (Res.back e q3) h3
end

section
variable {G : Gh} {F : AP1} {env : Env} {σ : L2.St} {H : Hp}
theorem res_tup (r : R G F env σ H) {p : Addr} (hp : H p = none) {zs : List PyData} {vs : List V} (rr : RepAll F H zs vs) :
    Ext G F env σ H (fun a => F a ∨ a = p) env (upd H p (.tup vs)) ∧ Res G env σ H (fun a => F a ∨ a = p) env (upd H p (.tup vs)) (.d (.tuple zs)) (.ref p) := by
  have e := Ext.shared r (o := .tup vs) hp
  refine ⟨e, .imm ?_⟩
  simp only [RepD]
  exact ⟨p, vs, rfl, .inr rfl, upd_same, e.repA r rr⟩
theorem res_own (r : R G F env σ H) {p : Addr} (hp : H p = none) {zs : List PyData} {vs : List V} (rr : RepAll F H zs vs) :
    Ext G F env σ H F env (upd H p (.lst vs)) ∧ Res G env σ H F env (upd H p (.lst vs)) (.own zs) (.ref p) := by
  have e := Ext.lone r (o := .lst vs) hp
  refine ⟨e, ⟨⟨p, vs, rfl, r.freshF hp, upd_same, e.repA r rr⟩, fun _ a ea => ?_⟩⟩
  cases ea
  exact ⟨.inr hp, r.freshO hp, r.freshP hp⟩
end

/-! ### views -/
def toI : Val → Option Int
  | .d (.int i) => some i
  | _ => none
def toL : Val → Option (List PyData)
  | .own xs => some xs
  | .d (.list xs) => some xs
  | _ => none
def toT : Val → Option (List PyData)
  | .d (.tuple xs) => some xs
  | _ => none
def toD : Val → Option PyData
  | .d x => some x
  | .own xs => some (.list xs)
  | _ => none
/-- a list or a tuple -/
def toS : Val → Option (List PyData)
  | .own xs => some xs
  | .d (.list xs) => some xs
  | .d (.tuple xs) => some xs
  | _ => none
section
variable {G : Gh} {F : AP1} {env : Env} {σ : L2.St} {H : Hp} {v : Val} {x : V}
theorem rep_I {i : Int} (h : toI v = some i) (r : RepV G F H v x) : v = .d (.int i) ∧ x = .int i := by
  unfold toI at h
  split at h
  · rename_i j
    cases h
    have r : RepD F H (.int i) x := r
    simp only [RepD] at r
    exact ⟨rfl, r⟩
  · cases h
theorem rep_L {xs : List PyData} (h : toL v = some xs) (r : RepV G F H v x) : ∃ a vs, x = .ref a ∧ H a = some (.lst vs) ∧ RepAll F H xs vs := by
  unfold toL at h
  split at h
  · cases h
    obtain ⟨a, vs, e, _, ha, rr⟩ := r
    exact ⟨a, vs, e, ha, rr⟩
  · cases h
    have r : RepD F H (.list xs) x := r
    simp only [RepD] at r
    obtain ⟨a, vs, e, _, ha, rr⟩ := r
    exact ⟨a, vs, e, ha, rr⟩
  · cases h
theorem rep_T {xs : List PyData} (h : toT v = some xs) (r : RepV G F H v x) : ∃ a vs, x = .ref a ∧ H a = some (.tup vs) ∧ RepAll F H xs vs ∧ F a := by
  unfold toT at h
  split at h
  · cases h
    have r : RepD F H (.tuple xs) x := r
    simp only [RepD] at r
    obtain ⟨a, vs, e, f, ha, rr⟩ := r
    exact ⟨a, vs, e, ha, rr, f⟩
  · cases h
theorem rep_S {xs : List PyData} (h : toS v = some xs) (r : RepV G F H v x) : ∃ a vs, x = .ref a ∧ (H a = some (.lst vs) ∨ H a = some (.tup vs)) ∧ RepAll F H xs vs := by
  unfold toS at h
  split at h
  · cases h
    obtain ⟨a, vs, e, _, ha, rr⟩ := r
    exact ⟨a, vs, e, .inl ha, rr⟩
  · cases h
    have r : RepD F H (.list xs) x := r
    simp only [RepD] at r
    obtain ⟨a, vs, e, _, ha, rr⟩ := r
    exact ⟨a, vs, e, .inl ha, rr⟩
  · cases h
    have r : RepD F H (.tuple xs) x := r
    simp only [RepD] at r
    obtain ⟨a, vs, e, _, ha, rr⟩ := r
    exact ⟨a, vs, e, .inr ha, rr⟩
  · cases h
theorem rep_Dp {K : PySem.W.Frag} {d : PyData} (h : toD v = some d) (r : RepV G F H v x) : Dp K H x d := by
  unfold toD at h
  split at h
  · cases h
    exact RepD.dp _ _ r
  · cases h
    obtain ⟨a, vs, e, _, ha, rr⟩ := r
    subst e
    exact .lst (SqL.of ha) (RepAll.dp _ _ rr)
  · cases h
end

/-! ### ints -/
@[simp] def oI (c : Int → Int → Prop) (g : Int → Int → Int) : Opd := fun v w Φ => ∃ i j, toI v = some i ∧ toI w = some j ∧ c i j ∧ Φ (.d (.int (g i j)))
@[simp] def oB (g : Int → Int → Bool) : Opd := fun v w Φ => ∃ i j, toI v = some i ∧ toI w = some j ∧ Φ (.d (.bool (g i j)))
theorem ops_I {f : Value → Value → Sem Value} {c : Int → Int → Prop} {g : Int → Int → Int} (ho : ∀ X, OpR X f (rI c fun i j => .int (g i j))) : OpS f (oI c g) := by
  intro C X fx G F env σ H v w x y Q Φ r rv rw' h k
  obtain ⟨i, j, e1, e2, hc, h⟩ := h
  obtain ⟨_, rfl⟩ := rep_I e1 rv
  obtain ⟨_, rfl⟩ := rep_I e2 rw'
  exact wop_of (ho X) ⟨i, j, rfl, rfl, hc, k _ _ _ _ (.refl r) (.imm (by simp only [RepD])) h⟩
theorem ops_I0 {f : Value → Value → Sem Value} {g : Int → Int → Int} (ho : ∀ X, OpR X f (rI0 fun i j => .int (g i j))) : OpS f (oI (fun _ _ => True) g) := by
  intro C X fx G F env σ H v w x y Q Φ r rv rw' h k
  obtain ⟨i, j, e1, e2, hc, h⟩ := h
  obtain ⟨_, rfl⟩ := rep_I e1 rv
  obtain ⟨_, rfl⟩ := rep_I e2 rw'
  exact wop_of (ho X) ⟨i, j, rfl, rfl, k _ _ _ _ (.refl r) (.imm (by simp only [RepD])) h⟩
theorem ops_B {f : Value → Value → Sem Value} {g : Int → Int → Bool} (ho : ∀ X, OpR X f (rI0 fun i j => .bl (g i j))) : OpS f (oB g) := by
  intro C X fx G F env σ H v w x y Q Φ r rv rw' h k
  obtain ⟨i, j, e1, e2, h⟩ := h
  obtain ⟨_, rfl⟩ := rep_I e1 rv
  obtain ⟨_, rfl⟩ := rep_I e2 rw'
  exact wop_of (ho X) ⟨i, j, rfl, rfl, k _ _ _ _ (.refl r) (.imm (by simp only [RepD])) h⟩
theorem OpS.or {f : Value → Value → Sem Value} {o o' : Opd} (h : OpS f o) (h' : OpS f o') : OpS f fun v w Φ => o v w Φ ∨ o' v w Φ := by
  intro C X fx G F env σ H v w x y Q Φ r rv rw' q k
  rcases q with q | q
  · exact h C X fx G F env σ H v w x y Q Φ r rv rw' q k
  · exact h' C X fx G F env σ H v w x y Q Φ r rv rw' q k
/-- t + u, l + m, of tuples, lists -/
def oCatT : Opd := fun v w Φ => ∃ xs ys, toT v = some xs ∧ toT w = some ys ∧ xs.length + ys.length ≤ 16777216 ∧ Φ (.d (.tuple (xs ++ ys)))
def oCatL : Opd := fun v w Φ => ∃ xs ys, toL v = some xs ∧ toL w = some ys ∧ xs.length + ys.length ≤ 16777216 ∧ Φ (.own (xs ++ ys))
def oCatS : Opd := fun v w Φ => ∃ x y, v = .d (.str x) ∧ w = .d (.str y) ∧ x.length + y.length ≤ 16777216 ∧ Φ (.d (.str (x ++ y)))
theorem ops_catT : OpS (binaryOp .Add) oCatT := by
  intro C X fx G F env σ H v w x y Q Φ r rv rw' h k
  obtain ⟨xs, ys, e1, e2, hl, h⟩ := h
  obtain ⟨a, vs, rfl, ha, ra, fa⟩ := rep_T e1 rv
  obtain ⟨b, ws, rfl, hb, rb, fb⟩ := rep_T e2 rw'
  refine wop_of op_catA ⟨a, b, vs, ws, rfl, rfl, SqT.of ha, SqT.of hb, by rw [ra.length, rb.length, sizeLine_eq]; exact hl, fun e0 => ?_, fun _ e0 => ?_, fun _ _ p hp => ?_⟩
  · have hx : xs = [] := List.eq_nil_of_length_eq_zero (by rw [← ra.length, e0]; rfl)
    subst hx
    exact k _ _ _ _ (.refl r) (.imm (by simp only [RepD, List.nil_append]; exact ⟨b, ws, rfl, fb, hb, rb⟩)) h
  · have hy : ys = [] := List.eq_nil_of_length_eq_zero (by rw [← rb.length, e0]; rfl)
    subst hy
    exact k _ _ _ _ (.refl r) (.imm (by simp only [RepD, List.append_nil]; exact ⟨a, vs, rfl, fa, ha, ra⟩)) h
  · obtain ⟨e, q⟩ := res_tup r hp (ra.append rb)
    exact k _ _ _ _ e q h
theorem ops_catL : OpS (binaryOp .Add) oCatL := by
  intro C X fx G F env σ H v w x y Q Φ r rv rw' h k
  obtain ⟨xs, ys, e1, e2, hl, h⟩ := h
  obtain ⟨a, vs, rfl, ha, ra⟩ := rep_L e1 rv
  obtain ⟨b, ws, rfl, hb, rb⟩ := rep_L e2 rw'
  refine wop_of op_cat ⟨a, b, vs, ws, rfl, rfl, ha, hb, by rw [ra.length, rb.length, sizeLine_eq]; exact hl, fun p hp => ?_⟩
  obtain ⟨e, q⟩ := res_own r hp (ra.append rb)
  exact k _ _ _ _ e q h
theorem ops_catS : OpS (binaryOp .Add) oCatS := by
  intro C X fx G F env σ H v w x y Q Φ r rv rw' h k
  obtain ⟨a, b, rfl, rfl, hl, h⟩ := h
  have rv : RepD F H (.str a) x := rv
  have rw' : RepD F H (.str b) y := rw'
  simp only [RepD] at rv rw'
  subst rv rw'
  exact wop_of op_add_str ⟨a, b, rfl, rfl, by rw [sizeLine_eq]; exact hl, k _ _ _ _ (.refl r) (.imm (by simp only [RepD])) h⟩
/-- l * k -/
def oRepL : Opd := fun v w Φ => ∃ xs k, toL v = some xs ∧ toI w = some k ∧ -(2 ^ 63) ≤ k ∧ k < 2 ^ 63 ∧ xs.length * k.toNat ≤ 16777216 ∧ Φ (.own (List.replicate k.toNat xs).flatten)
theorem ops_repL : OpS (binaryOp .Mult) oRepL := by
  intro C X fx G F env σ H v w x y Q Φ r rv rw' h k
  obtain ⟨xs, n, e1, e2, h1, h2, hl, h⟩ := h
  obtain ⟨a, vs, rfl, ha, ra⟩ := rep_L e1 rv
  obtain ⟨_, rfl⟩ := rep_I e2 rw'
  refine wop_of op_rep ⟨a, n, vs, rfl, rfl, ha, h1, h2, by rw [ra.length, sizeLine_eq]; exact hl, fun p hp => ?_⟩
  obtain ⟨e, q⟩ := res_own r hp (ra.rep n.toNat)
  exact k _ _ _ _ e q h
def oRepT : Opd := fun v w Φ => ∃ xs k, toT v = some xs ∧ toI w = some k ∧ xs ≠ [] ∧ 2 ≤ k ∧ k ≤ 1000 ∧ xs.length ≤ 1000 ∧ Φ (.d (.tuple (List.replicate k.toNat xs).flatten))
theorem ops_repT : OpS (binaryOp .Mult) oRepT := by
  intro C X fx G F env σ H v w x y Q Φ r rv rw' h k
  obtain ⟨xs, n, e1, e2, h0, h1, h2, hl, h⟩ := h
  obtain ⟨a, vs, rfl, ha, ra, _⟩ := rep_T e1 rv
  obtain ⟨_, rfl⟩ := rep_I e2 rw'
  refine wop_of op_repT ⟨a, n, vs, rfl, rfl, SqT.of ha, fun z => h0 (List.eq_nil_of_length_eq_zero (by rw [← ra.length, z]; rfl)), h1, h2, by rw [ra.length]; exact hl, fun p hp => ?_⟩
  obtain ⟨e, q⟩ := res_tup r hp (ra.rep n.toNat)
  exact k _ _ _ _ e q h

/-! a tuple repeated: by 1 (itself), by 0 and less (an empty one) -/
theorem tuple_same (l : Addr) (items : Array Value) (n : Nat) (dd : Option Addr) (sl : Array (Option Value)) (x : Int) (u : Tok) (c0 : (decide (x < -(2 ^ 63)) || decide (x ≥ 2 ^ 63)) = false) (c1 : (items.isEmpty || x == 1) = true) :
    Meets (Builtin.«tuple.__mul__» ⟨[.ref l, .int x u], []⟩) (fun _ R s => s.heap.get? l = some { cls := .type "tuple", dict := dd, data := .seq items n, slots := sl } ∧ R (.ok (.ret (Value.ref l))) s) :=
  .of_wp fun prog w A R s h => by
    obtain ⟨hp, g, d, tk, os⟩ := s
    obtain ⟨hl, h⟩ := h
    have f1 := AutoSeq1.idx_int
    wp_walk using wpAny_loadPart' hl
    repeat (first
      | (refine wpAny_ite_false (decide_eq_false (by rw [c0]; exact Bool.false_ne_true)) ?_; wp_walk using wpAny_loadPart' hl)
      | (refine wpAny_ite_true (decide_eq_true (by rw [c1])) ?_; wp_walk using wpAny_loadPart' hl))
    exact ⟨_, rfl, h⟩
theorem tuple_nought (l : Addr) (items : Array Value) (n : Nat) (dd : Option Addr) (sl : Array (Option Value)) (x : Int) (u : Tok) (c0 : (decide (x < -(2 ^ 63)) || decide (x ≥ 2 ^ 63)) = false) (c1 : (items.isEmpty || x == 1) = false) (c2 : (decide (x ≤ 0) || items.isEmpty) = true) :
    Meets (Builtin.«tuple.__mul__» ⟨[.ref l, .int x u], []⟩) (fun _ R s => s.heap.get? l = some { cls := .type "tuple", dict := dd, data := .seq items n, slots := sl } ∧
      R (.ok (.ret (Value.ref s.heap.objs.size))) { s with heap := s.heap.push { cls := Value.type "tuple", data := Data.seq #[] }, toks := s.toks }) :=
  .of_wp fun prog w A R s h => by
    obtain ⟨hp, g, d, tk, os⟩ := s
    obtain ⟨hl, h⟩ := h
    have f1 := AutoSeq1.idx_int
    wp_walk using wpAny_loadPart' hl
    repeat (first
      | (refine wpAny_ite_false (decide_eq_false (by rw [c0]; exact Bool.false_ne_true)) ?_; wp_walk using wpAny_loadPart' hl)
      | (refine wpAny_ite_false (decide_eq_false (by rw [c1]; exact Bool.false_ne_true)) ?_; wp_walk using wpAny_loadPart' hl)
      | (refine wpAny_ite_true (decide_eq_true (by rw [c2])) ?_; wp_walk using wpAny_loadPart' hl))
    exact ⟨_, rfl, h⟩
def rRepFew (K : PySem.W.Frag) : R2 := fun x y H Q => ∃ (l : Addr) (k : Int) (xs : List V), x = .ref l ∧ y = .int k ∧ SqT K H l xs ∧ -(2 ^ 62) ≤ k ∧ k < 2 ^ 62 ∧ ((k = 1 ∧ Q (.ref l) H) ∨ (k ≤ 0 ∧ xs ≠ [] ∧ ∀ p, H p = none → Q (.ref p) (upd H p (.tup []))))
theorem op_repFew {X : Cx} : OpR X (binaryOp .Mult) (rRepFew X.K) := by
  intro pins s σ H x y v u Q J rx ry h
  obtain ⟨l, k, xs, rfl, rfl, hT, b1, b2, q⟩ := h
  cases rx
  obtain ⟨t, rfl⟩ := ry
  obtain ⟨its, r, ⟨⟨cls, dd, data, sl⟩, ho, hc, n, hd⟩, hs⟩ := J.tuple hT
  simp only at hc hd
  subst hc hd
  have c0 : (decide (k < -(2 ^ 63)) || decide (k ≥ 2 ^ 63)) = false := by
    rw [decide_eq_false (by omega), decide_eq_false (by omega)] <;> rfl
  rcases q with ⟨rfl, q⟩ | ⟨hk, hne, q⟩
  · refine wpAny_binaryOp_repeat_ref (T := "tuple") (U := "int") (by decide) ⟨_, ho, rfl⟩ (fun s' => typeIs_int s' 1 t) noFill_tuple_mul F.fills_int_mul F.slot_int_rmul repeat_tuple F.slot_int_index.lookup
      (call_meets F.slot_int_rmul (typeIs_int s 1 t) F.entry_int_rmul (F.args_int_rmul_2 _ _) (int_rmul_tuple 1 t l its.toArray n dd sl)
        ⟨ho, rfl, ⟨_, ho, rfl⟩, call_meets F.slot_tuple_mul ⟨_, ho, rfl⟩ F.entry_tuple_mul (F.args_tuple_mul_2 _ _) (tuple_same l its.toArray n dd sl 1 t c0 (by simp)) ⟨ho, ?_⟩⟩)
    exact ⟨.ref l, H, J, rfl, q⟩
  · have hi : its.toArray.isEmpty = false := by
      cases its with
      | nil => have e := r.length; exact absurd (List.eq_nil_of_length_eq_zero e) hne
      | cons a b => rfl
    have c1 : (its.toArray.isEmpty || k == 1) = false := by
      rw [hi, Bool.false_or]
      exact beq_eq_false_iff_ne.mpr (by omega)
    have c2 : (decide (k ≤ 0) || its.toArray.isEmpty) = true := by
      rw [decide_eq_true hk]; rfl
    refine wpAny_binaryOp_repeat_ref (T := "tuple") (U := "int") (by decide) ⟨_, ho, rfl⟩ (fun s' => typeIs_int s' k t) noFill_tuple_mul F.fills_int_mul F.slot_int_rmul repeat_tuple F.slot_int_index.lookup
      (call_meets F.slot_int_rmul (typeIs_int s k t) F.entry_int_rmul (F.args_int_rmul_2 _ _) (int_rmul_tuple k t l its.toArray n dd sl)
        ⟨ho, rfl, ⟨_, ho, rfl⟩, call_meets F.slot_tuple_mul ⟨_, ho, rfl⟩ F.entry_tuple_mul (F.args_tuple_mul_2 _ _) (tuple_nought l its.toArray n dd sl k t c0 c1 c2) ⟨ho, ?_⟩⟩)
    refine ⟨.ref s.heap.objs.size, _, J.laid (t' := s.toks) (o := .tup []) (fun b ob q => Heap.get?_push_of_some _ q) (Nat.le_refl _) ?_, rfl, q _ (J.hok.fresh (Nat.le_refl _))⟩
    exact ⟨Nat.zero_le _, _, .nil, IsTup.new _ _⟩
def oRepF : Opd := fun v w Φ => ∃ xs k, toT v = some xs ∧ toI w = some k ∧ ((k = 1 ∧ Φ (.d (.tuple xs))) ∨ (k ≤ 0 ∧ -(2 ^ 62) ≤ k ∧ xs ≠ [] ∧ Φ (.d (.tuple []))))
theorem ops_repF : OpS (binaryOp .Mult) oRepF := by
  intro C X fx G F env σ H v w x y Q Φ r rv rw' h k
  obtain ⟨xs, n, e1, e2, h⟩ := h
  obtain ⟨a, vs, rfl, ha, ra, fa⟩ := rep_T e1 rv
  obtain ⟨_, rfl⟩ := rep_I e2 rw'
  rcases h with ⟨rfl, h⟩ | ⟨hk, hb, hne, h⟩
  · refine wop_of op_repFew ⟨a, 1, vs, rfl, rfl, SqT.of ha, by omega, by omega, .inl ⟨rfl, k _ _ _ _ (.refl r) (.imm ?_) h⟩⟩
    simp only [RepD]
    exact ⟨a, vs, rfl, fa, ha, ra⟩
  · refine wop_of op_repFew ⟨a, n, vs, rfl, rfl, SqT.of ha, hb, by omega, .inr ⟨hk, fun z => hne (List.eq_nil_of_length_eq_zero (by rw [← ra.length, z]; rfl)), fun p hp => ?_⟩⟩
    obtain ⟨e, q⟩ := res_tup r hp (.nil : RepAll F H [] [])
    exact k _ _ _ _ e q h

def oAdd : Opd := fun v w Φ => oI (fun _ _ => True) (· + ·) v w Φ ∨ oCatT v w Φ ∨ oCatL v w Φ ∨ oCatS v w Φ
theorem ops_add : OpS (binaryOp .Add) oAdd := (ops_I0 fun _ => op_add).or (ops_catT.or (ops_catL.or ops_catS))
@[simp] def oSub : Opd := oI (fun _ _ => True) (· - ·)
theorem ops_sub : OpS (binaryOp .Sub) oSub := ops_I0 fun _ => op_sub
/-- products: one factor below 2 ^ 64, or both together below a great size -/
def CM (i j : Int) : Prop := CMul i j ∨ CMulX i j
def oMul : Opd := fun v w Φ => oI CM (· * ·) v w Φ ∨ oRepL v w Φ ∨ oRepT v w Φ ∨ oRepF v w Φ
theorem ops_mul : OpS (binaryOp .Mult) oMul := (ops_I (c := CM) (g := (· * ·)) fun X => opI fun _ _ _ _ _ _ _ hc q => mul_int q (hc.elim CMul.ok CMulX.ok)).or (ops_repL.or (ops_repT.or ops_repF))
def oDiv : Opd := oI CDiv (· / ·)
theorem ops_div : OpS (binaryOp .FloorDiv) oDiv := ops_I fun _ => op_fdiv
@[simp] def oMod : Opd := oI (fun _ j => 0 < j) (· % ·)
theorem ops_mod : OpS (binaryOp .Mod) oMod := ops_I fun _ => op_mod
@[simp] def oPow : Opd := oI CPow (fun i j => i ^ j.toNat)
theorem ops_pow : OpS (binaryOp .Pow) oPow := ops_I (g := fun i j => i ^ j.toNat) fun _ => op_pow
@[simp] def oShl : Opd := oI CPow (fun i j => i * 2 ^ j.toNat)
theorem ops_shl : OpS (binaryOp .LShift) oShl := ops_I (g := fun i j => i * 2 ^ j.toNat) fun _ => op_shl
@[simp] def oShr : Opd := oI (fun _ j => 0 ≤ j) (fun i j => i / 2 ^ j.toNat)
theorem ops_shr : OpS (binaryOp .RShift) oShr := ops_I (g := fun i j => i / 2 ^ j.toNat) fun _ => op_shr
@[simp] def oAnd : Opd := oI (fun _ _ => True) Builtin.bitAnd
theorem ops_and : OpS (binaryOp .BitAnd) oAnd := ops_I0 fun _ => op_and
@[simp] def oOr : Opd := oI (fun _ _ => True) Builtin.bitOr
theorem ops_or : OpS (binaryOp .BitOr) oOr := ops_I0 fun _ => op_or
@[simp] def oXor : Opd := oI (fun _ _ => True) Builtin.bitXor
theorem ops_xor : OpS (binaryOp .BitXor) oXor := ops_I0 fun _ => op_xor
def opOf : (op : Operator) → Option { o : Opd // OpS (binaryOp op) o }
  | .Add => some ⟨oAdd, ops_add⟩
  | .Sub => some ⟨oSub, ops_sub⟩
  | .Mult => some ⟨oMul, ops_mul⟩
  | .FloorDiv => some ⟨oDiv, ops_div⟩
  | .Mod => some ⟨oMod, ops_mod⟩
  | .Pow => some ⟨oPow, ops_pow⟩
  | .LShift => some ⟨oShl, ops_shl⟩
  | .RShift => some ⟨oShr, ops_shr⟩
  | .BitAnd => some ⟨oAnd, ops_and⟩
  | .BitOr => some ⟨oOr, ops_or⟩
  | .BitXor => some ⟨oXor, ops_xor⟩
  | _ => none

/-! ### comparisons -/
def oEqD : Opd := fun v w Φ => ∃ d e, toD v = some d ∧ toD w = some e ∧ SeqAt.shaped d = true ∧ SeqAt.shaped e = true ∧ Φ (.d (.bool (PyData.eqv d e)))
def oNeD : Opd := fun v w Φ => ∃ d e, toD v = some d ∧ toD w = some e ∧ SeqAt.shaped d = true ∧ SeqAt.shaped e = true ∧ Φ (.d (.bool (!PyData.eqv d e)))
theorem ops_eqD : OpS (compareOp .Eq) oEqD := by
  intro C X fx G F env σ H v w x y Q Φ r rv rw' h k
  obtain ⟨d, e, h1, h2, s1, s2, h⟩ := h
  exact wop_of (op_eqD (by have := fx.units; omega)) ⟨d, e, rep_Dp h1 rv, rep_Dp h2 rw', s1, s2, k _ _ _ _ (.refl r) (.imm (by simp only [RepD])) h⟩
theorem ops_neD : OpS (compareOp .NotEq) oNeD := by
  intro C X fx G F env σ H v w x y Q Φ r rv rw' h k
  obtain ⟨d, e, h1, h2, s1, s2, h⟩ := h
  exact wop_of (op_neD (by have := fx.units; omega)) ⟨d, e, rep_Dp h1 rv, rep_Dp h2 rw', s1, s2, k _ _ _ _ (.refl r) (.imm (by simp only [RepD])) h⟩
/-- two texts, whatever their signs are -/
def oEqS : Opd := fun v w Φ => ∃ a b, v = .d (.str a) ∧ w = .d (.str b) ∧ Φ (.d (.bool (decide (a = b))))
def oNeS : Opd := fun v w Φ => ∃ a b, v = .d (.str a) ∧ w = .d (.str b) ∧ Φ (.d (.bool (!decide (a = b))))
theorem dec_strV {a b : Str} : decide (V.str a = V.str b) = decide (a = b) := by
  by_cases h : a = b <;> simp [h]
theorem ops_eqS : OpS (compareOp .Eq) oEqS := by
  intro C X fx G F env σ H v w x y Q Φ r rv rw' h k
  obtain ⟨a, b, rfl, rfl, h⟩ := h
  have rv : RepD F H (.str a) x := rv
  have rw' : RepD F H (.str b) y := rw'
  simp only [RepD] at rv rw'
  subst rv rw'
  exact wop_of op_eq ⟨rfl, k _ _ _ _ (.refl r) (.imm (by simp only [RepD]; rw [dec_strV])) h⟩
theorem ops_neS : OpS (compareOp .NotEq) oNeS := by
  intro C X fx G F env σ H v w x y Q Φ r rv rw' h k
  obtain ⟨a, b, rfl, rfl, h⟩ := h
  have rv : RepD F H (.str a) x := rv
  have rw' : RepD F H (.str b) y := rw'
  simp only [RepD] at rv rw'
  subst rv rw'
  exact wop_of op_ne ⟨rfl, k _ _ _ _ (.refl r) (.imm (by simp only [RepD]; rw [dec_strV])) h⟩
def oEq : Opd := fun v w Φ => oEqD v w Φ ∨ oEqS v w Φ
def oNe : Opd := fun v w Φ => oNeD v w Φ ∨ oNeS v w Φ
theorem ops_eq : OpS (compareOp .Eq) oEq := ops_eqD.or ops_eqS
theorem ops_ne : OpS (compareOp .NotEq) oNe := ops_neD.or ops_neS
@[simp] def oLt : Opd := oB fun i j => decide (i < j)
@[simp] def oLe : Opd := oB fun i j => decide (i ≤ j)
@[simp] def oGt : Opd := oB fun i j => decide (j < i)
@[simp] def oGe : Opd := oB fun i j => decide (j ≤ i)
theorem ops_lt : OpS (compareOp .Lt) oLt := ops_B fun _ => op_lt
theorem ops_le : OpS (compareOp .LtE) oLe := ops_B fun _ => op_le
theorem ops_gt : OpS (compareOp .Gt) oGt := ops_B fun _ => op_gt
theorem ops_ge : OpS (compareOp .GtE) oGe := ops_B fun _ => op_ge
def isNone : Val → Bool
  | .d .none => true
  | _ => false
theorem rep_none {G : Gh} {F : AP1} {H : Hp} {v : Val} {x : V} (r : RepV G F H v x) : decide (x = .non) = isNone v := by
  cases v with
  | own xs => obtain ⟨a, vs, e, _⟩ := r; subst e; rfl
  | odk xs => obtain ⟨a, ks, vs, e, _⟩ := r; subst e; rfl
  | pot => obtain ⟨p, g, _, e⟩ := r; subst e; rfl
  | d z =>
    have r : RepD F H z x := r
    cases z <;> simp only [RepD] at r
    · subst r; rfl
    · subst r; rfl
    · subst r; rfl
    · subst r; rfl
    · obtain ⟨a, vs, e, _⟩ := r; subst e; rfl
    · obtain ⟨a, vs, e, _⟩ := r; subst e; rfl
def oIs : Opd := fun v w Φ => (w = .d .none ∧ Φ (.d (.bool (isNone v)))) ∨ ∃ a b, v = .d (.bool a) ∧ w = .d (.bool b) ∧ Φ (.d (.bool (decide (a = b))))
def oIsNot : Opd := fun v w Φ => (w = .d .none ∧ Φ (.d (.bool (!isNone v)))) ∨ ∃ a b, v = .d (.bool a) ∧ w = .d (.bool b) ∧ Φ (.d (.bool (!decide (a = b))))
theorem ops_is : OpS (compareOp .Is) oIs := by
  intro C X fx G F env σ H v w x y Q Φ r rv rw' h k
  rcases h with ⟨rfl, h⟩ | ⟨a, b, rfl, rfl, h⟩
  · have rw' : RepD F H .none y := rw'
    simp only [RepD] at rw'
    exact wop_of op_isN ⟨rw', k _ _ _ _ (.refl r) (.imm (by simp only [RepD, rep_none rv])) h⟩
  · have rv : RepD F H (.bool a) x := rv
    have rw' : RepD F H (.bool b) y := rw'
    simp only [RepD] at rv rw'
    exact wop_of op_isBl ⟨a, b, rv, rw', k _ _ _ _ (.refl r) (.imm (by simp only [RepD])) h⟩
theorem ops_isNot : OpS (compareOp .IsNot) oIsNot := by
  intro C X fx G F env σ H v w x y Q Φ r rv rw' h k
  rcases h with ⟨rfl, h⟩ | ⟨a, b, rfl, rfl, h⟩
  · have rw' : RepD F H .none y := rw'
    simp only [RepD] at rw'
    exact wop_of op_notN ⟨rw', k _ _ _ _ (.refl r) (.imm (by simp only [RepD, rep_none rv])) h⟩
  · have rv : RepD F H (.bool a) x := rv
    have rw' : RepD F H (.bool b) y := rw'
    simp only [RepD] at rv rw'
    exact wop_of op_notBl ⟨a, b, rv, rw', k _ _ _ _ (.refl r) (.imm (by simp only [RepD])) h⟩
/-- x in a list of data; x in a tuple of flat values -/
def flatD : PyData → Bool
  | .none => true
  | .bool _ => true
  | .int _ => true
  | .str _ => true
  | _ => false
theorem flat_V {F : AP1} {H : Hp} {d : PyData} {x : V} (h : flatD d = true) (r : RepD F H d x) : flatV x = true := by
  cases d <;> simp only [RepD] at r <;> first | (subst r; rfl) | cases h
theorem eqv_V {F : AP1} {H : Hp} {d e : PyData} {x y : V} (h : flatD d = true) (h' : flatD e = true) (r : RepD F H d x) (r' : RepD F H e y) : eqV x y = PyData.eqv d e := by
  cases d <;> simp only [RepD] at r <;> first | cases h | skip
  all_goals (cases e <;> simp only [RepD] at r' <;> first | cases h' | skip)
  all_goals (subst r r'; simp [eqV, PyData.eqv])
theorem flatAll_V {F : AP1} {H : Hp} {ds : List PyData} {vs : List V} (h : ds.all flatD = true) (r : RepAll F H ds vs) : vs.all flatV = true := by
  induction ds generalizing vs with
  | nil => cases r.inv0; rfl
  | cons d ds ih =>
    obtain ⟨v, t, rfl, r1, r2⟩ := r.inv
    rw [List.all_cons, Bool.and_eq_true] at h ⊢
    exact ⟨flat_V h.1 r1, ih h.2 r2⟩
theorem inV_D {F : AP1} {H : Hp} {d : PyData} {x : V} (h0 : flatD d = true) (r0 : RepD F H d x) {ds : List PyData} {vs : List V} (h : ds.all flatD = true) (r : RepAll F H ds vs) : inV x vs = ds.any fun z => PyData.eqv z d := by
  induction ds generalizing vs with
  | nil => cases r.inv0; rfl
  | cons e ds ih =>
    obtain ⟨v, t, rfl, r1, r2⟩ := r.inv
    rw [List.all_cons, Bool.and_eq_true] at h
    have e1 : inV x (v :: t) = (eqV v x || inV x t) := by simp [inV]
    rw [e1, List.any_cons, ih h.2 r2, eqv_V h.1 h0 r1 r0]
def oInG (neg : Bool) : Opd := fun v w Φ => (∃ d ds, toD v = some d ∧ toL w = some ds ∧ SeqAt.shaped d = true ∧ SeqAt.shaped (.list ds) = true ∧ Φ (.d (.bool (xor neg (ds.any fun z => PyData.eqv z d))))) ∨
  ∃ d ds, v = .d d ∧ toS w = some ds ∧ flatD d = true ∧ ds.all flatD = true ∧ Φ (.d (.bool (xor neg (ds.any fun z => PyData.eqv z d))))
theorem toL_D {w : Val} {ds : List PyData} (h : toL w = some ds) : toD w = some (.list ds) := by
  unfold toL at h
  split at h
  · cases h; rfl
  · cases h; rfl
  · cases h
theorem ops_in : OpS (compareOp .In) (oInG false) := by
  intro C X fx G F env σ H v w x y Q Φ r rv rw' h k
  rcases h with ⟨d, ds, h1, h2, s1, s2, h⟩ | ⟨d, ds, rfl, h2, f1, f2, h⟩
  · rw [Bool.false_xor] at h
    exact wop_of (op_inD (by have := fx.units; omega)) ⟨d, ds, rep_Dp h1 rv, rep_Dp (toL_D h2) rw', s1, s2, k _ _ _ _ (.refl r) (.imm (by simp only [RepD])) h⟩
  · rw [Bool.false_xor] at h
    obtain ⟨a, vs, rfl, ha, ra⟩ := rep_S h2 rw'
    refine wop_of op_in_seq ⟨a, vs, rfl, ha.imp SqL.of SqT.of, flat_V f1 rv, flatAll_V f2 ra, k _ _ _ _ (.refl r) (.imm (by simp only [RepD]; rw [inV_D f1 rv f2 ra]; simp)) h⟩
theorem ops_notIn : OpS (compareOp .NotIn) (oInG true) := by
  intro C X fx G F env σ H v w x y Q Φ r rv rw' h k
  rcases h with ⟨d, ds, h1, h2, s1, s2, h⟩ | ⟨d, ds, rfl, h2, f1, f2, h⟩
  · rw [Bool.true_xor] at h
    exact wop_of (op_notInD (by have := fx.units; omega)) ⟨d, ds, rep_Dp h1 rv, rep_Dp (toL_D h2) rw', s1, s2, k _ _ _ _ (.refl r) (.imm (by simp only [RepD])) h⟩
  · rw [Bool.true_xor] at h
    obtain ⟨a, vs, rfl, ha, ra⟩ := rep_S h2 rw'
    refine wop_of op_notIn_seq ⟨a, vs, rfl, ha.imp SqL.of SqT.of, flat_V f1 rv, flatAll_V f2 ra, k _ _ _ _ (.refl r) (.imm (by simp only [RepD]; rw [inV_D f1 rv f2 ra]; simp)) h⟩

def cmpOf : (op : CmpOp) → Option { o : Opd // OpS (compareOp op) o }
  | .Eq => some ⟨oEq, ops_eq⟩
  | .NotEq => some ⟨oNe, ops_ne⟩
  | .Lt => some ⟨oLt, ops_lt⟩
  | .LtE => some ⟨oLe, ops_le⟩
  | .Gt => some ⟨oGt, ops_gt⟩
  | .GtE => some ⟨oGe, ops_ge⟩
  | .Is => some ⟨oIs, ops_is⟩
  | .IsNot => some ⟨oIsNot, ops_isNot⟩
  | .In => some ⟨oInG false, ops_in⟩
  | .NotIn => some ⟨oInG true, ops_notIn⟩
end Ev
set_option Elab.async false
set_option linter.all false
set_option maxRecDepth 100000
/-! Ev4: names, constants, tests, displays, subscripts, slices, calls of defs. -/
namespace Ev
open PySem PySem.Spec PyProof.Rows L2

/-! ### names, constants -/
@[simp] def dVar (i : Nat) : DO := fun env Φ => (∃ v, env[i]? = some (some v)) ∧ Φ (.s i) env
@[simp] def dC (x : PyData) : DO := fun env Φ => Φ (.v (.d x)) env
section
variable {C : SC} {pos : Pos}
theorem so_var {i : Nat} {x : Str} (hN : C.N[i]? = some x) (hv : Vis C.sc x) (hd : (x == ("__debug__" : Str)) = false) (hcd : (x == ("__classdict__" : Str)) = false) : SO C (.Name x pos) (dVar i) := by
  intro X fx G F env σ H Q Φ r h hQ
  refine w_of (pe_var (i := i) (by rw [fx.n]; exact hN) (by rw [fx.sc]; exact hv) hd hcd) ?_
  obtain ⟨⟨v, ev⟩, h⟩ := h
  obtain ⟨x', sx, rv⟩ := r.rep i v ev
  exact ⟨x', sx, hQ (.s i) env F H x' (.refl r) sx h⟩
theorem gl_of {X : Cx} (fx : Fits C X) {x : Str} (h : C.sc.names.lookup x = some .globalImplicit) : Gl X x := by
  show X.env.kindOf x = some .globalImplicit
  have e : X.env.kindOf x = X.env.scope.names.lookup x := rfl
  rw [e, fx.sc]
  exact h
theorem so_glb {x : Str} {n : Int} (hg : C.sc.names.lookup x = some .globalImplicit) (hm : (x, n) ∈ C.glb) (hd : (x == ("__debug__" : Str)) = false) : SO C (.Name x pos) (dC (.int n)) := by
  intro X fx G F env σ H Q Φ r h hQ
  obtain ⟨t, ht⟩ := fx.glb _ hm
  refine w_of (pe_glob (v := .int n) (gl_of fx hg) ht ⟨t, rfl⟩ hd) ?_
  exact hQ (.v (.d (.int n))) env F H _ (.refl r) (Res.imm (by simp only [RepD])) h
theorem so_int {i : Int} {j : Nat} : SO C (.Constant (.int i) j pos) (dC (.int i)) := by
  intro X fx G F env σ H Q Φ r h hQ
  exact w_of pe_int (hQ (.v (.d (.int i))) env F H _ (.refl r) (Res.imm (by simp only [RepD])) h)
theorem so_bool {b : Bool} {j : Nat} : SO C (.Constant (.bool b) j pos) (dC (.bool b)) := by
  intro X fx G F env σ H Q Φ r h hQ
  exact w_of pe_bl (hQ (.v (.d (.bool b))) env F H _ (.refl r) (Res.imm (by simp only [RepD])) h)
theorem so_none {j : Nat} : SO C (.Constant .none j pos) (dC .none) := by
  intro X fx G F env σ H Q Φ r h hQ
  exact w_of pe_non (hQ (.v (.d .none)) env F H _ (.refl r) (Res.imm (by simp only [RepD])) h)
theorem so_str {s : Str} {j : Nat} : SO C (.Constant (.str s) j pos) (dC (.str s)) := by
  intro X fx G F env σ H Q Φ r h hQ
  exact w_of pe_str (hQ (.v (.d (.str s))) env F H _ (.refl r) (Res.imm (by simp only [RepD])) h)
end

/-! ### one operand -/
abbrev Und := Val → (Val → Prop) → Prop
@[simp] def dUn (o : Und) (da : DO) : DO := fun env Φ => da env fun ra env1 => ∃ v, ra.get env1 = some v ∧ o v fun z => Φ (.v z) env1
section
variable {C : SC} {a b c : Expr} {da db dc : DO} {pos : Pos}
theorem one {X : Cx} (fx : Fits C X) {G : Gh} {F : AP1} {env : Env} {σ : L2.St} {H : Hp} {P : V → Hp → Prop} {Φ : Val → Env → Prop} (ha : SO C a da) (r : R G F env σ H)
    (h : da env fun ra env1 => ∃ v, ra.get env1 = some v ∧ Φ v env1) (k : ∀ v env2 F2 H2 x, Ext G F env σ H F2 env2 H2 → RepV G F2 H2 v x → Φ v env2 → P x H2) : wE X a σ H fun x H1 => P x H1 := by
  refine ha X fx G F env σ H _ _ r h fun r1 env1 F1 H1 x e1 q1 h1 => ?_
  obtain ⟨v, g1, h1⟩ := h1
  exact k v env1 F1 H1 x e1 (q1.at e1.r g1) h1
@[simp] def oNeg : Und := fun v Φ => ∃ i, toI v = some i ∧ Φ (.d (.int (-i)))
theorem so_neg (ha : SO C a da) : SO C (.UnaryOp .USub a pos) (dUn oNeg da) := by
  intro X fx G F env σ H Q Φ r h hQ
  refine w_of (pe_un un_neg pe_w) ?_
  refine one fx (Φ := fun v env1 => oNeg v fun z => Φ (.v z) env1) ha r h fun v env2 F2 H2 x e rv h2 => ?_
  obtain ⟨i, e1, h2⟩ := h2
  obtain ⟨_, rfl⟩ := rep_I e1 rv
  exact ⟨i, rfl, hQ (.v _) env2 F2 H2 _ e (Res.imm (by simp only [RepD])) h2⟩

/-! ### tests -/
def toB : Val → Option Bool
  | .d (.bool b) => some b
  | _ => none
theorem rep_B {G : Gh} {F : AP1} {H : Hp} {v : Val} {x : V} {b : Bool} (h : toB v = some b) (r : RepV G F H v x) : v = .d (.bool b) ∧ x = .bl b := by
  unfold toB at h
  split at h
  · cases h
    have r : RepD F H (.bool b) x := r
    simp only [RepD] at r
    exact ⟨rfl, r⟩
  · cases h
@[simp] def dTst (da : DO) : DB := fun env Φ => da env fun ra env1 => ∃ v, ra.get env1 = some v ∧ ∃ b, toB v = some b ∧ Φ b env1
theorem st_cmp {op : CmpOp} {o : Opd} (ho : OpS (compareOp op) o) (ha : SO C a da) (hb : SO C b db) (hm : behindInMarks op b = false) : STe C (.Compare a [op] [b] pos) (dTst (dBin o da db)) := by
  intro X fx G F env σ H Q Φ r h hQ
  refine wt_of (pt_cmpR opr_w pe_w pe_w hm) ?_
  have s := so_cmp (pos := pos) ho ha hb hm X fx G F env σ H (fun x H' => ∃ k, x = .bl k ∧ Q k H') _ r h fun rr env1 F1 H1 x e1 q1 h1 => by
    obtain ⟨v, g, b, hb', h1⟩ := h1
    obtain ⟨_, rfl⟩ := rep_B hb' (q1.at e1.r g)
    exact ⟨b, rfl, hQ b env1 F1 H1 e1 h1⟩
  exact two fx (Φ := fun v w env2 => o v w fun z => ∃ v', Rv.get env2 (.v z) = some v' ∧ ∃ b, toB v' = some b ∧ Φ b env2) ha hb r h fun v w env2 F2 H2 x y e rv rw' h2 =>
    ho C X fx G F2 env2 σ H2 v w x y _ _ e.r rv rw' h2 fun z F3 H3 zx e3 q3 h3 => by
      obtain ⟨v', g, b, hb', h3⟩ := h3
      cases g
      obtain ⟨_, rfl⟩ := rep_B hb' q3.rep
      exact ⟨b, rfl, hQ b env2 F3 H3 (e.trans e3) h3⟩
def truth : Val → Option Bool
  | .d .none => some false
  | .d (.bool b) => some b
  | .d (.int i) => some (i != 0)
  | .d (.str s) => if s.length ≤ 16777216 then some ((s.length : Int) != 0) else none
  | .d (.list xs) => some (!xs.isEmpty)
  | .d (.tuple xs) => some (!xs.isEmpty)
  | .own xs => some (!xs.isEmpty)
  | _ => none
theorem empty_of {F : AP1} {H : Hp} {xs : List PyData} {vs : List V} (r : RepAll F H xs vs) : (!vs.isEmpty) = !xs.isEmpty := by
  cases xs with
  | nil => cases r.inv0; rfl
  | cons x xs => obtain ⟨v, t, rfl, _⟩ := r.inv; rfl
theorem truth_ok {K : PySem.W.Frag} {G : Gh} {F : AP1} {H : Hp} {v : Val} {x : V} {b : Bool} (h : truth v = some b) (r : RepV G F H v x) : TruV K x H b := by
  cases v with
  | pot => cases h
  | odk _ => cases h
  | own xs =>
    cases h
    obtain ⟨a, vs, rfl, _, ha, rr⟩ := r
    exact .inl ⟨vs, SqL.of ha, (empty_of rr).symm⟩
  | d z =>
    have r : RepD F H z x := r
    cases z with
    | none => cases h; simp only [RepD] at r; subst r; rfl
    | bool c => cases h; simp only [RepD] at r; subst r; rfl
    | int i => cases h; simp only [RepD] at r; subst r; rfl
    | str s =>
      simp only [RepD] at r; subst r
      have h : (if s.length ≤ 16777216 then some ((s.length : Int) != 0) else none) = some b := h
      split at h
      · cases h
        exact ⟨by rw [sizeLine_eq]; assumption, rfl⟩
      · cases h
    | list xs =>
      cases h
      simp only [RepD] at r
      obtain ⟨a, vs, rfl, _, ha, rr⟩ := r
      exact .inl ⟨vs, SqL.of ha, (empty_of rr).symm⟩
    | tuple xs =>
      cases h
      simp only [RepD] at r
      obtain ⟨a, vs, rfl, _, ha, rr⟩ := r
      exact .inr (.inl ⟨vs, SqT.of ha, (empty_of rr).symm⟩)
    | dict _ => cases h
@[simp] def dTru (da : DO) : DB := fun env Φ => da env fun ra env1 => ∃ v, ra.get env1 = some v ∧ ∃ b, truth v = some b ∧ Φ b env1
theorem st_tru (ha : SO C a da) (he : ∀ env whole, isTrue a env whole = (do let v ← whole; standAt a.pos; holding [v] (truthy v))) : STe C a (dTru da) := by
  intro X fx G F env σ H Q Φ r h hQ
  refine wt_of (pt_truth pe_w (he X.env)) ?_
  refine one fx (Φ := fun v env1 => ∃ b, truth v = some b ∧ Φ b env1) ha r h fun v env2 F2 H2 x e rv h2 => ?_
  obtain ⟨b, hb, h2⟩ := h2
  exact ⟨b, truth_ok hb rv, hQ b env2 F2 H2 e h2⟩
@[simp] def dNotT (d : DB) : DB := fun env Φ => d env fun b env1 => Φ (!b) env1
theorem st_not {d : DB} (ha : STe C a d) : STe C (.UnaryOp .Not a pos) (dNotT d) := by
  intro X fx G F env σ H Q Φ r h hQ
  refine wt_of (pt_not pt_w) ?_
  exact ha X fx G F env σ H _ _ r h fun b env1 F1 H1 e h1 => hQ _ env1 F1 H1 e h1
@[simp] def dAndT (d e : DB) : DB := fun env Φ => d env fun b env1 => (b = true → e env1 Φ) ∧ (b = false → Φ false env1)
@[simp] def dOrT (d e : DB) : DB := fun env Φ => d env fun b env1 => (b = true → Φ true env1) ∧ (b = false → e env1 Φ)
theorem sw_and1 {d : DB} (ha : STe C a d) : SW C (.BoolOp .And [a] pos) d := by
  intro X fx G F env σ H Q Φ r h hQ
  refine ww_of (pw_and1 pt_w) ?_
  exact ha X fx G F env σ H _ _ r h hQ
theorem sw_or1 {d : DB} (ha : STe C a d) : SW C (.BoolOp .Or [a] pos) d := by
  intro X fx G F env σ H Q Φ r h hQ
  refine ww_of (pw_or1 pt_w) ?_
  exact ha X fx G F env σ H _ _ r h hQ
theorem sw_and {d e : DB} {rest : List Expr} (ha : STe C a d) (hb : SW C (.BoolOp .And (b :: rest) pos) e) : SW C (.BoolOp .And (a :: b :: rest) pos) (dAndT d e) := by
  intro X fx G F env σ H Q Φ r h hQ
  refine ww_of (pw_and pt_w pw_w) ?_
  refine ha X fx G F env σ H _ _ r h fun c env1 F1 H1 e1 h1 => ?_
  cases c with
  | true => exact iteT (hb X fx G F1 env1 σ H1 _ _ e1.r (h1.1 rfl) fun k env2 F2 H2 e2 h2 => hQ k env2 F2 H2 (e1.trans e2) h2)
  | false => exact iteF (hQ false env1 F1 H1 e1 (h1.2 rfl))
theorem sw_or {d e : DB} {rest : List Expr} (ha : STe C a d) (hb : SW C (.BoolOp .Or (b :: rest) pos) e) : SW C (.BoolOp .Or (a :: b :: rest) pos) (dOrT d e) := by
  intro X fx G F env σ H Q Φ r h hQ
  refine ww_of (pw_or pt_w pw_w) ?_
  refine ha X fx G F env σ H _ _ r h fun c env1 F1 H1 e1 h1 => ?_
  cases c with
  | false => exact iteF (hb X fx G F1 env1 σ H1 _ _ e1.r (h1.2 rfl) fun k env2 F2 H2 e2 h2 => hQ k env2 F2 H2 (e1.trans e2) h2)
  | true => exact iteT (hQ true env1 F1 H1 e1 (h1.1 rfl))
theorem st_w {d : DB} (h : SW C a d) : STe C a d := by
  intro X fx G F env σ H Q Φ r hd hQ
  exact wt_of pw_w.pt (h X fx G F env σ H Q Φ r hd hQ)
/-- comparison chains of two links -/
@[simp] def dChain (o o' : Opd) (da db dc : DO) : DO := fun env Φ => da env fun ra env1 => db env1 fun rb env2 => ∃ v w, ra.get env2 = some v ∧ rb.get env2 = some w ∧
  o v w fun z => ∃ k, toB z = some k ∧ (k = true → dc env2 fun rc env3 => ∃ u, rc.get env3 = some u ∧ (∃ w', rb.get env3 = some w' ∧ o' w' u fun z' => Φ (.v z') env3)) ∧ (k = false → Φ (.v (.d (.bool false))) env2)
theorem chain_run {X : Cx} (fx : Fits C X) {op op' : CmpOp} {o o' : Opd} (ho : OpS (compareOp op) o) (ho' : OpS (compareOp op') o') (ha : SO C a da) (hb : SO C b db) (hc : SO C c dc)
    {G : Gh} {F : AP1} {env : Env} {σ : L2.St} {H : Hp} {Q : VK} {Φ : Rv → Env → Prop} (r : R G F env σ H) (h : dChain o o' da db dc env Φ)
    (hQ : ∀ z env' F' H' x, Ext G F env σ H F' env' H' → Res G env σ H F' env' H' z x → Φ (.v z) env' → Q x H') :
    tChain (wOp X (compareOp op)) (wOp X (compareOp op')) (wE X a) (wE X b) (wE X c) σ H Q := by
  refine ha X fx G F env σ H _ _ r h fun r1 env1 F1 H1 x e1 q1 h1 => ?_
  refine hb X fx G F1 env1 σ H1 _ _ e1.r h1 fun r2 env2 F2 H2 y e2 q2 h2 => ?_
  obtain ⟨v, w, g1, g2, h2⟩ := h2
  have q1' := q1.step e1.r e2
  refine ho C X fx G F2 env2 σ H2 v w x y _ _ e2.r (q1'.at e2.r g1) ((q2.back e1).at e2.r g2) h2 fun z F3 H3 zx e3 q3 h3 => ?_
  obtain ⟨k, hk, ht, hf⟩ := h3
  obtain ⟨_, rfl⟩ := rep_B hk q3.rep
  refine ⟨k, rfl, ?_⟩
  have e123 := (e1.trans e2).trans e3
  cases k with
  | false => exact iteF (hQ _ env2 F3 H3 _ e123 (Res.imm (by simp only [RepD])) (hf rfl))
  | true =>
    refine iteT ?_
    refine hc X fx G F3 env2 σ H3 _ _ e3.r (ht rfl) fun r4 env4 F4 H4 u e4 q4 h4 => ?_
    obtain ⟨u', g4, w', g5, h4⟩ := h4
    have q2' := (q2.step e2.r e3).step e3.r e4
    refine ho' C X fx G F4 env4 σ H4 w' u' y u _ _ e4.r (q2'.at e4.r g5) (q4.at e4.r g4) h4 fun z5 F5 H5 x5 e5 q5 h5 => ?_
    have e1234 := e123.trans e4
    exact hQ z5 env4 F5 H5 x5 (e1234.trans e5) (Res.back e1234 q5) h5
theorem so_chain {op op' : CmpOp} {o o' : Opd} (ho : OpS (compareOp op) o) (ho' : OpS (compareOp op') o') (ha : SO C a da) (hb : SO C b db) (hc : SO C c dc) (hm : lastMarks [op, op'] [b, c] = false) :
    SO C (.Compare a [op, op'] [b, c] pos) (dChain o o' da db dc) := by
  intro X fx G F env σ H Q Φ r h hQ
  refine w_of (pe_chain opr_w opr_w pe_w pe_w pe_w hm) ?_
  exact chain_run fx ho ho' ha hb hc r h fun z env' F' H' x e q hz => hQ (.v z) env' F' H' x e q hz
theorem st_chain {op op' : CmpOp} {o o' : Opd} (ho : OpS (compareOp op) o) (ho' : OpS (compareOp op') o') (ha : SO C a da) (hb : SO C b db) (hc : SO C c dc) (hm : lastMarks [op, op'] [b, c] = false) :
    STe C (.Compare a [op, op'] [b, c] pos) (dTst (dChain o o' da db dc)) := by
  intro X fx G F env σ H Q Φ r h hQ
  refine wt_of (pt_chain opr_w opr_w pe_w pe_w pe_w hm) ?_
  exact chain_run fx ho ho' ha hb hc r h fun z env' F' H' x e q hz => by
    obtain ⟨v, g, b, hb', hz⟩ := hz
    cases g
    obtain ⟨_, rfl⟩ := rep_B hb' q.rep
    exact ⟨b, rfl, hQ b env' F' H' e hz⟩

/-! ### and, or, not as values (of bools), a if t else b -/
@[simp] def dAndV (da db : DO) : DO := fun env Φ => da env fun ra env1 => ∃ v, ra.get env1 = some v ∧ ∃ c, toB v = some c ∧ (c = true → db env1 Φ) ∧ (c = false → Φ (.v (.d (.bool false))) env1)
@[simp] def dOrV (da db : DO) : DO := fun env Φ => da env fun ra env1 => ∃ v, ra.get env1 = some v ∧ ∃ c, toB v = some c ∧ (c = true → Φ (.v (.d (.bool true))) env1) ∧ (c = false → db env1 Φ)
theorem so_bo1 {op : BoolOp} (ha : SO C a da) : SO C (.BoolOp op [a] pos) da := by
  intro X fx G F env σ H Q Φ r h hQ
  refine w_of (pe_one pe_w) ?_
  exact ha X fx G F env σ H Q Φ r h hQ
theorem so_and {rest : List Expr} (ha : SO C a da) (hb : SO C (.BoolOp .And (b :: rest) pos) db) : SO C (.BoolOp .And (a :: b :: rest) pos) (dAndV da db) := by
  intro X fx G F env σ H Q Φ r h hQ
  refine w_of (pe_and pe_w pe_w) ?_
  refine ha X fx G F env σ H _ _ r h fun r1 env1 F1 H1 x e1 q1 h1 => ?_
  obtain ⟨v, g, c, hc, ht, hf⟩ := h1
  obtain ⟨_, rfl⟩ := rep_B hc (q1.at e1.r g)
  refine ⟨c, rfl, ?_⟩
  cases c with
  | false => exact iteF (hQ (.v _) env1 F1 H1 _ e1 (Res.imm (by simp only [RepD])) (hf rfl))
  | true => exact iteT (hb X fx G F1 env1 σ H1 _ _ e1.r (ht rfl) fun r2 env2 F2 H2 y e2 q2 h2 => hQ r2 env2 F2 H2 y (e1.trans e2) (q2.back e1) h2)
theorem so_or {rest : List Expr} (ha : SO C a da) (hb : SO C (.BoolOp .Or (b :: rest) pos) db) : SO C (.BoolOp .Or (a :: b :: rest) pos) (dOrV da db) := by
  intro X fx G F env σ H Q Φ r h hQ
  refine w_of (pe_or pe_w pe_w) ?_
  refine ha X fx G F env σ H _ _ r h fun r1 env1 F1 H1 x e1 q1 h1 => ?_
  obtain ⟨v, g, c, hc, ht, hf⟩ := h1
  obtain ⟨_, rfl⟩ := rep_B hc (q1.at e1.r g)
  refine ⟨c, rfl, ?_⟩
  cases c with
  | true => exact iteT (hQ (.v _) env1 F1 H1 _ e1 (Res.imm (by simp only [RepD])) (ht rfl))
  | false => exact iteF (hb X fx G F1 env1 σ H1 _ _ e1.r (hf rfl) fun r2 env2 F2 H2 y e2 q2 h2 => hQ r2 env2 F2 H2 y (e1.trans e2) (q2.back e1) h2)
@[simp] def dNotV (da : DO) : DO := fun env Φ => da env fun ra env1 => ∃ v, ra.get env1 = some v ∧ ∃ c, toB v = some c ∧ Φ (.v (.d (.bool (!c)))) env1
theorem so_not (ha : SO C a da) : SO C (.UnaryOp .Not a pos) (dNotV da) := by
  intro X fx G F env σ H Q Φ r h hQ
  refine w_of (pe_not pe_w) ?_
  refine one fx (Φ := fun v env1 => ∃ c, toB v = some c ∧ Φ (.v (.d (.bool (!c)))) env1) ha r h fun v env2 F2 H2 x e rv h2 => ?_
  obtain ⟨c, hc, h2⟩ := h2
  obtain ⟨_, rfl⟩ := rep_B hc rv
  exact ⟨c, rfl, hQ (.v _) env2 F2 H2 _ e (Res.imm (by simp only [RepD])) h2⟩
@[simp] def dIf (dc : DB) (da db : DO) : DO := fun env Φ => dc env fun k env1 => (k = true → da env1 Φ) ∧ (k = false → db env1 Φ)
theorem so_if {d : DB} (hc : STe C c d) (ha : SO C a da) (hb : SO C b db) : SO C (.IfExp c a b pos) (dIf d da db) := by
  intro X fx G F env σ H Q Φ r h hQ
  refine w_of (pe_ifExp pt_w pe_w pe_w) ?_
  refine hc X fx G F env σ H _ _ r h fun k env1 F1 H1 e1 h1 => ?_
  cases k with
  | true => exact iteT (ha X fx G F1 env1 σ H1 _ _ e1.r (h1.1 rfl) fun r2 env2 F2 H2 y e2 q2 h2 => hQ r2 env2 F2 H2 y (e1.trans e2) (q2.back e1) h2)
  | false => exact iteF (hb X fx G F1 env1 σ H1 _ _ e1.r (h1.2 rfl) fun r2 env2 F2 H2 y e2 q2 h2 => hQ r2 env2 F2 H2 y (e1.trans e2) (q2.back e1) h2)
end

/-! ### argument lists, displays -/
@[simp] def dNil : DA := fun env Φ => Φ [] env
@[simp] def dCons (d : DO) (ds : DA) : DA := fun env Φ => d env fun r env1 => shR r env1 fun v env2 => ds env2 fun vs env3 => Φ (v :: vs) env3
section
variable {C : SC} {e : Expr} {es : List Expr} {d : DO} {ds : DA} {pos : Pos}
theorem RepV.keep {G : Gh} {F F1 : AP1} {env env1 : Env} {σ : L2.St} {H H1 : Hp} {v : Val} {x : V} (r : R G F env σ H) (e : Ext G F env σ H F1 env1 H1) (q : RepV G F H v x) (n : isOwn v = false) : RepV G F1 H1 v x := by
  cases v with
  | d z => exact e.repD r q
  | pot => exact q
  | own _ => cases n
  | odk _ => cases n
theorem RepVs.keep {G : Gh} {F F1 : AP1} {env env1 : Env} {σ : L2.St} {H H1 : Hp} (r : R G F env σ H) (e : Ext G F env σ H F1 env1 H1) : ∀ {vs : List Val} {xs : List V}, RepVs G F H vs xs → RepVs G F1 H1 vs xs
  | [], _, h => h
  | v :: vs, _, h => by
    obtain ⟨x, t, e0, ⟨h1, h2⟩, h3⟩ := h
    exact ⟨x, t, e0, ⟨RepV.keep r e h1 h2, h2⟩, RepVs.keep r e h3⟩
theorem sa_nil : SA C [] dNil := by
  intro X fx G F env σ H Q Φ r h hQ
  exact wa_of pa_nil (hQ [] env F H [] (.refl r) rfl h)
theorem sa_cons (hd : SO C e d) (hs : SA C es ds) (st : ∀ env, starEach (e :: es) env = (false, eval e env) :: starEach es env) : SA C (e :: es) (dCons d ds) := by
  intro X fx G F env σ H Q Φ r h hQ
  refine wa_of (pa_cons pe_w pa_w (st X.env)) ?_
  refine hd X fx G F env σ H _ _ r h fun r1 env1 F1 H1 x e1 q1 h1 => ?_
  obtain ⟨F2, env2, v, e2, g2, rv, no, h2⟩ := share e1 q1 h1
  refine hs X fx G F2 env2 σ H1 _ _ e2.r h2 fun vs env3 F3 H3 xs e3 rs h3 => ?_
  exact hQ (v :: vs) env3 F3 H3 (x :: xs) (e2.trans e3) ⟨x, xs, rfl, ⟨RepV.keep e2.r e3 rv no, no⟩, rs⟩ h3
/-- the data of shared values -/
def datas : List Val → Option (List PyData)
  | [] => some []
  | .d x :: r => (datas r).map fun t => x :: t
  | _ :: _ => none
theorem rep_datas {G : Gh} {F : AP1} {H : Hp} : ∀ {vs : List Val} {xs : List V} {zs : List PyData}, datas vs = some zs → RepVs G F H vs xs → RepAll F H zs xs
  | [], _, _, h, r => by cases h; cases r; exact .nil
  | .d x :: vs, _, zs, h, r => by
    obtain ⟨y, t, rfl, ⟨h1, _⟩, h3⟩ := r
    have h : (datas vs).map (fun t => x :: t) = some zs := h
    obtain ⟨ts, h4, rfl⟩ := Option.map_eq_some_iff.mp h
    exact .cons h1 (rep_datas h4 h3)
  | .own _ :: _, _, _, h, _ => by cases h
  | .odk _ :: _, _, _, h, _ => by cases h
  | .pot :: _, _, _, h, _ => by cases h
@[simp] def dTup (ds : DA) : DO := fun env Φ => ds env fun vs env1 => ∃ zs, datas vs = some zs ∧ zs.length ≤ 16777216 ∧ Φ (.v (.d (.tuple zs))) env1
@[simp] def dLst (ds : DA) : DO := fun env Φ => ds env fun vs env1 => ∃ zs, datas vs = some zs ∧ zs.length ≤ 16777216 ∧ Φ (.v (.own zs)) env1
theorem so_tup {k : Nat} (hs : SA C es ds) : SO C (.Tuple es k pos) (dTup ds) := by
  intro X fx G F env σ H Q Φ r h hQ
  refine w_of (pe_tup pa_w) ?_
  refine hs X fx G F env σ H _ _ r h fun vs env1 F1 H1 xs e1 rs h1 => ?_
  obtain ⟨zs, hz, hl, h1⟩ := h1
  have rr := rep_datas hz rs
  refine ⟨by rw [rr.length, sizeLine_eq]; exact hl, fun p hp => ?_⟩
  obtain ⟨e2, q2⟩ := res_tup e1.r hp rr
  exact hQ (.v _) env1 _ _ _ (e1.trans e2) (Res.back e1 q2) h1
theorem so_lst (hs : SA C es ds) : SO C (.List es pos) (dLst ds) := by
  intro X fx G F env σ H Q Φ r h hQ
  refine w_of (pe_lst pa_w) ?_
  refine hs X fx G F env σ H _ _ r h fun vs env1 F1 H1 xs e1 rs h1 => ?_
  obtain ⟨zs, hz, hl, h1⟩ := h1
  have rr := rep_datas hz rs
  refine ⟨by rw [rr.length, sizeLine_eq]; exact hl, fun p hp => ?_⟩
  obtain ⟨e2, q2⟩ := res_own e1.r hp rr
  exact hQ (.v _) env1 _ _ _ (e1.trans e2) (Res.back e1 q2) h1

/-! ### calls of defs -/
theorem Ext.call {G : Gh} {F F' : AP1} {env : Env} {σ : L2.St} {H H' : Hp} (r : R G F env σ H) (c : CEnd G F H F' H') : Ext G F env σ H F' env H' := by
  have st : ∀ a o, F a → H a = some o → H' a = some o := fun a o f h => c.keep a o h fun z => r.potF z f
  have ow : ∀ a, OwnS env σ a → ¬ F' a := fun a o f => by
    rcases c.fro a f with z | z
    · exact r.ownF o z
    · exact r.freshO z o
  refine ⟨⟨r.len, fun i v e => ?_, r.sep, c.al, fun p g e => ?_⟩, fun a o h _ n => c.keep a o h n, c.live, c.grow, fun a h => (c.fro a h).imp id .inr, fun _ h => h⟩
  · obtain ⟨x, sx, rv⟩ := r.rep i v e
    refine ⟨x, sx, ?_⟩
    cases v with
    | d z => exact RepD.mono c.grow st _ _ rv
    | pot => exact rv
    | own xs =>
      obtain ⟨a, vs, ea, n, ha, rr⟩ := rv
      subst ea
      have oa : OwnS env σ a := ⟨i, _, e, rfl, sx⟩
      exact ⟨a, vs, rfl, ow a oa, c.keep a _ ha fun z => r.potO z oa, RepAll.mono c.grow st _ _ rr⟩
    | odk kvs =>
      obtain ⟨a, ks, vs, ea, n, hk, rr, nd, ha⟩ := rv
      subst ea
      have oa : OwnS env σ a := ⟨i, _, e, rfl, sx⟩
      exact ⟨a, ks, vs, rfl, ow a oa, hk, RepAll.mono c.grow st _ _ rr, nd, c.keep a _ ha fun z => r.potO z oa⟩
  · obtain ⟨h1, h2, h3, h4⟩ := r.pt p g e
    have nf : ∀ a, InPot G a → ¬ F' a := fun a z f => by
      rcases c.fro a f with y | y
      · exact r.potF z y
      · exact r.freshP y z
    exact ⟨c.pt p g e, nf p ⟨p, g, e, .inl rfl⟩, nf g ⟨p, g, e, .inr rfl⟩, h4⟩
theorem RepVs.len {G : Gh} {F : AP1} {H : Hp} : ∀ {vs : List Val} {xs : List V}, RepVs G F H vs xs → xs.length = vs.length
  | [], _, h => by cases h; rfl
  | v :: vs, _, h => by obtain ⟨x, t, rfl, _, h3⟩ := h; simp [RepVs.len h3]
@[simp] def dCall (n : Nat) (sp : FSpec) (ds : DA) : DO := fun env Φ => ds env fun vs env1 => vs.length = n ∧ sp vs fun z => Φ (.v z) env1
theorem call_run {X : Cx} {n : Nat} {sp : FSpec} {G : Gh} {F1 : AP1} {env env1 : Env} {F : AP1} {σ : L2.St} {H H1 : Hp} {Q : VK} {Φ : Rv → Env → Prop} {vs : List Val} {xs : List V} (e1 : Ext G F env σ H F1 env1 H1)
    (rs : RepVs G F1 H1 vs xs) (h1 : vs.length = n ∧ sp vs fun z => Φ (.v z) env1) (hQ : ∀ z env' F' H' x, Ext G F env σ H F' env' H' → Res G env σ H F' env' H' z x → Φ (.v z) env' → Q x H') : spV n sp xs H1 Q E0 := by
  obtain ⟨hl, h1⟩ := h1
  refine ⟨rs.len.trans hl, G, F1, vs, fun z => Φ (.v z) env1, ⟨e1.r.al, fun p g e => ?_⟩, rs, h1, fun v F' H' x ce cr hv => ?_⟩
  · obtain ⟨a1, a2, a3, _⟩ := e1.r.pt p g e
    exact ⟨a1, a2, a3⟩
  · have e2 := Ext.call e1.r ce
    refine hQ v env1 F' H' x (e1.trans e2) (Res.back e1 ⟨cr.rep, fun ho a ea => ?_⟩) hv
    obtain ⟨n1, n2⟩ := cr.one ho a ea
    exact ⟨.inr n1, e1.r.freshO n1, n2⟩
theorem so_call {f : FnS} {p : Pos} (hf : f ∈ C.fns) (hg : C.sc.names.lookup f.name = some .globalImplicit) (hs : SA C (e :: es) ds) (hdb : (f.name == ("__debug__" : Str)) = false)
    (st : ∀ env, starEach (e :: es) env = (false, eval e env) :: starEach es env) (hpl : ∀ env, (backTo pos (starEach es env)).any (·.1) = false) : SO C (.Call (.Name f.name p) (e :: es) [] pos) (dCall f.ps.length f.sp ds) := by
  intro X fx G F env σ H Q Φ r h hQ
  obtain ⟨k, a, fd, FO, hr, hm, hk, hb⟩ := (fx.fns f hf).ex
  refine w_of (pe_call FO hr (gl_of fx hg) hm hk hb .nil pass0 pa_w hdb (st X.env) (hpl X.env)) ?_
  refine hs X fx G F env σ H _ _ r h fun vs env1 F1 H1 xs e1 rs h1 => ?_
  show spV f.ps.length f.sp (xs ++ []) H1 Q E0
  rw [List.append_nil]
  exact call_run (X := X) e1 rs h1 fun z env' F' H' x e q hz => hQ (.v z) env' F' H' x e q hz
end

/-! ### subscripts -/
section
variable (X : Cx)
def wIx (a b : Expr) : R2 := fun x y H Q => ∀ (pins : List (Addr × Obj)) (s : Shared) (σ : L2.St) (v u : Value), Inv X pins σ H s → RelV x v → RelV y u → wpAny (model X.prog X.w) X.A (subscriptTail a b v u) (EP X pins σ Q) X.xe s
variable {X}
theorem pe_ixw {a b : Expr} {pos : Pos} : PE X (.Subscript a b pos) (tOp (wIx X a b) (wE X a) (wE X b)) :=
  ⟨fun pins s σ H Q I h => Subscript_ (binT pe_w pe_w I h fun v u s2 x y H2 I2 rx ry q => q pins s2 σ v u I2 rx ry)⟩
theorem wix_of {a b : Expr} {r : R2} {x y : V} {H : Hp} {Q : VK} (h : IxR X r) (hs : PlainIx b) (q : r x y H Q) : wIx X a b x y H Q := fun pins s σ v u I rx ry => h a b pins s σ H x y v u Q I rx ry q (hs _ _)
end
def dLook (kvs : List (PyData × PyData)) (k : PyData) : Option PyData := (kvs.find? fun p => PyData.eqv p.1 k).map (·.2)
@[simp] def oIxS : Opd := fun v w Φ => ∃ xs i d, toS v = some xs ∧ toI w = some i ∧ atI xs i = some d ∧ Φ (.d d)
theorem atI_rep {F : AP1} {H : Hp} {xs : List PyData} {vs : List V} {i : Int} {d : PyData} (r : RepAll F H xs vs) (h : atI xs i = some d) : ∃ v, atI vs i = some v ∧ RepD F H d v := by
  unfold atI at h ⊢
  rw [r.length]
  obtain ⟨j, h1, h2⟩ := Option.bind_eq_some_iff.mp h
  obtain ⟨v, h3, h4⟩ := r.get h2
  exact ⟨v, by rw [h1]; exact h3, h4⟩
section
variable {C : SC} {a b : Expr} {da db : DO} {pos : Pos}
theorem so_ix (ha : SO C a da) (hb : SO C b db) (hs : PlainIx b) : SO C (.Subscript a b pos) (dBin oIxS da db) := by
  intro X fx G F env σ H Q Φ r h hQ
  refine w_of pe_ixw ?_
  refine two fx (Φ := fun v w env2 => oIxS v w fun z => Φ (.v z) env2) ha hb r h fun v w env2 F2 H2 x y e rv rw' h2 => ?_
  obtain ⟨xs, i, d, h1, h3, h4, h2⟩ := h2
  obtain ⟨c, vs, rfl, hc, rc⟩ := rep_S h1 rv
  obtain ⟨_, rfl⟩ := rep_I h3 rw'
  obtain ⟨z, h5, h6⟩ := atI_rep rc h4
  have fin := hQ (.v (.d d)) env2 F2 H2 z e (Res.imm h6) h2
  rcases hc with hc | hc
  · exact wix_of ix_list hs ⟨c, vs, i, z, rfl, rfl, SqL.of hc, h5, fin⟩
  · exact wix_of ix_tup hs ⟨c, vs, i, z, rfl, rfl, SqT.of hc, h5, fin⟩
end

/-! ### slices -/
def cutD (xs : List PyData) (lo hi : Option Int) : List PyData := (xs.drop (HT.sIx xs.length 0 lo)).take (HT.sIx xs.length xs.length hi - HT.sIx xs.length 0 lo)
theorem RepAll.cut {F : AP1} {H : Hp} {xs : List PyData} {vs : List V} (r : RepAll F H xs vs) (lo hi : Option Int) : RepAll F H (cutD xs lo hi) (cutV vs lo hi) := by
  unfold cutD cutV
  rw [r.length]
  exact (r.drop _).take _
abbrev DP := Env → (Option Int → Env → Prop) → Prop
def SP' (C : SC) (e : Option Expr) (d : DP) : Prop := ∀ (X : Cx), Fits C X → ∀ (G : Gh) (F : AP1) (env : Env) (σ : L2.St) (H : Hp) (Q : Option Int → Hp → Prop) (Φ : Option Int → Env → Prop), R G F env σ H → d env Φ →
  (∀ o env' F' H', Ext G F env σ H F' env' H' → Φ o env' → Q o H') → ∃ t, PO X e t ∧ t σ H Q
@[simp] def dNoP : DP := fun env Φ => Φ none env
@[simp] def dSomeP (d : DO) : DP := fun env Φ => d env fun r env1 => ∃ v, r.get env1 = some v ∧ ∃ i, toI v = some i ∧ Φ (some i) env1
section
variable {C : SC} {a : Expr} {lo hi : Option Expr} {da d : DO} {dl dh : DP} {pos p2 : Pos}
theorem sp_none : SP' C none dNoP := by
  intro X fx G F env σ H Q Φ r h hQ
  exact ⟨_, po_none, hQ none env F H (.refl r) h⟩
theorem sp_some (ha : SO C a d) : SP' C (some a) (dSomeP d) := by
  intro X fx G F env σ H Q Φ r h hQ
  refine ⟨_, po_some pe_w, ?_⟩
  refine one fx (Φ := fun v env1 => ∃ i, toI v = some i ∧ Φ (some i) env1) ha r h fun v env2 F2 H2 x e rv h2 => ?_
  obtain ⟨i, e1, h2⟩ := h2
  obtain ⟨_, rfl⟩ := rep_I e1 rv
  exact ⟨i, rfl, hQ (some i) env2 F2 H2 e h2⟩
def wO (X : Cx) (e : Option Expr) : TO := fun σ H Q => ∃ t, PO X e t ∧ t σ H Q
theorem po_w {X : Cx} {e : Option Expr} : PO X e (wO X e) := ⟨fun pins s σ H Q I h => let ⟨t, ht, q⟩ := h; ht.run pins s σ H Q I q⟩
def oSl (v : Val) (lo hi : Option Int) (Φ : Val → Prop) : Prop := (∃ xs, toL v = some xs ∧ Φ (.own (cutD xs lo hi))) ∨ ∃ xs, toT v = some xs ∧ Φ (.d (.tuple (cutD xs lo hi)))
@[simp] def dSl (da : DO) (dl dh : DP) : DO := fun env Φ => da env fun ra env1 => dl env1 fun l env2 => dh env2 fun u env3 => ∃ v, ra.get env3 = some v ∧ oSl v l u fun z => Φ (.v z) env3
theorem so_sl (ha : SO C a da) (hl : SP' C lo dl) (hh : SP' C hi dh) : SO C (.Subscript a (.Slice lo hi none p2) pos) (dSl da dl dh) := by
  intro X fx G F env σ H Q Φ r h hQ
  refine w_of (pe_slice (sl_list.or sl_tupA) pe_w po_w po_w) ?_
  refine ha X fx G F env σ H _ _ r h fun r1 env1 F1 H1 x e1 q1 h1 => ?_
  refine hl X fx G F1 env1 σ H1 _ _ e1.r h1 fun l env2 F2 H2 e2 h2 => ?_
  refine hh X fx G F2 env2 σ H2 _ _ e2.r h2 fun u env3 F3 H3 e3 h3 => ?_
  obtain ⟨v, g, h3⟩ := h3
  have rv := ((q1.step e1.r e2).step e2.r e3).at e3.r g
  have e123 := (e1.trans e2).trans e3
  rcases h3 with ⟨xs, hx, h3⟩ | ⟨xs, hx, h3⟩
  · obtain ⟨c, vs, rfl, hc, rc⟩ := rep_L hx rv
    refine .inl ⟨c, vs, rfl, SqL.of hc, fun p hp => ?_⟩
    obtain ⟨e4, q4⟩ := res_own e3.r hp (rc.cut l u)
    exact hQ (.v _) env3 _ _ _ (e123.trans e4) (Res.back e123 q4) h3
  · obtain ⟨c, vs, rfl, hc, rc, fc⟩ := rep_T hx rv
    refine .inr ⟨c, vs, rfl, SqT.of hc, fun hw => ?_, fun hw p hp => ?_⟩
    · rw [rc.length] at hw
      have e0 : cutD xs l u = xs := by
        unfold cutD
        rw [hw.1, hw.2, List.drop_zero, Nat.sub_zero, List.take_length]
      refine hQ (.v _) env3 F3 H3 _ e123 (Res.imm (z := .tuple (cutD xs l u)) ?_) h3
      rw [e0]
      simp only [RepD]
      exact ⟨c, vs, rfl, fc, hc, rc⟩
    · obtain ⟨e4, q4⟩ := res_tup e3.r hp (rc.cut l u)
      exact hQ (.v _) env3 _ _ _ (e123.trans e4) (Res.back e123 q4) h3
@[simp] def oRev (v : Val) (Φ : Val → Prop) : Prop := ∃ xs, toL v = some xs ∧ Φ (.own xs.reverse)
theorem so_revL {k : Nat} {p1 p3 p4 : Pos} (ha : SO C a da) : SO C (.Subscript a (.Slice none none (some (.UnaryOp .USub (.Constant (.int 1) k p1) p3)) p4) pos) (dUn oRev da) := by
  intro X fx G F env σ H Q Φ r h hQ
  refine w_of (pe_revL pe_w) ?_
  refine one fx (Φ := fun v env1 => oRev v fun z => Φ (.v z) env1) ha r h fun v env2 F2 H2 x e rv h2 => ?_
  obtain ⟨xs, hx, h2⟩ := h2
  obtain ⟨c, vs, rfl, hc, rc⟩ := rep_L hx rv
  refine ⟨c, vs, rfl, SqL.of hc, fun p hp => ?_⟩
  obtain ⟨e4, q4⟩ := res_own e.r hp rc.reverse
  exact hQ (.v _) env2 _ _ _ (e.trans e4) (Res.back e q4) h2
end
end Ev
set_option Elab.async false
set_option linter.all false
set_option maxRecDepth 100000
/-! Ev5: statements. -/
namespace Ev
open PySem PySem.Spec PyProof.Rows L2

structure KE where
  nx : Env → Prop
  rt : Val → Prop
  bk : Env → Prop
  ct : Env → Prop
abbrev DS := KE → Env → Prop

/-- how a frame stands since the def's entry -/
structure RS (G : Gh) (F0 : AP1) (H0 : Hp) (F : AP1) (env : Env) (σ : L2.St) (H : Hp) : Prop where
  r : R G F env σ H
  keep : ∀ a o, H0 a = some o → ¬ InPot G a → H a = some o
  live : ∀ a o, H0 a = some o → ∃ o', H a = some o'
  grow : ∀ a, F0 a → F a
  fro : ∀ a, F a → F0 a ∨ H0 a = none
  own : ∀ a, OwnS env σ a → H0 a = none
/-- later -/
structure Lt (F : AP1) (H : Hp) (F' : AP1) (H' : Hp) : Prop where
  grow : ∀ a, F a → F' a
  stab : ∀ a o, F a → H a = some o → H' a = some o
theorem Lt.refl {F : AP1} {H : Hp} : Lt F H F H := ⟨fun _ h => h, fun _ _ _ h => h⟩
theorem Lt.trans {F F1 F2 : AP1} {H H1 H2 : Hp} (a : Lt F H F1 H1) (b : Lt F1 H1 F2 H2) : Lt F H F2 H2 :=
  ⟨fun c h => b.grow c (a.grow c h), fun c o f h => b.stab c o (a.grow c f) (a.stab c o f h)⟩
structure KOk (G : Gh) (F0 : AP1) (H0 : Hp) (F : AP1) (H : Hp) (K : KE) (D : Ends) : Prop where
  nx : ∀ env' F' σ' H', RS G F0 H0 F' env' σ' H' → Lt F H F' H' → K.nx env' → D.nx σ' H'
  bk : ∀ env' F' σ' H', RS G F0 H0 F' env' σ' H' → Lt F H F' H' → K.bk env' → D.bk σ' H'
  ct : ∀ env' F' σ' H', RS G F0 H0 F' env' σ' H' → Lt F H F' H' → K.ct env' → D.ct σ' H'
  rt : ∀ v F' H' x, CEnd G F0 H0 F' H' → CRes G H0 F' H' v x → K.rt v → D.rt x H'
theorem KOk.later {G : Gh} {F0 : AP1} {H0 : Hp} {F F1 : AP1} {H H1 : Hp} {K : KE} {D : Ends} (k : KOk G F0 H0 F H K D) (l : Lt F H F1 H1) : KOk G F0 H0 F1 H1 K D :=
  ⟨fun e F' σ' H' r l' => k.nx e F' σ' H' r (l.trans l'), fun e F' σ' H' r l' => k.bk e F' σ' H' r (l.trans l'), fun e F' σ' H' r l' => k.ct e F' σ' H' r (l.trans l'), k.rt⟩
def SS (C : SC) (st : Stmt) (d : DS) : Prop := ∀ (X : Cx), Fits C X → ∀ (G : Gh) (F0 : AP1) (H0 : Hp) (F : AP1) (env : Env) (σ : L2.St) (H : Hp) (D : Ends) (K : KE), RS G F0 H0 F env σ H → d K env → KOk G F0 H0 F H K D → wS X st D σ H
def SB (C : SC) (st : List Stmt) (d : DS) : Prop := ∀ (X : Cx), Fits C X → ∀ (G : Gh) (F0 : AP1) (H0 : Hp) (F : AP1) (env : Env) (σ : L2.St) (H : Hp) (D : Ends) (K : KE), RS G F0 H0 F env σ H → d K env → KOk G F0 H0 F H K D → wB X st D σ H

section
variable {G : Gh} {F0 F F1 : AP1} {H0 H H1 : Hp} {env env1 : Env} {σ : L2.St} {v : Val} {x : V}
theorem Ext.lt (r : R G F env σ H) (e : Ext G F env σ H F1 env1 H1) : Lt F H F1 H1 := ⟨e.grow, e.stab r⟩
theorem RS.free (s : RS G F0 H0 F env σ H) {a : Addr} (h : H a = none) : H0 a = none := by
  cases q : H0 a with
  | none => rfl
  | some o => obtain ⟨o', e⟩ := s.live a o q; rw [h] at e; cases e
theorem RS.step (s : RS G F0 H0 F env σ H) (e : Ext G F env σ H F1 env1 H1) : RS G F0 H0 F1 env1 σ H1 where
  r := e.r
  keep := fun a o h n => e.keep a o (s.keep a o h n) (fun z => by have := s.own a z; rw [this] at h; cases h) n
  live := fun a o h => let ⟨o1, h1⟩ := s.live a o h; e.live a o1 h1
  grow := fun a h => e.grow a (s.grow a h)
  fro := fun a h => by
    rcases e.fro a h with z | z | z
    · exact s.fro a z
    · exact .inr (s.own a z)
    · exact .inr (s.free z)
  own := fun a h => s.own a (e.ownd a h)
theorem RS.cend (s : RS G F0 H0 F env σ H) : CEnd G F0 H0 F H := ⟨s.keep, s.live, s.grow, s.fro, s.r.al, fun p g e => (s.r.pt p g e).1⟩
theorem RS.cres (s : RS G F0 H0 F env σ H) {env' : Env} {F' : AP1} {H' : Hp} (q : Res G env σ H F' env' H' v x) : CRes G H0 F' H' v x :=
  ⟨q.rep, fun ho a ea => by
    obtain ⟨o1, _, o3⟩ := q.one ho a ea
    exact ⟨o1.elim (s.own a) s.free, o3⟩⟩
/-- a name holds a value from now on -/
theorem R.put (r1 : R G F1 env1 σ H1) {i : Nat} (hi : i < env1.length) (rv : RepV G F1 H1 v x) (no : isOwn v = true → ∀ a, x = .ref a → ¬ OwnS env1 σ a ∧ ¬ InPot G a) :
    R G F1 (env1.set i (some v)) (σ.set i (some x)) H1 := by
  have gt : ∀ (j : Nat) (w : Val), (env1.set i (some v))[j]? = some (some w) → ∀ y, (σ.set i (some x))[j]? = some (some y) → (j = i ∧ w = v ∧ y = x) ∨ (j ≠ i ∧ env1[j]? = some (some w) ∧ σ[j]? = some (some y)) := fun j w ej y sj => by
    by_cases e : i = j
    · subst e
      rw [List.getElem?_set_self hi] at ej
      rw [List.getElem?_set_self (by rw [← r1.len]; exact hi)] at sj
      cases ej; cases sj
      exact .inl ⟨rfl, rfl, rfl⟩
    · rw [List.getElem?_set_ne e] at ej sj
      exact .inr ⟨fun z => e z.symm, ej, sj⟩
  refine ⟨by simp [r1.len], fun j w ej => ?_, fun j k w u c ej ek ow ou sj sk => ?_, r1.al, fun p g eg => ?_⟩
  · rcases setEnv_get ej with ⟨rfl, rfl⟩ | ⟨ne, ej⟩
    · exact ⟨x, by rw [List.getElem?_set_self (by rw [← r1.len]; exact hi)], rv⟩
    · obtain ⟨y, sy, ry⟩ := r1.rep j w ej
      exact ⟨y, by rw [List.getElem?_set_ne (fun z => ne z.symm)]; exact sy, ry⟩
  · rcases gt j w ej _ sj with ⟨j1, w1, e1⟩ | ⟨n1, ej1, sj1⟩
    · rcases gt k u ek _ sk with ⟨k1, u1, e2⟩ | ⟨n2, ek1, sk1⟩
      · rw [j1, k1]
      · exact ((no (w1 ▸ ow) c e1.symm).1 ⟨k, u, ek1, ou, sk1⟩).elim
    · rcases gt k u ek _ sk with ⟨k1, u1, e2⟩ | ⟨n2, ek1, sk1⟩
      · exact ((no (u1 ▸ ou) c e2.symm).1 ⟨j, w, ej1, ow, sj1⟩).elim
      · exact r1.sep j k w u c ej1 ek1 ow ou sj1 sk1
  · obtain ⟨h1, h2, h3, h4⟩ := r1.pt p g eg
    refine ⟨h1, h2, h3, fun c ⟨j, w, ej, ow, sj⟩ => ?_⟩
    rcases gt j w ej _ sj with ⟨rfl, rfl, e1⟩ | ⟨n1, ej, sj⟩
    · have n := (no ow c e1.symm).2
      exact ⟨fun z => n ⟨p, g, eg, .inl z⟩, fun z => n ⟨p, g, eg, .inr z⟩⟩
    · exact h4 c ⟨j, w, ej, ow, sj⟩
theorem OwnS.put {i : Nat} {c : Addr} (h : OwnS (env1.set i (some v)) (σ.set i (some x)) c) : OwnS env1 σ c ∨ (isOwn v = true ∧ x = .ref c) := by
  obtain ⟨j, w, ej, ow, sj⟩ := h
  rcases setEnv_get ej with ⟨rfl, rfl⟩ | ⟨ne, ej⟩
  · by_cases hl : j < σ.length
    · rw [List.getElem?_set_self hl] at sj; cases sj; exact .inr ⟨ow, rfl⟩
    · rw [List.getElem?_eq_none (by simpa using hl)] at sj; cases sj
  · rw [List.getElem?_set_ne (fun z => ne z.symm)] at sj
    exact .inl ⟨j, w, ej, ow, sj⟩
theorem RS.put (s : RS G F0 H0 F env σ H) (e : Ext G F env σ H F1 env1 H1) (q : Res G env σ H F1 env1 H1 v x) {i : Nat} (hi : i < env1.length) : RS G F0 H0 F1 (env1.set i (some v)) (σ.set i (some x)) H1 := by
  have s1 := s.step e
  refine ⟨e.r.put hi q.rep fun ho a ea => ⟨(q.one ho a ea).2.1, (q.one ho a ea).2.2⟩, s1.keep, s1.live, s1.grow, s1.fro, fun a h => ?_⟩
  rcases h.put with h | ⟨ho, ea⟩
  · exact s1.own a h
  · exact (q.one ho a ea).1.elim (s.own a) s.free
end

/-! ### moving a value: one's own stays one's own -/
@[simp] def mvR : Rv → Env → (Val → Env → Prop) → Prop
  | .v x, env, Φ => Φ x env
  | .s i, env, Φ => shR (.s i) env Φ
theorem move {G : Gh} {F F1 : AP1} {env env1 : Env} {σ : L2.St} {H H1 : Hp} {x : V} {r : Rv} {Φ : Val → Env → Prop} (e1 : Ext G F env σ H F1 env1 H1) (q : ResR G env σ H F1 env1 H1 r x) (h : mvR r env1 Φ) :
    ∃ F2 env2 v, Ext G F env σ H F2 env2 H1 ∧ Res G env σ H F2 env2 H1 v x ∧ Φ v env2 := by
  cases r with
  | v z => exact ⟨F1, env1, z, e1, q, h⟩
  | s i =>
    obtain ⟨F2, env2, v, e2, _, rv, no, h2⟩ := share e1 q h
    exact ⟨F2, env2, v, e2, ⟨rv, fun ho => by rw [no] at ho; cases ho⟩, h2⟩

/-! ### blocks -/
section
variable {C : SC} {st : Stmt} {rest : List Stmt} {d e : DS} {pos : Pos}
@[simp] def dNext : DS := fun K env => K.nx env
@[simp] def dSeq (d e : DS) : DS := fun K env => d { K with nx := e K } env
theorem sb_nil : SB C [] dNext := by
  intro X fx G F0 H0 F env σ H D K r h k
  exact wb_of pss_nil (k.nx env F σ H r .refl h)
theorem sb_one (h1 : SS C st d) : SB C [st] d := by
  intro X fx G F0 H0 F env σ H D K r h k
  exact wb_of (pss_one ps_w) (h1 X fx G F0 H0 F env σ H D K r h k)
theorem sb_cons (h1 : SS C st d) (h2 : SB C rest e) : SB C (st :: rest) (dSeq d e) := by
  intro X fx G F0 H0 F env σ H D K r h k
  refine wb_of (pss_cons ps_w pb_w) ?_
  exact h1 X fx G F0 H0 F env σ H _ _ r h ⟨fun env' F' σ' H' r' l hn => h2 X fx G F0 H0 F' env' σ' H' D K r' hn (k.later l), k.bk, k.ct, k.rt⟩
@[simp] def dPass : DS := fun K env => K.nx env
theorem ss_pass : SS C (.Pass pos) dPass := by
  intro X fx G F0 H0 F env σ H D K r h k
  exact ws_of ps_pass (k.nx env F σ H r .refl h)
@[simp] def dBreak : DS := fun K env => K.bk env
theorem ss_break : SS C (.Break pos) dBreak := by
  intro X fx G F0 H0 F env σ H D K r h k
  exact ws_of ps_break (k.bk env F σ H r .refl h)
@[simp] def dCont : DS := fun K env => K.ct env
theorem ss_cont : SS C (.Continue pos) dCont := by
  intro X fx G F0 H0 F env σ H D K r h k
  exact ws_of ps_continue (k.ct env F σ H r .refl h)
def dNever : DS := fun _ _ => False
theorem ss_never : SS C st dNever := by
  intro X fx G F0 H0 F env σ H D K r h k
  exact h.elim
variable {a c : Expr} {da : DO} {dc : DB} {B1 B2 : List Stmt}
@[simp] def dIfS (c : DB) (d e : DS) : DS := fun K env => c env fun b env1 => (b = true → d K env1) ∧ (b = false → e K env1)
theorem ss_if (hc : STe C c dc) (h1 : SB C B1 d) (h2 : SB C B2 e) : SS C (.If c B1 B2 pos) (dIfS dc d e) := by
  intro X fx G F0 H0 F env σ H D K r h k
  refine ws_of (ps_if pt_w pb_w pb_w) ?_
  refine hc X fx G F env σ H _ _ r.r h fun b env1 F1 H1 e1 q => ?_
  cases b with
  | true => exact iteT (h1 X fx G F0 H0 F1 env1 σ H1 D K (r.step e1) (q.1 rfl) (k.later (e1.lt r.r)))
  | false => exact iteF (h2 X fx G F0 H0 F1 env1 σ H1 D K (r.step e1) (q.2 rfl) (k.later (e1.lt r.r)))
@[simp] def dExpr (da : DO) : DS := fun K env => da env fun _ env1 => K.nx env1
theorem ss_expr (ha : SO C a da) (hs : ∀ env, swapsWith a none pos.line env = pure false) : SS C (.Expr a pos) (dExpr da) := by
  intro X fx G F0 H0 F env σ H D K r h k
  refine ws_of (ps_expr pe_w (hs X.env)) ?_
  exact ha X fx G F env σ H _ _ r.r h fun r1 env1 F1 H1 x e1 q1 h1 => k.nx env1 F1 σ H1 (r.step e1) (e1.lt r.r) h1
@[simp] def dRet (da : DO) : DS := fun K env => da env fun ra env1 => ∃ v, ra.get env1 = some v ∧ K.rt v
theorem ss_ret (ha : SO C a da) : SS C (.Return (some a) pos) (dRet da) := by
  intro X fx G F0 H0 F env σ H D K r h k
  refine ws_of (ps_ret pe_w) ?_
  refine ha X fx G F env σ H _ _ r.r h fun r1 env1 F1 H1 x e1 q1 h1 => ?_
  obtain ⟨v, g, h1⟩ := h1
  have s1 := r.step e1
  refine k.rt v F1 H1 x s1.cend ?_ h1
  cases r1 with
  | v z => cases g; exact r.cres q1
  | s i =>
    refine ⟨q1.at e1.r g, fun ho b eb => ?_⟩
    subst eb
    have ob : OwnS env1 σ b := ⟨i, v, get_s g, ho, q1⟩
    exact ⟨s1.own b ob, fun z => e1.r.potO z ob⟩
@[simp] def dRetN : DS := fun K env => K.rt (.d .none)
theorem ss_retN : SS C (.Return none pos) dRetN := by
  intro X fx G F0 H0 F env σ H D K r h k
  refine ws_of ps_retN ?_
  exact k.rt (.d .none) F H _ r.cend ⟨(by show RepD F H .none _; simp only [RepD]), fun ho => by cases ho⟩ h

/-! ### stores to names -/
@[simp] def dSet (i : Nat) (da : DO) : DS := fun K env => da env fun ra env1 => mvR ra env1 fun v env2 => i < env2.length ∧ K.nx (env2.set i (some v))
/-- a name that the block itself stores -/
def LocC (C : SC) (x : Str) : Prop := Loc C.sc x ∧ (C.sc.names.lookup x = some .local ∨ x ∈ C.own)
theorem fn_of' {X : Cx} (fx : Fits C X) {x : Str} (hx : LocC C x) : X.fn x = true ∨ X.env.scope.names.lookup x = some .local := by
  rcases hx.2 with h | h
  · exact .inr (by rw [fx.sc]; exact h)
  · exact .inl (fx.fn x h)
theorem ss_set {i : Nat} {x : Str} {p : Pos} (hi : C.N[i]? = some x) (hx : LocC C x) (ha : SO C a da) (hs : ∀ env, env.scope = C.sc → swapsWith a (some (.Name x p)) pos.line env = pure false) : SS C (.Assign [.Name x p] a pos) (dSet i da) := by
  intro X fx G F0 H0 F env σ H D K r h k
  refine ws_of (ps_set (i := i) fx.nd (by rw [fx.n]; exact hi) (by rw [fx.sc]; exact hx.1) pe_w (hs X.env fx.sc) (fn_of' fx hx)) ?_
  refine ha X fx G F env σ H _ _ r.r h fun r1 env1 F1 H1 y e1 q1 h1 => ?_
  obtain ⟨F2, env2, v, e2, q2, hl, h2⟩ := move e1 q1 h1
  exact k.nx _ F2 _ H1 (r.put e2 q2 hl) (e2.lt r.r) h2
variable {b : Expr} {db : DO} {a3 : Expr} {d3 : DO}
/-- a, b = x, y -/
@[simp] def dPar2 (i j : Nat) (da db : DO) : DS := fun K env => da env fun ra env1 => mvR ra env1 fun v env2 => db env2 fun rb env3 => mvR rb env3 fun w env4 => i < env4.length ∧ j < env4.length ∧ K.nx ((env4.set i (some v)).set j (some w))
theorem par2_run {i j : Nat} (ha : SO C a da) (hb : SO C b db) {X : Cx} (fx : Fits C X) {G : Gh} {F0 : AP1} {H0 : Hp} {F : AP1} {env : Env} {σ : L2.St} {H : Hp} {K : KE} {P : V → V → Hp → Prop} (r : RS G F0 H0 F env σ H) (h : dPar2 i j da db K env)
    (kn : ∀ x1 x2 env' F' H', RS G F0 H0 F' env' ((σ.set i (some x1)).set j (some x2)) H' → Lt F H F' H' → K.nx env' → P x1 x2 H') : wE X a σ H fun x1 H1 => wE X b σ H1 fun x2 H2 => P x1 x2 H2 := by
  refine ha X fx G F env σ H _ _ r.r h fun r1 env1 F1 H1 y1 e1 q1 h1 => ?_
  obtain ⟨F2, env2, v, e2, q2, h2⟩ := move e1 q1 h1
  refine hb X fx G F2 env2 σ H1 _ _ e2.r h2 fun r3 env3 F3 H3 y3 e3 q3 h3 => ?_
  obtain ⟨F4, env4, w, e4, q4, hl, hl2, h4⟩ := move e3 q3 h3
  have q2' := q2.step e2.r e4
  have e24 := e2.trans e4
  have s1 := r.put e24 q2' hl
  -- the second store
  have ap : ∀ c, isOwn w = true → y3 = .ref c → ¬ (isOwn v = true ∧ y1 = .ref c) := fun c ho ec ⟨ho1, ec1⟩ => by
    obtain ⟨o1, _, _⟩ := q4.one ho c ec
    obtain ⟨_, n2, _⟩ := q2.one ho1 c ec1
    rcases o1 with o1 | o1
    · exact n2 o1
    · have z : ∃ o, H1 c = some o := by
        have rp := q2.rep
        cases v with
        | d _ => cases ho1
        | pot => cases ho1
        | own xs => obtain ⟨c', vs, ec', _, hc, _⟩ := rp; rw [ec1] at ec'; cases ec'; exact ⟨_, hc⟩
        | odk xs => obtain ⟨c', ks, vs, ec', _, _, _, _, hc⟩ := rp; rw [ec1] at ec'; cases ec'; exact ⟨_, hc⟩
      obtain ⟨o, z⟩ := z
      rw [o1] at z; cases z
  have rr := s1.r.put (i := j) (by simpa using hl2) (v := w) (x := y3) q4.rep fun ho c ec => by
    obtain ⟨o1, n2, n3⟩ := q4.one ho c ec
    refine ⟨fun z => ?_, n3⟩
    rcases z.put with z | z
    · exact n2 z
    · exact ap c ho ec z
  refine kn y1 y3 _ F4 H3 ⟨rr, s1.keep, s1.live, s1.grow, s1.fro, fun c hc => ?_⟩ (e24.lt r.r) h4
  rcases hc.put with hc | ⟨ho, ec⟩
  · exact s1.own c hc
  · have s2 := r.step e2
    exact (q4.one ho c ec).1.elim (s2.own c) s2.free
theorem ss_par2 {i j : Nat} {x y : Str} {px py pt pt2 : Pos} {kt k2 : Nat} (hi : C.N[i]? = some x) (hj : C.N[j]? = some y) (hij : i ≠ j) (hx : C.sc.names.lookup x = some .local) (hy : C.sc.names.lookup y = some .local) (ha : SO C a da) (hb : SO C b db)
    (sa : ∀ env, starEach [a, b] env = (false, eval a env) :: starEach [b] env) (sb : ∀ env, starEach [b] env = (false, eval b env) :: starEach [] env)
    (hw : ∀ env, env.scope = C.sc → env.scope.kind = .function → swappedStores [.Tuple [.Name x px, .Name y py] kt pt] (.Tuple [a, b] k2 pt2) env = pure (some [x, y])) :
    SS C (.Assign [.Tuple [.Name x px, .Name y py] kt pt] (.Tuple [a, b] k2 pt2) pos) (dPar2 i j da db) := by
  intro X fx G F0 H0 F env σ H D K r h k
  refine ws_of (ps_par (i := i) (j := j) fx.calm fx.nd (by rw [fx.n]; exact hi) (by rw [fx.n]; exact hj) hij (by rw [fx.sc]; exact hx) (by rw [fx.sc]; exact hy) (pa_cons pe_w (pa_cons pe_w pa_nil (sb X.env)) (sa X.env)) (hw X.env fx.sc fx.kind)) ?_
  show wE X a σ H fun x1 H1 => wE X b σ H1 fun x2 H2 => ∃ v w, [x1, x2] = [v, w] ∧ D.nx ((σ.set i (some v)).set j (some w)) H2
  exact par2_run ha hb fx (P := fun x1 x2 H2 => ∃ v w, [x1, x2] = [v, w] ∧ D.nx ((σ.set i (some v)).set j (some w)) H2) r h fun x1 x2 env' F' H' rs lt hk => ⟨x1, x2, rfl, k.nx env' F' _ H' rs lt hk⟩
theorem apart {G : Gh} {F2 F4 : AP1} {env env2 env4 : Env} {σ : L2.St} {H H2 H4 : Hp} {v w : Val} {y z : V} (q1 : Res G env σ H F2 env2 H2 v y) (q2 : Res G env2 σ H2 F4 env4 H4 w z) (c : Addr) (h1 : isOwn v = true) (h2 : isOwn w = true) (e1 : y = .ref c) (e2 : z = .ref c) : False := by
  obtain ⟨o1, _, _⟩ := q2.one h2 c e2
  obtain ⟨_, n2, _⟩ := q1.one h1 c e1
  rcases o1 with o1 | o1
  · exact n2 o1
  · have z : ∃ o, H2 c = some o := by
      have rp := q1.rep
      cases v with
      | d _ => cases h1
      | pot => cases h1
      | own xs => obtain ⟨c', vs, ec', _, hc, _⟩ := rp; rw [e1] at ec'; cases ec'; exact ⟨_, hc⟩
      | odk xs => obtain ⟨c', ks, vs, ec', _, _, _, _, hc⟩ := rp; rw [e1] at ec'; cases ec'; exact ⟨_, hc⟩
    obtain ⟨o, z⟩ := z
    rw [o1] at z; cases z
/-- a, b, c = x, y, z -/
@[simp] def dPar3 (i j l : Nat) (da db d3 : DO) : DS := fun K env => da env fun ra env1 => mvR ra env1 fun u env2 => db env2 fun rb env3 => mvR rb env3 fun v env4 => d3 env4 fun rc env5 => mvR rc env5 fun w env6 =>
  i < env6.length ∧ j < env6.length ∧ l < env6.length ∧ K.nx (((env6.set i (some u)).set j (some v)).set l (some w))
theorem par3_run {i j l : Nat} (ha : SO C a da) (hb : SO C b db) (h3 : SO C a3 d3) {X : Cx} (fx : Fits C X) {G : Gh} {F0 : AP1} {H0 : Hp} {F : AP1} {env : Env} {σ : L2.St} {H : Hp} {K : KE} {P : V → V → V → Hp → Prop} (r : RS G F0 H0 F env σ H) (h : dPar3 i j l da db d3 K env)
    (kn : ∀ x1 x2 x3 env' F' H', RS G F0 H0 F' env' (((σ.set i (some x1)).set j (some x2)).set l (some x3)) H' → Lt F H F' H' → K.nx env' → P x1 x2 x3 H') : wE X a σ H fun x1 H1 => wE X b σ H1 fun x2 H2 => wE X a3 σ H2 fun x3 H3 => P x1 x2 x3 H3 := by
  refine ha X fx G F env σ H _ _ r.r h fun r1 env1 F1 H1 y1 e1 q1 h1 => ?_
  obtain ⟨F2, env2, u, e2, q2, h2⟩ := move e1 q1 h1
  refine hb X fx G F2 env2 σ H1 _ _ e2.r h2 fun r3 env3 F3 H3 y3 e3 q3 h3' => ?_
  obtain ⟨F4, env4, v, e4, q4, h4⟩ := move e3 q3 h3'
  refine h3 X fx G F4 env4 σ H3 _ _ e4.r h4 fun r5 env5 F5 H5 y5 e5 q5 h5 => ?_
  obtain ⟨F6, env6, w, e6, q6, l1, l2, l3, h6⟩ := move e5 q5 h5
  have q2b := q2.step e2.r e4
  have q2c := q2b.step e4.r e6
  have q4c := q4.step e4.r e6
  have e26 := (e2.trans e4).trans e6
  have s1 := r.put e26 q2c l1
  have s2 := r.step e2
  have s4 := s2.step e4
  have rr := s1.r.put (i := j) (by simpa using l2) (v := v) (x := y3) q4c.rep fun ho c ec => by
    obtain ⟨o1, n2, n3⟩ := q4c.one ho c ec
    refine ⟨fun z => ?_, n3⟩
    rcases z.put with z | ⟨ho1, ec1⟩
    · exact n2 z
    · exact apart q2 q4 c ho1 ho ec1 ec
  have s5 : RS G F0 H0 F6 ((env6.set i (some u)).set j (some v)) ((σ.set i (some y1)).set j (some y3)) H5 := ⟨rr, s1.keep, s1.live, s1.grow, s1.fro, fun c hc => by
    rcases hc.put with hc | ⟨ho, ec⟩
    · exact s1.own c hc
    · exact (q4.one ho c ec).1.elim (s2.own c) s2.free⟩
  have rr2 := s5.r.put (i := l) (by simpa using l3) (v := w) (x := y5) q6.rep fun ho c ec => by
    obtain ⟨o1, n2, n3⟩ := q6.one ho c ec
    refine ⟨fun z => ?_, n3⟩
    rcases z.put with z | ⟨ho1, ec1⟩
    · rcases z.put with z | ⟨ho1, ec1⟩
      · exact n2 z
      · exact apart q2b q6 c ho1 ho ec1 ec
    · exact apart q4 q6 c ho1 ho ec1 ec
  refine kn y1 y3 y5 _ F6 H5 ⟨rr2, s5.keep, s5.live, s5.grow, s5.fro, fun c hc => ?_⟩ (e26.lt r.r) h6
  rcases hc.put with hc | ⟨ho, ec⟩
  · exact s5.own c hc
  · exact (q6.one ho c ec).1.elim (s4.own c) s4.free
theorem ss_par3 {i j l : Nat} {x y z : Str} {px py pz pt pt2 : Pos} {kt k2 : Nat} (hi : C.N[i]? = some x) (hj : C.N[j]? = some y) (hl : C.N[l]? = some z) (hij : i ≠ j) (hil : i ≠ l) (hjl : j ≠ l) (hx : C.sc.names.lookup x = some .local) (hy : C.sc.names.lookup y = some .local) (hz : C.sc.names.lookup z = some .local) (ha : SO C a da) (hb : SO C b db) (h3 : SO C a3 d3)
    (sa : ∀ env, starEach [a, b, a3] env = (false, eval a env) :: starEach [b, a3] env) (sb : ∀ env, starEach [b, a3] env = (false, eval b env) :: starEach [a3] env) (s3 : ∀ env, starEach [a3] env = (false, eval a3 env) :: starEach [] env)
    (hw : ∀ env, env.scope = C.sc → env.scope.kind = .function → swappedStores [.Tuple [.Name x px, .Name y py, .Name z pz] kt pt] (.Tuple [a, b, a3] k2 pt2) env = pure (some [x, y, z])) :
    SS C (.Assign [.Tuple [.Name x px, .Name y py, .Name z pz] kt pt] (.Tuple [a, b, a3] k2 pt2) pos) (dPar3 i j l da db d3) := by
  intro X fx G F0 H0 F env σ H D K r h k
  refine ws_of (ps_par3 (i := i) (j := j) (l := l) fx.calm fx.nd (by rw [fx.n]; exact hi) (by rw [fx.n]; exact hj) (by rw [fx.n]; exact hl) hij hil hjl (by rw [fx.sc]; exact hx) (by rw [fx.sc]; exact hy) (by rw [fx.sc]; exact hz) (pa_cons pe_w (pa_cons pe_w (pa_cons pe_w pa_nil (s3 X.env)) (sb X.env)) (sa X.env)) (hw X.env fx.sc fx.kind)) ?_
  show wE X a σ H fun x1 H1 => wE X b σ H1 fun x2 H2 => wE X a3 σ H2 fun x3 H3 => ∃ u v w, [x1, x2, x3] = [u, v, w] ∧ D.nx (((σ.set i (some u)).set j (some v)).set l (some w)) H3
  refine ha X fx G F env σ H _ _ r.r h fun r1 env1 F1 H1 y1 e1 q1 h1 => ?_
  obtain ⟨F2, env2, u, e2, q2, h2⟩ := move e1 q1 h1
  refine hb X fx G F2 env2 σ H1 _ _ e2.r h2 fun r3 env3 F3 H3 y3 e3 q3 h3' => ?_
  obtain ⟨F4, env4, v, e4, q4, h4⟩ := move e3 q3 h3'
  refine h3 X fx G F4 env4 σ H3 _ _ e4.r h4 fun r5 env5 F5 H5 y5 e5 q5 h5 => ?_
  obtain ⟨F6, env6, w, e6, q6, l1, l2, l3, h6⟩ := move e5 q5 h5
  refine ⟨y1, y3, y5, rfl, ?_⟩
  have q2b := q2.step e2.r e4
  have q2c := q2b.step e4.r e6
  have q4c := q4.step e4.r e6
  have e26 := (e2.trans e4).trans e6
  have s1 := r.put e26 q2c l1
  have s2 := r.step e2
  have s4 := s2.step e4
  have rr := s1.r.put (i := j) (by simpa using l2) (v := v) (x := y3) q4c.rep fun ho c ec => by
    obtain ⟨o1, n2, n3⟩ := q4c.one ho c ec
    refine ⟨fun z => ?_, n3⟩
    rcases z.put with z | ⟨ho1, ec1⟩
    · exact n2 z
    · exact apart q2 q4 c ho1 ho ec1 ec
  have s5 : RS G F0 H0 F6 ((env6.set i (some u)).set j (some v)) ((σ.set i (some y1)).set j (some y3)) H5 := ⟨rr, s1.keep, s1.live, s1.grow, s1.fro, fun c hc => by
    rcases hc.put with hc | ⟨ho, ec⟩
    · exact s1.own c hc
    · exact (q4.one ho c ec).1.elim (s2.own c) s2.free⟩
  have rr2 := s5.r.put (i := l) (by simpa using l3) (v := w) (x := y5) q6.rep fun ho c ec => by
    obtain ⟨o1, n2, n3⟩ := q6.one ho c ec
    refine ⟨fun z => ?_, n3⟩
    rcases z.put with z | ⟨ho1, ec1⟩
    · rcases z.put with z | ⟨ho1, ec1⟩
      · exact n2 z
      · exact apart q2b q6 c ho1 ho ec1 ec
    · exact apart q4 q6 c ho1 ho ec1 ec
  refine k.nx _ F6 _ H5 ⟨rr2, s5.keep, s5.live, s5.grow, s5.fro, fun c hc => ?_⟩ (e26.lt r.r) h6
  rcases hc.put with hc | ⟨ho, ec⟩
  · exact s5.own c hc
  · exact (q6.one ho c ec).1.elim (s4.own c) s4.free
end

/-! ### while -/
section
variable {C : SC} {c : Expr} {dc : DB} {B : List Stmt} {d : DS} {pos : Pos}
def whileN (c : DB) (b : DS) (K : KE) : Nat → Env → Prop
  | 0, _ => False
  | n + 1, env => c env fun k env1 => (k = false → K.nx env1) ∧ (k = true → b { nx := whileN c b K n, ct := whileN c b K n, bk := K.nx, rt := K.rt } env1)
def dWhile (c : DB) (b : DS) : DS := fun K env => ∃ n, whileN c b K n env
theorem ss_while (hc : STe C c dc) (hb : SB C B d) : SS C (.While c B [] pos) (dWhile dc d) := by
  intro X fx G F0 H0 F env σ H D K r h k
  refine ws_of (ps_while (by rw [fx.xe]; exact PassesOwn.never) pt_w pb_w) ?_
  obtain ⟨n, h⟩ := h
  refine ⟨fun m σ' H' => ∃ F' env', RS G F0 H0 F' env' σ' H' ∧ Lt F H F' H' ∧ whileN dc d K m env', ⟨n, F, env, r, .refl, h⟩, ?_⟩
  rintro m σ1 H1 ⟨F1, env1, r1, l1, h1⟩
  cases m with
  | zero => exact h1.elim
  | succ m =>
    refine hc X fx G F1 env1 σ1 H1 _ _ r1.r h1 fun b env2 F2 H2 e2 h2 => ?_
    have r2 := r1.step e2
    have l2 := l1.trans (e2.lt r1.r)
    cases b with
    | false => exact iteF (k.nx env2 F2 σ1 H2 r2 l2 (h2.1 rfl))
    | true =>
      refine iteT ⟨fun σ' H' => ∃ F' env', RS G F0 H0 F' env' σ' H' ∧ Lt F H F' H' ∧ whileN dc d K m env', fun σ' H' q => ⟨m, Nat.lt_succ_self m, q⟩, ?_⟩
      refine hb X fx G F0 H0 F2 env2 σ1 H2 _ _ r2 (h2.2 rfl) ⟨fun env' F' σ' H' r' l' q => ⟨F', env', r', l2.trans l', q⟩, fun env' F' σ' H' r' l' q => k.nx env' F' σ' H' r' (l2.trans l') q, fun env' F' σ' H' r' l' q => ⟨F', env', r', l2.trans l', q⟩, k.rt⟩
end

/-! ### targets -/
abbrev DT := PyData → Env → (Env → Prop) → Prop
abbrev DTs := List PyData → Env → (Env → Prop) → Prop
def wG (X : Cx) (tg : Expr) : TG := fun v σ H Q => ∀ (pins : List (Addr × Obj)) (s : Shared) (u : Value), Inv X pins σ H s → RelV v u → wpAny (model X.prog X.w) X.A (assign tg X.env u) (fun _ s' => ∃ σ' H', Inv X pins σ' H' s' ∧ Q σ' H') X.xe s
theorem pg_w {X : Cx} {tg : Expr} : PG X tg (wG X tg) := ⟨fun pins s σ H v u Q I r h => h pins s u I r⟩
theorem wg_of {X : Cx} {tg : Expr} {t : TG} {v σ H Q} (h : PG X tg t) (q : t v σ H Q) : wG X tg v σ H Q := fun pins s u I r => h.run pins s σ H v u Q I r q
def wGs (X : Cx) (ts : List Expr) : TGs := fun vs σ H Q => ∀ (pins : List (Addr × Obj)) (s : Shared) (us : List Value), Inv X pins σ H s → Vals vs us → wpAny (model X.prog X.w) X.A (assignInOrder ((assignEach ts X.env).map (·.2)) us) (fun _ s' => ∃ σ' H', Inv X pins σ' H' s' ∧ Q σ' H') X.xe s
theorem pgs_w {X : Cx} {ts : List Expr} : PGs X ts (wGs X ts) := ⟨fun pins s σ H v u Q I r h => h pins s u I r⟩
theorem wgs_of {X : Cx} {ts : List Expr} {t : TGs} {v σ H Q} (h : PGs X ts t) (q : t v σ H Q) : wGs X ts v σ H Q := fun pins s u I r => h.run pins s σ H v u Q I r q
/-- targets of names alone: the heap stays, the slots sl are written -/
def SGn (C : SC) (tg : Expr) (sl : List Nat) (d : DT) : Prop := ∀ (X : Cx), Fits C X → ∀ (G : Gh) (F : AP1) (env : Env) (σ : L2.St) (H : Hp) (x : PyData) (v : V) (Q : L2.St → Hp → Prop) (Φ : Env → Prop), R G F env σ H → RepD F H x v → d x env Φ →
  (∀ env' σ', R G F env' σ' H → (∀ a, OwnS env' σ' a → OwnS env σ a) → (∀ vs, (∀ i ∈ sl, i ∈ vs) → wipe σ' vs = wipe σ vs) → Φ env' → Q σ' H) → wG X tg v σ H Q
def SGns (C : SC) (ts : List Expr) (sl : List Nat) (d : DTs) : Prop := ∀ (X : Cx), Fits C X → ∀ (G : Gh) (F : AP1) (env : Env) (σ : L2.St) (H : Hp) (xs : List PyData) (vs : List V) (Q : L2.St → Hp → Prop) (Φ : Env → Prop), R G F env σ H → RepAll F H xs vs → d xs env Φ →
  (∀ env' σ', R G F env' σ' H → (∀ a, OwnS env' σ' a → OwnS env σ a) → (∀ vs, (∀ i ∈ sl, i ∈ vs) → wipe σ' vs = wipe σ vs) → Φ env' → Q σ' H) → wGs X ts vs σ H Q
theorem wipe_get {σ : L2.St} {j : Nat} : ∀ {vs : List Nat}, j ∉ vs → (wipe σ vs)[j]? = σ[j]?
  | [], _ => rfl
  | v :: vs, h => by
    unfold wipe
    have h1 : v ≠ j := fun z => h (by simp [z])
    have h2 : j ∉ vs := fun z => h (List.mem_cons_of_mem _ z)
    rw [List.getElem?_set_ne h1]
    exact wipe_get h2
theorem wipe_in {σ : L2.St} {j : Nat} : ∀ {vs : List Nat}, j ∈ vs → (wipe σ vs)[j]? = if j < σ.length then some none else none
  | v :: vs, h => by
    unfold wipe
    by_cases e : v = j
    · subst e
      by_cases hl : v < σ.length
      · rw [List.getElem?_set_self (by rw [wipe_length]; exact hl), if_pos hl]
      · rw [List.getElem?_eq_none (by rw [List.length_set, wipe_length]; omega), if_neg hl]
    · rw [List.getElem?_set_ne e]
      exact wipe_in ((List.mem_cons.mp h).resolve_left fun z => e z.symm)
theorem wipe_set {σ : L2.St} {i : Nat} {y : Option V} {vs : List Nat} (h : i ∈ vs) : wipe (σ.set i y) vs = wipe σ vs := by
  apply List.ext_getElem?
  intro j
  by_cases hj : j ∈ vs
  · rw [wipe_in hj, wipe_in hj, List.length_set]
  · rw [wipe_get hj, wipe_get hj, List.getElem?_set_ne (fun z : i = j => hj (z ▸ h))]
theorem wipe_wipe {σ : L2.St} {vs : List Nat} : wipe (wipe σ vs) vs = wipe σ vs := by
  apply List.ext_getElem?
  intro j
  by_cases hj : j ∈ vs
  · rw [wipe_in hj, wipe_in hj, wipe_length]
  · rw [wipe_get hj]
def SG (C : SC) (tg : Expr) (d : DT) : Prop := ∀ (X : Cx), Fits C X → ∀ (G : Gh) (F0 : AP1) (H0 : Hp) (F : AP1) (env : Env) (σ : L2.St) (H : Hp) (x : PyData) (v : V) (Q : L2.St → Hp → Prop) (Φ : Env → Prop), RS G F0 H0 F env σ H → RepD F H x v → d x env Φ →
  (∀ env' F' σ' H', RS G F0 H0 F' env' σ' H' → Lt F H F' H' → Φ env' → Q σ' H') → wG X tg v σ H Q
def SGs (C : SC) (ts : List Expr) (d : DTs) : Prop := ∀ (X : Cx), Fits C X → ∀ (G : Gh) (F0 : AP1) (H0 : Hp) (F : AP1) (env : Env) (σ : L2.St) (H : Hp) (xs : List PyData) (vs : List V) (Q : L2.St → Hp → Prop) (Φ : Env → Prop), RS G F0 H0 F env σ H → RepAll F H xs vs → d xs env Φ →
  (∀ env' F' σ' H', RS G F0 H0 F' env' σ' H' → Lt F H F' H' → Φ env' → Q σ' H') → wGs X ts vs σ H Q
section
variable {C : SC} {e : Expr} {es : List Expr} {d : DT} {ds : DTs} {pos : Pos}
@[simp] def tName (i : Nat) : DT := fun x env Φ => i < env.length ∧ Φ (env.set i (some (.d x)))
theorem sgn_name {i : Nat} {x : Str} (hi : C.N[i]? = some x) (hx : LocC C x) : SGn C (.Name x pos) [i] (tName i) := by
  intro X fx G F env σ H z v Q Φ r rz h hQ
  refine wg_of (pg_name (i := i) fx.nd (by rw [fx.n]; exact hi) (by rw [fx.sc]; exact hx.1) (fn_of' fx hx)) ?_
  exact hQ _ _ (r.put (v := .d z) h.1 rz fun ho => by cases ho) (fun a ha => ha.put.elim id fun ⟨ho, _⟩ => by cases ho) (fun vs hv => wipe_set (hv i (by simp))) h.2
theorem sgns_nil : SGns C [] [] (fun xs env Φ => xs = [] ∧ Φ env) := by
  intro X fx G F env σ H xs vs Q Φ r rx h hQ
  obtain ⟨rfl, h⟩ := h
  cases rx.inv0
  exact wgs_of pgs_nil ⟨rfl, hQ env σ r (fun _ h => h) (fun _ _ => rfl) h⟩
theorem sgns_cons {s1 s2 : List Nat} (h1 : SGn C e s1 d) (h2 : SGns C es s2 ds) (hs : ∀ env, (assignEach (e :: es) env).map (·.2) = assign e env :: (assignEach es env).map (·.2)) :
    SGns C (e :: es) (s1 ++ s2) (fun xs env Φ => ∃ x r, xs = x :: r ∧ d x env fun env1 => ds r env1 Φ) := by
  intro X fx G F env σ H xs vs Q Φ r rx h hQ
  obtain ⟨x, t, rfl, h⟩ := h
  obtain ⟨v, w, rfl, r1, r2⟩ := rx.inv
  refine wgs_of (pgs_cons pg_w pgs_w (hs X.env)) ⟨v, w, rfl, ?_⟩
  refine h1 X fx G F env σ H x v _ _ r r1 h fun env' σ' r' o' w' h' => ?_
  exact h2 X fx G F env' σ' H t w _ _ r' r2 h' fun env2 σ2 s2' o2 w2 hh => hQ env2 σ2 s2' (fun a ha => o' a (o2 a ha)) (fun vs hv => (w2 vs fun i hi => hv i (List.mem_append_right _ hi)).trans (w' vs fun i hi => hv i (List.mem_append_left _ hi))) hh
theorem sgn_tup {k n : Nat} {sl : List Nat} (hs : SGns C es sl ds) (hn : ∀ env, (assignEach es env).length = n) (hst : ∀ env, (assignEach es env).findIdx? (·.1) = none) : SGn C (.Tuple es k pos) sl (fun x env Φ => ∃ xs, x = .tuple xs ∧ xs.length = n ∧ ds xs env Φ) := by
  intro X fx G F env σ H z v Q Φ r rz h hQ
  obtain ⟨xs, rfl, hl, h⟩ := h
  simp only [RepD] at rz
  obtain ⟨a, vs, rfl, fa, ha, rr⟩ := rz
  refine wg_of (pg_tup (n := n) fx.calm pgs_w (hn X.env) (hst X.env)) ⟨a, vs, rfl, SqT.of ha, by rw [rr.length]; exact hl, ?_⟩
  exact hs X fx G F env σ H xs vs Q Φ r rr h hQ
theorem sg_name {i : Nat} {x : Str} (hi : C.N[i]? = some x) (hx : LocC C x) : SG C (.Name x pos) (tName i) := by
  intro X fx G F0 H0 F env σ H z v Q Φ r rz h hQ
  refine wg_of (pg_name (i := i) fx.nd (by rw [fx.n]; exact hi) (by rw [fx.sc]; exact hx.1) (fn_of' fx hx)) ?_
  exact hQ _ F _ H (r.put (v := .d z) (.refl r.r) (.imm rz) h.1) .refl h.2
@[simp] def tNil : DTs := fun xs env Φ => xs = [] ∧ Φ env
@[simp] def tCons (d : DT) (ds : DTs) : DTs := fun xs env Φ => ∃ x r, xs = x :: r ∧ d x env fun env1 => ds r env1 Φ
theorem sgs_nil : SGs C [] tNil := by
  intro X fx G F0 H0 F env σ H xs vs Q Φ r rx h hQ
  obtain ⟨rfl, h⟩ := h
  cases rx.inv0
  exact wgs_of pgs_nil ⟨rfl, hQ env F σ H r .refl h⟩
theorem sgs_cons (h1 : SG C e d) (h2 : SGs C es ds) (hs : ∀ env, (assignEach (e :: es) env).map (·.2) = assign e env :: (assignEach es env).map (·.2)) : SGs C (e :: es) (tCons d ds) := by
  intro X fx G F0 H0 F env σ H xs vs Q Φ r rx h hQ
  obtain ⟨x, t, rfl, h⟩ := h
  obtain ⟨v, w, rfl, r1, r2⟩ := rx.inv
  refine wgs_of (pgs_cons pg_w pgs_w (hs X.env)) ⟨v, w, rfl, ?_⟩
  refine h1 X fx G F0 H0 F env σ H x v _ _ r r1 h fun env' F' σ' H' r' l h' => ?_
  exact h2 X fx G F0 H0 F' env' σ' H' t w _ _ r' (RepAll.mono l.grow l.stab _ _ r2) h' fun env2 F2 σ2 H2 s2 l2 hh => hQ env2 F2 σ2 H2 s2 (l.trans l2) hh
@[simp] def tTup (n : Nat) (ds : DTs) : DT := fun x env Φ => ∃ xs, x = .tuple xs ∧ xs.length = n ∧ ds xs env Φ
theorem sg_tup {k n : Nat} (hs : SGs C es ds) (hn : ∀ env, (assignEach es env).length = n) (hst : ∀ env, (assignEach es env).findIdx? (·.1) = none) : SG C (.Tuple es k pos) (tTup n ds) := by
  intro X fx G F0 H0 F env σ H z v Q Φ r rz h hQ
  obtain ⟨xs, rfl, hl, h⟩ := h
  simp only [RepD] at rz
  obtain ⟨a, vs, rfl, fa, ha, rr⟩ := rz
  refine wg_of (pg_tup (n := n) fx.calm pgs_w (hn X.env) (hst X.env)) ⟨a, vs, rfl, SqT.of ha, by rw [rr.length]; exact hl, ?_⟩
  exact hs X fx G F0 H0 F env σ H xs vs Q Φ r rr h hQ
/-- name[i] = .. of one's own list -/
def wSet (X : Cx) : TSet := fun o i v H Q => ∀ (pins : List (Addr × Obj)) (s : Shared) (σ : L2.St) (ov iv u : Value), Inv X pins σ H s → RelV o ov → RelV i iv → RelV v u → wpAny (model X.prog X.w) X.A (setItem ov iv u) (fun _ s' => ∃ H', Inv X pins σ H' s' ∧ Q H') X.xe s
theorem pset_w {X : Cx} : PSet X (wSet X) := fun pins s σ H o i v ov iv u Q I r1 r2 r3 h => h pins s σ ov iv u I r1 r2 r3
theorem wset_of {X : Cx} {t : TSet} {o i v : V} {H : Hp} {Q : Hp → Prop} (h : PSet X t) (q : t o i v H Q) : wSet X o i v H Q := fun pins s σ ov iv u I r1 r2 r3 => h pins s σ H o i v ov iv u Q I r1 r2 r3 q
/-- one's own list has changed -/
theorem R.write {G : Gh} {F : AP1} {env : Env} {σ : L2.St} {H : Hp} {xs ys : List PyData} {i : Nat} {a : Addr} {vs : List V} (r : R G F env σ H) (ei : env[i]? = some (some (.own xs))) (si : σ[i]? = some (some (V.ref a))) (rr : RepAll F H ys vs) :
    Ext G F env σ H F (env.set i (some (.own ys))) (upd H a (.lst vs)) := by
  have oa : OwnS env σ a := ⟨i, _, ei, rfl, si⟩
  have nf := r.ownF oa
  have k : ∀ b o, b ≠ a → H b = some o → upd H a (.lst vs) b = some o := fun b o n h => by rw [upd_ne n]; exact h
  have st : ∀ b o, F b → H b = some o → upd H a (.lst vs) b = some o := fun b o f h => k b o (fun z => nf (z ▸ f)) h
  have hi : i < env.length := (List.getElem?_eq_some_iff.mp ei).1
  have ow : ∀ b, OwnS (env.set i (some (.own ys))) σ b → OwnS env σ b := fun b ⟨j, w, ej, ho, sj⟩ => by
    rcases setEnv_get ej with ⟨rfl, rfl⟩ | ⟨ne, ej⟩
    · exact ⟨j, _, ei, rfl, sj⟩
    · exact ⟨j, w, ej, ho, sj⟩
  refine ⟨⟨by simp [r.len], fun j w ej => ?_, fun j l w u c ej el ow1 ou sj sl => ?_, fun b f => ?_, fun p g e => ?_⟩, fun b o h n1 _ => k b o (fun z => n1 (z ▸ oa)) h, fun b o h => ?_, fun _ h => h, fun _ h => .inl h, ow⟩
  · rcases setEnv_get ej with ⟨rfl, rfl⟩ | ⟨ne, ej⟩
    · exact ⟨_, si, a, vs, rfl, nf, upd_same, RepAll.mono (fun _ h => h) st _ _ rr⟩
    · obtain ⟨y, sy, ry⟩ := r.rep j w ej
      refine ⟨y, sy, ?_⟩
      cases w with
      | d z => exact RepD.mono (fun _ h => h) st _ _ ry
      | pot => exact ry
      | own zs =>
        obtain ⟨c, us, rfl, n, hc, rc⟩ := ry
        exact ⟨c, us, rfl, n, k c _ (fun z => ne (r.sep j i _ _ a ej ei rfl rfl (z ▸ sy) si)) hc, RepAll.mono (fun _ h => h) st _ _ rc⟩
      | odk zs =>
        obtain ⟨c, ks, us, rfl, n, hk, rc, nd, hc⟩ := ry
        exact ⟨c, ks, us, rfl, n, hk, RepAll.mono (fun _ h => h) st _ _ rc, nd, k c _ (fun z => ne (r.sep j i _ _ a ej ei rfl rfl (z ▸ sy) si)) hc⟩
  · have gl : ∀ (j : Nat) (w : Val), (env.set i (some (.own ys)))[j]? = some (some w) → isOwn w = true → ∃ w', env[j]? = some (some w') ∧ isOwn w' = true := fun j w ej ho => by
      rcases setEnv_get ej with ⟨rfl, rfl⟩ | ⟨ne, ej⟩
      · exact ⟨_, ei, rfl⟩
      · exact ⟨w, ej, ho⟩
    obtain ⟨w', ej', hw'⟩ := gl j w ej ow1
    obtain ⟨u', el', hu'⟩ := gl l u el ou
    exact r.sep j l w' u' c ej' el' hw' hu' sj sl
  · obtain ⟨o, h⟩ := r.al b f
    exact ⟨o, st b o f h⟩
  · obtain ⟨⟨ns, sl, tn, h1, h2, h3⟩, h4, h5, h6⟩ := r.pt p g e
    obtain ⟨n1, n2⟩ := h6 a oa
    exact ⟨⟨ns, sl, tn, k _ _ n1.symm h1, k _ _ n2.symm h2, h3⟩, h4, h5, fun b hb => h6 b (ow b hb)⟩
  · by_cases e : b = a
    · subst e; exact ⟨_, upd_same⟩
    · exact ⟨o, k b o e h⟩
@[simp] def tSub (i : Nat) (db : DO) : DT := fun x env Φ => (∃ w, env[i]? = some (some w)) ∧ db env fun rb env1 => ∃ w, rb.get env1 = some w ∧ ∃ k j xs, toI w = some k ∧ env1[i]? = some (some (.own xs)) ∧ ixN xs.length k = some j ∧ Φ (env1.set i (some (.own (xs.set j x))))
theorem sg_sub {i : Nat} {x : Str} {p : Pos} {b : Expr} {db : DO} (ha : SO C (.Name x p) (dVar i)) (hb : SO C b db)
    (has : ∀ env v, assign (.Subscript (.Name x p) b pos) env v = (do
      let ov ← holding [v] (eval (.Name x p) env)
      let iv ← holding [v, ov] (eval b env)
      standAt pos
      holding [v, ov, iv] (setItem ov iv v)
      release [v, ov, iv] [])) : SG C (.Subscript (.Name x p) b pos) (tSub i db) := by
  intro X fx G F0 H0 F env σ H z v Q Φ r rz h hQ
  refine wg_of (pg_sub pe_w pe_w pset_w (has X.env)) ?_
  show wE X _ σ H fun o H1 => wE X b σ H1 fun ix H2 => wSet X o ix v H2 fun H3 => Q σ H3
  obtain ⟨hex, h⟩ := h
  refine ha X fx G F env σ H _ (fun rr env' => rr = .s i ∧ env' = env) r.r ⟨hex, rfl, rfl⟩ fun r1 env1 F1 H1 o e1 q1 h1 => ?_
  obtain ⟨rfl, rfl⟩ := h1
  refine hb X fx G F1 env1 σ H1 _ _ e1.r h fun r2 env2 F2 H2 ix e2 q2 h2 => ?_
  obtain ⟨w, g, k, j, xs, hk, ei, hj, h2⟩ := h2
  obtain ⟨_, rfl⟩ := rep_I hk (q2.at e2.r g)
  have q1 : σ[i]? = some (some o) := q1
  obtain ⟨o', so, ro⟩ := e2.r.rep i _ ei
  rw [q1] at so; cases so
  obtain ⟨a, vs, rfl, nf, hc, rc⟩ := ro
  have e12 := e1.trans e2
  have rz2 : RepD F2 H2 z v := e12.repD r.r rz
  refine wset_of set_list ⟨a, vs, k, j, rfl, rfl, hc, by rw [rc.length]; exact hj, ?_⟩
  have e3 := e2.r.write ei q1 (rc.set rz2 j)
  have e123 := e12.trans e3
  exact hQ _ F2 σ _ (r.step e123) (e123.lt r.r) h2
end
end Ev
set_option Elab.async false
set_option linter.all false
set_option maxRecDepth 100000
/-! Ev6: assignments to targets, what is walked, for, comprehensions. -/
namespace Ev
open PySem PySem.Spec PyProof.Rows L2

section
variable {C : SC} {a tg : Expr} {da : DO} {dt : DT} {pos : Pos}
@[simp] def dAsg (dt : DT) (da : DO) : DS := fun K env => da env fun ra env1 => shR ra env1 fun v env2 => ∃ x, v = .d x ∧ dt x env2 K.nx
theorem ss_asg (ha : SO C a da) (hg : SG C tg dt) (hs : ∀ env, swapsWithSole [tg] a pos.line env = pure false) (hw : ∀ env, env.scope = C.sc → swappedStores [tg] a env = pure none)
    (h1 : ∀ env, (assignEach [tg] env).map (·.2) = [assign tg env]) : SS C (.Assign [tg] a pos) (dAsg dt da) := by
  intro X fx G F0 H0 F env σ H D K r h k
  refine ws_of (ps_asg pe_w pg_w (hs X.env) (hw X.env fx.sc) (h1 X.env)) ?_
  refine ha X fx G F env σ H _ _ r.r h fun r1 env1 F1 H1 y e1 q1 h1 => ?_
  obtain ⟨F2, env2, v, e2, _, rv, no, x, rfl, h2⟩ := share e1 q1 h1
  exact hg X fx G F0 H0 F2 env2 σ H1 x y _ _ (r.step e2) rv h2 fun env' F' σ' H' r' l hn => k.nx env' F' σ' H' r' ((e2.lt r.r).trans l) hn
end

/-! ### what is walked -/
abbrev DI := Env → (List PyData → Env → Prop) → Prop
/-- a, b = x, y with names that are not swapped (cells): what comes is moved, the tuple is left over -/
theorem ss_parU2 {C : SC} {a b : Expr} {da db : DO} {pos : Pos} {i j : Nat} {x y : Str} {px py pt pt2 : Pos} {kt k2 : Nat} (hi : C.N[i]? = some x) (hj : C.N[j]? = some y) (hx : LocC C x) (hy : LocC C y) (ha : SO C a da) (hb : SO C b db)
    (sa : ∀ env, starEach [a, b] env = (false, eval a env) :: starEach [b] env) (sb : ∀ env, starEach [b] env = (false, eval b env) :: starEach [] env)
    (hs : ∀ env, swapsWithSole [.Tuple [.Name x px, .Name y py] kt pt] (.Tuple [a, b] k2 pt2) pos.line env = pure false)
    (hw : ∀ env, env.scope = C.sc → swappedStores [.Tuple [.Name x px, .Name y py] kt pt] (.Tuple [a, b] k2 pt2) env = pure none) :
    SS C (.Assign [.Tuple [.Name x px, .Name y py] kt pt] (.Tuple [a, b] k2 pt2) pos) (dPar2 i j da db) := by
  intro X fx G F0 H0 F env σ H D K r h k
  have nm : ∀ {i : Nat} {x : Str} {px : Pos}, C.N[i]? = some x → LocC C x → PG X (.Name x px) (gName i) := fun {i x px} hi hx =>
    pg_name fx.nd (by rw [fx.n]; exact hi) (by rw [fx.sc]; exact hx.1) (hx.2.elim (fun z => .inr (by rw [fx.sc]; exact z)) fun z => .inl (fx.fn x z))
  refine ws_of (ps_asg (pe_tup (pa_cons pe_w (pa_cons pe_w pa_nil (sb X.env)) (sa X.env))) (pg_tup (n := 2) fx.calm (pgs_cons (nm hi hx) (pgs_cons (nm hj hy) pgs_nil))) (hs X.env) (hw X.env fx.sc)) ?_
  refine par2_run ha hb fx (P := fun x1 x2 H2 => L2.tNil σ H2 fun zs H3 => (x1 :: x2 :: zs).length ≤ sizeLine ∧ ∀ p, H3 p = none → gTup X.K 2 (gCons (gName i) (gCons (gName j) gNil)) (.ref p) σ (upd H3 p (.tup (x1 :: x2 :: zs))) D.nx) r h fun x1 x2 env' F' H' rs lt hk => ?_
  refine ⟨by rw [sizeLine_eq]; simp, fun p hp => ⟨p, _, rfl, SqT.of upd_same, rfl, x1, _, rfl, x2, _, rfl, rfl, ?_⟩⟩
  have e := Ext.lone (o := .tup [x1, x2]) rs.r hp
  exact k.nx env' F' _ _ (rs.step e) (lt.trans (e.lt rs.r)) hk
theorem ss_parU3 {C : SC} {a b a3 : Expr} {da db d3 : DO} {pos : Pos} {i j l : Nat} {x y z : Str} {px py pz pt pt2 : Pos} {kt k2 : Nat} (hi : C.N[i]? = some x) (hj : C.N[j]? = some y) (hl : C.N[l]? = some z) (hx : LocC C x) (hy : LocC C y) (hz : LocC C z) (ha : SO C a da) (hb : SO C b db) (h3 : SO C a3 d3)
    (sa : ∀ env, starEach [a, b, a3] env = (false, eval a env) :: starEach [b, a3] env) (sb : ∀ env, starEach [b, a3] env = (false, eval b env) :: starEach [a3] env) (s3 : ∀ env, starEach [a3] env = (false, eval a3 env) :: starEach [] env)
    (hs : ∀ env, swapsWithSole [.Tuple [.Name x px, .Name y py, .Name z pz] kt pt] (.Tuple [a, b, a3] k2 pt2) pos.line env = pure false)
    (hw : ∀ env, env.scope = C.sc → swappedStores [.Tuple [.Name x px, .Name y py, .Name z pz] kt pt] (.Tuple [a, b, a3] k2 pt2) env = pure none) :
    SS C (.Assign [.Tuple [.Name x px, .Name y py, .Name z pz] kt pt] (.Tuple [a, b, a3] k2 pt2) pos) (dPar3 i j l da db d3) := by
  intro X fx G F0 H0 F env σ H D K r h k
  have nm : ∀ {i : Nat} {x : Str} {px : Pos}, C.N[i]? = some x → LocC C x → PG X (.Name x px) (gName i) := fun {i x px} hi hx =>
    pg_name fx.nd (by rw [fx.n]; exact hi) (by rw [fx.sc]; exact hx.1) (hx.2.elim (fun z => .inr (by rw [fx.sc]; exact z)) fun z => .inl (fx.fn x z))
  refine ws_of (ps_asg (pe_tup (pa_cons pe_w (pa_cons pe_w (pa_cons pe_w pa_nil (s3 X.env)) (sb X.env)) (sa X.env))) (pg_tup (n := 3) fx.calm (pgs_cons (nm hi hx) (pgs_cons (nm hj hy) (pgs_cons (nm hl hz) pgs_nil)))) (hs X.env) (hw X.env fx.sc)) ?_
  refine par3_run ha hb h3 fx (P := fun x1 x2 x3 H2 => L2.tNil σ H2 fun zs H3 => (x1 :: x2 :: x3 :: zs).length ≤ sizeLine ∧ ∀ p, H3 p = none → gTup X.K 3 (gCons (gName i) (gCons (gName j) (gCons (gName l) gNil))) (.ref p) σ (upd H3 p (.tup (x1 :: x2 :: x3 :: zs))) D.nx) r h fun x1 x2 x3 env' F' H' rs lt hk => ?_
  refine ⟨by rw [sizeLine_eq]; simp, fun p hp => ⟨p, _, rfl, SqT.of upd_same, rfl, x1, _, rfl, x2, _, rfl, x3, _, rfl, rfl, ?_⟩⟩
  have e := Ext.lone (o := .tup [x1, x2, x3]) rs.r hp
  exact k.nx env' F' _ _ (rs.step e) (lt.trans (e.lt rs.r)) hk
structure WalkD (F1 : AP1) (H1 : Hp) (J : It) (items : List PyData) : Prop where
  go : ∀ i H F, Lt F1 H1 F H → i < items.length → J.go i H
  stop : ∀ H F, Lt F1 H1 F H → J.stop items.length H
  yld : ∀ i H F x H', Lt F1 H1 F H → i < items.length → J.yld i H x H' → ∃ d, items[i]? = some d ∧ ((H' = H ∧ RepD F H d x) ∨ ∃ T ds vs, x = .ref T ∧ H T = none ∧ H' = upd H T (.tup vs) ∧ d = .tuple ds ∧ RepAll F H ds vs)
def wI (X : Cx) (tg iter : Expr) : TI := fun σ H R => ∀ (pins : List (Addr × Obj)) (s : Shared), Inv X pins σ H s → wpAny (model X.prog X.w) X.A (eval iter X.env) (fun v s1 => wpAny (model X.prog X.w) X.A (pyIter v) (PIE X pins σ tg R) X.xe s1) X.xe s
theorem pi_w {X : Cx} {tg iter : Expr} : PI X tg iter (wI X tg iter) := ⟨fun pins s σ H R I h => h pins s I⟩
theorem wi_of {X : Cx} {tg iter : Expr} {t : TI} {σ H R} (h : PI X tg iter t) (q : t σ H R) : wI X tg iter σ H R := fun pins s I => h.run pins s σ H R I q
def SI (C : SC) (tg iter : Expr) (d : DI) : Prop := ∀ (X : Cx), Fits C X → ∀ (G : Gh) (F : AP1) (env : Env) (σ : L2.St) (H : Hp) (Q : It → Hp → Prop) (Φ : List PyData → Env → Prop), R G F env σ H → d env Φ →
  (∀ items env' F' H' J, Ext G F env σ H F' env' H' → WalkD F' H' J items → Φ items env' → Q J H') → wI X tg iter σ H Q

section
variable {X : Cx} {pins : List (Addr × Obj)} {σ : L2.St} {H : Hp} {s : Shared} {tg : Expr} {a : Addr} {xs : List V} {R : It → Hp → Prop}
theorem it_list (I : Inv X pins σ H s) (hq : SqL X.K H a xs) (q : R (Itl X.K a) H) : wpAny (model X.prog X.w) X.A (pyIter (.ref a)) (PIE X pins σ tg R) X.xe s := by
  obtain ⟨its, rv, p, hz⟩ := I.list hq
  refine wpAny_pyIter_list p.isList ?_
  refine ⟨s.heap.objs.size, [s.heap.objs.size], _, _, H, rfl, I.kept (t' := s.toks) fun b o e => Heap.get?_push_of_some _ e, turn_list a _, ⟨_, Heap.get?_push_size _ rfl, rfl, rfl⟩, fun b hb => ?_, q⟩
  have e : b = s.heap.objs.size := by simpa using hb
  subst e
  exact I.fpOk (Nat.le_refl _) (I.hok.fresh (Nat.le_refl _))
theorem it_tup (I : Inv X pins σ H s) (hq : SqT X.K H a xs) (q : R (Itt X.K a) H) : wpAny (model X.prog X.w) X.A (pyIter (.ref a)) (PIE X pins σ tg R) X.xe s := by
  obtain ⟨its, rv, p, hz⟩ := I.tuple hq
  refine wpAny_pyIter_tuple (show s.heap.IsTuple a its.toArray from p) ?_
  refine ⟨s.heap.objs.size, [s.heap.objs.size], _, _, H, rfl, I.kept (t' := s.toks) fun b o e => Heap.get?_push_of_some _ e, turn_tuple a _, ⟨_, Heap.get?_push_size _ rfl, rfl, rfl⟩, fun b hb => ?_, q⟩
  have e : b = s.heap.objs.size := by simpa using hb
  subst e
  exact I.fpOk (Nat.le_refl _) (I.hok.fresh (Nat.le_refl _))
end
theorem SqL.only {K : PySem.W.Frag} {H : Hp} {a : Addr} {xs ys : List V} (h : H a = some (.lst xs)) (q : ∀ zs, SqL K H a zs → zs = ys → True) : True := trivial
theorem walk_list {K : PySem.W.Frag} {F1 : AP1} {H1 : Hp} {a : Addr} {vs : List V} {ds : List PyData} (fa : F1 a) (ha : H1 a = some (.lst vs)) (rr : RepAll F1 H1 ds vs) : WalkD F1 H1 (Itl K a) ds where
  go := fun i H F l hi => by
    obtain ⟨d, hd⟩ : ∃ d, ds[i]? = some d := ⟨ds[i], List.getElem?_eq_getElem hi⟩
    obtain ⟨v, hv, _⟩ := rr.get hd
    exact ⟨vs, v, SqL.of (l.stab a _ fa ha), hv⟩
  stop := fun H F l => ⟨vs, SqL.of (l.stab a _ fa ha), by rw [rr.length]; exact Nat.le_refl _⟩
  yld := fun i H F x H' l hi y => by
    obtain ⟨e, y⟩ := y
    obtain ⟨d, hd⟩ : ∃ d, ds[i]? = some d := ⟨ds[i], List.getElem?_eq_getElem hi⟩
    obtain ⟨v, hv, rv⟩ := rr.get hd
    have := y vs (SqL.of (l.stab a _ fa ha))
    rw [hv] at this; cases this
    exact ⟨d, hd, .inl ⟨e, RepD.mono l.grow l.stab _ _ rv⟩⟩
theorem walk_tup {K : PySem.W.Frag} {F1 : AP1} {H1 : Hp} {a : Addr} {vs : List V} {ds : List PyData} (fa : F1 a) (ha : H1 a = some (.tup vs)) (rr : RepAll F1 H1 ds vs) : WalkD F1 H1 (Itt K a) ds where
  go := fun i H F l hi => by
    obtain ⟨d, hd⟩ : ∃ d, ds[i]? = some d := ⟨ds[i], List.getElem?_eq_getElem hi⟩
    obtain ⟨v, hv, _⟩ := rr.get hd
    exact ⟨vs, v, SqT.of (l.stab a _ fa ha), hv⟩
  stop := fun H F l => ⟨vs, SqT.of (l.stab a _ fa ha), by rw [rr.length]; exact Nat.le_refl _⟩
  yld := fun i H F x H' l hi y => by
    obtain ⟨e, y⟩ := y
    obtain ⟨d, hd⟩ : ∃ d, ds[i]? = some d := ⟨ds[i], List.getElem?_eq_getElem hi⟩
    obtain ⟨v, hv, rv⟩ := rr.get hd
    have := y vs (SqT.of (l.stab a _ fa ha))
    rw [hv] at this; cases this
    exact ⟨d, hd, .inl ⟨e, RepD.mono l.grow l.stab _ _ rv⟩⟩
theorem walk_range {F1 : AP1} {H1 : Hp} {lo : Int} {n : Nat} : WalkD F1 H1 (Itr lo n) ((List.range n).map fun (i : Nat) => PyData.int (lo + i)) where
  go := fun i H F l hi => by
    have hi' : i < n := by simpa using hi
    exact hi'
  stop := fun H F l => by simp [Itr]
  yld := fun i H F x H' l hi y => by
    obtain ⟨e, y⟩ := y
    subst y
    have hi' : i < n := by simpa using hi
    exact ⟨.int (lo + i), by simp [hi'], .inl ⟨e, by simp only [RepD]⟩⟩
theorem walk_rangeC {F1 : AP1} {H1 : Hp} {lo c : Int} {n : Nat} : WalkD F1 H1 (Itc lo c n) ((List.range n).map fun (i : Nat) => PyData.int (lo + i * c)) where
  go := fun i H F l hi => by
    have hi' : i < n := by simpa using hi
    exact hi'
  stop := fun H F l => by simp [Itc]
  yld := fun i H F x H' l hi y => by
    obtain ⟨e, y⟩ := y
    subst y
    have hi' : i < n := by simpa using hi
    exact ⟨.int (lo + (i : Nat) * c), by simp [hi'], .inl ⟨e, by simp only [RepD]⟩⟩

/-- data of a list or a tuple -/
@[simp] def seqD : PyData → Option (List PyData)
  | .list xs => some xs
  | .tuple xs => some xs
  | _ => none
@[simp] def dSeqI (da : DO) : DI := fun env Φ => da env fun ra env1 => shR ra env1 fun v env2 => ∃ x, v = .d x ∧ ∃ xs, seqD x = some xs ∧ Φ xs env2
section
variable {C : SC} {tg a b c : Expr} {da db dc : DO} {pos p : Pos}
theorem rep_seq {F : AP1} {H : Hp} {x : PyData} {xs : List PyData} {y : V} (h : seqD x = some xs) (r : RepD F H x y) : ∃ a vs, y = .ref a ∧ F a ∧ (H a = some (.lst vs) ∨ H a = some (.tup vs)) ∧ RepAll F H xs vs := by
  cases x with
  | list zs => cases h; simp only [RepD] at r; obtain ⟨a, vs, e, f, ha, rr⟩ := r; exact ⟨a, vs, e, f, .inl ha, rr⟩
  | tuple zs => cases h; simp only [RepD] at r; obtain ⟨a, vs, e, f, ha, rr⟩ := r; exact ⟨a, vs, e, f, .inr ha, rr⟩
  | _ => cases h
theorem si_seq (ha : SO C a da) : SI C tg a (dSeqI da) := by
  intro X fx G F env σ H Q Φ r h hQ
  intro pins s I
  have w := ha X fx G F env σ H (fun x H1 => ∃ c, x = .ref c ∧ ((∃ vs, SqL X.K H1 c vs ∧ Q (Itl X.K c) H1) ∨ ∃ vs, SqT X.K H1 c vs ∧ Q (Itt X.K c) H1)) _ r h fun r1 env1 F1 H1 x e1 q1 h1 => by
    obtain ⟨F2, env2, v, e2, _, rv, no, z, rfl, xs, hz, h2⟩ := share e1 q1 h1
    obtain ⟨c, vs, rfl, fc, hc, rr⟩ := rep_seq hz rv
    rcases hc with hc | hc
    · exact ⟨c, rfl, .inl ⟨vs, SqL.of hc, hQ xs env2 F2 H1 _ e2 (walk_list fc hc rr) h2⟩⟩
    · exact ⟨c, rfl, .inr ⟨vs, SqT.of hc, hQ xs env2 F2 H1 _ e2 (walk_tup fc hc rr) h2⟩⟩
  refine thn (w pins s I) fun v s1 ⟨x, H1, I1, r1, c, ex, q⟩ => ?_
  subst ex
  cases r1
  rcases q with ⟨vs, hq, q⟩ | ⟨vs, hq, q⟩
  · exact it_list I1 hq q
  · exact it_tup I1 hq q
theorem bn_of {X : Cx} (fx : Fits C X) {x : Str} (h : x ∈ bltNames) : X.mg x = none := fx.blt x h
@[simp] def dRng1 (da : DA) : DI := fun env Φ => da env fun vs env1 => ∃ j : Int, vs = [.d (.int j)] ∧ -(2 ^ 62) ≤ j ∧ j < 2 ^ 62 ∧ Φ ((List.range j.toNat).map fun (i : Nat) => PyData.int i) env1
@[simp] def dRng2 (da : DA) : DI := fun env Φ => da env fun vs env1 => ∃ i j : Int, vs = [.d (.int i), .d (.int j)] ∧ (-(2 ^ 62) ≤ i ∧ i < 2 ^ 62 ∧ -(2 ^ 62) ≤ j ∧ j < 2 ^ 62) ∧ Φ ((List.range (j - i).toNat).map fun (k : Nat) => PyData.int (i + k)) env1
@[simp] def dRng3 (da : DA) : DI := fun env Φ => da env fun vs env1 => ∃ (i j c : Int) (n : Nat), vs = [.d (.int i), .d (.int j), .d (.int c)] ∧ RgC i j c n ∧ Φ ((List.range n).map fun (k : Nat) => PyData.int (i + k * c)) env1
theorem si_rng1 {dA : DA} (hg : C.sc.names.lookup ("range" : Str) = some .globalImplicit) (ha : SA C [a] dA) (st : ∀ env, starEach [a] env = [(false, eval a env)]) : SI C tg (.Call (.Name "range" p) [a] [] pos) (dRng1 dA) := by
  intro X fx G F env σ H Q Φ r h hQ
  refine wi_of (pi_range1 (gl_of fx hg) (bn_of fx (by decide)) pa_w (st X.env)) ?_
  refine ha X fx G F env σ H _ _ r h fun vs env1 F1 H1 xs e1 rs h1 => ?_
  obtain ⟨j, rfl, j1, j2, h1⟩ := h1
  obtain ⟨x, t, rfl, ⟨rx, _⟩, rt⟩ := rs
  cases rt
  have rx : RepD F1 H1 (.int j) x := rx
  simp only [RepD] at rx
  subst rx
  refine ⟨j, rfl, j1, j2, hQ _ env1 F1 H1 _ e1 ?_ h1⟩
  have e : ((List.range j.toNat).map fun (i : Nat) => PyData.int i) = (List.range j.toNat).map fun (i : Nat) => PyData.int (0 + i) := by
    apply List.map_congr_left; intro i _; rw [Int.zero_add]
  rw [e]
  exact walk_range
theorem si_rng2 {dA : DA} (hg : C.sc.names.lookup ("range" : Str) = some .globalImplicit) (ha : SA C [a, b] dA) (st : ∀ env, starEach [a, b] env = [(false, eval a env), (false, eval b env)]) (st2 : ∀ env, starEach [b] env = [(false, eval b env)]) : SI C tg (.Call (.Name "range" p) [a, b] [] pos) (dRng2 dA) := by
  intro X fx G F env σ H Q Φ r h hQ
  refine wi_of (pi_range2 (gl_of fx hg) (bn_of fx (by decide)) pa_w (st X.env) (st2 X.env)) ?_
  refine ha X fx G F env σ H _ _ r h fun vs env1 F1 H1 xs e1 rs h1 => ?_
  obtain ⟨i, j, rfl, hb, h1⟩ := h1
  obtain ⟨x, t, rfl, ⟨rx, _⟩, rt⟩ := rs
  obtain ⟨y, t, rfl, ⟨ry, _⟩, rt⟩ := rt
  cases rt
  have rx : RepD F1 H1 (.int i) x := rx
  have ry : RepD F1 H1 (.int j) y := ry
  simp only [RepD] at rx ry
  subst rx ry
  exact ⟨i, j, rfl, hb, hQ _ env1 F1 H1 _ e1 walk_range h1⟩
theorem si_rng3 {dA : DA} (hg : C.sc.names.lookup ("range" : Str) = some .globalImplicit) (ha : SA C [a, b, c] dA) (st : ∀ env, starEach [a, b, c] env = (false, eval a env) :: starEach [b, c] env) (hpl : ∀ env, (backTo pos (starEach [b, c] env)).any (·.1) = false) :
    SI C tg (.Call (.Name "range" p) [a, b, c] [] pos) (dRng3 dA) := by
  intro X fx G F env σ H Q Φ r h hQ
  refine wi_of (pi_range3 (gl_of fx hg) (bn_of fx (by decide)) pa_w (st X.env) (hpl X.env)) ?_
  refine ha X fx G F env σ H _ _ r h fun vs env1 F1 H1 xs e1 rs h1 => ?_
  obtain ⟨i, j, k, n, rfl, hb, h1⟩ := h1
  obtain ⟨x, t, rfl, ⟨rx, _⟩, rt⟩ := rs
  obtain ⟨y, t, rfl, ⟨ry, _⟩, rt⟩ := rt
  obtain ⟨z, t, rfl, ⟨rz, _⟩, rt⟩ := rt
  cases rt
  have rx : RepD F1 H1 (.int i) x := rx
  have ry : RepD F1 H1 (.int j) y := ry
  have rz : RepD F1 H1 (.int k) z := rz
  simp only [RepD] at rx ry rz
  subst rx ry rz
  exact ⟨i, j, k, n, rfl, hb, hQ _ env1 F1 H1 _ e1 walk_rangeC h1⟩
end

/-! ### for -/
section
variable {C : SC} {tg iter : Expr} {di : DI} {dt : DT} {B : List Stmt} {d : DS} {pos : Pos}
def forW (dt : DT) (b : DS) (K : KE) : List PyData → Env → Prop
  | [], env => K.nx env
  | x :: xs, env => dt x env fun env1 => b { nx := forW dt b K xs, ct := forW dt b K xs, bk := K.nx, rt := K.rt } env1
@[simp] def dFor (di : DI) (dt : DT) (b : DS) : DS := fun K env => di env fun items env1 => forW dt b K items env1
/-- an item comes: the heap may have a new tuple -/
theorem WalkD.item {G : Gh} {F1 : AP1} {H1 : Hp} {J : It} {items : List PyData} (w : WalkD F1 H1 J items) {F : AP1} {env : Env} {σ : L2.St} {H H' : Hp} {i : Nat} {x : V} (r : R G F env σ H) (l : Lt F1 H1 F H) (hi : i < items.length) (y : J.yld i H x H') :
    ∃ d F', items[i]? = some d ∧ Ext G F env σ H F' env H' ∧ RepD F' H' d x := by
  obtain ⟨d, hd, ⟨rfl, rd⟩ | ⟨T, ds, vs, rfl, hT, rfl, rfl, rr⟩⟩ := w.yld i H F x H' l hi y
  · exact ⟨d, F, hd, .refl r, rd⟩
  · obtain ⟨e, q⟩ := res_tup r hT rr
    exact ⟨_, _, hd, e, q.rep⟩
theorem ss_for (hi : SI C tg iter di) (hg : SG C tg dt) (hb : SB C B d) (hs : ∀ env x, foldedSetIterable iter env x = pure x) : SS C (.For tg iter B [] pos) (dFor di dt d) := by
  intro X fx G F0 H0 F env σ H D K r h k
  refine ws_of (ps_for (by rw [fx.xe]; exact PassesOwn.never) fx.calm pi_w pg_w pb_w (hs X.env)) ?_
  refine hi X fx G F env σ H _ _ r.r h fun items env1 F1 H1 J e1 w h1 => ?_
  have r1 := r.step e1
  have l1 := e1.lt r.r
  refine ⟨fun i m σ' H' => i ≤ items.length ∧ m = items.length - i ∧ ∃ F' env', RS G F0 H0 F' env' σ' H' ∧ Lt F1 H1 F' H' ∧ forW dt d K (items.drop i) env', ⟨items.length, Nat.zero_le _, rfl, F1, env1, r1, .refl, h1⟩, ?_⟩
  rintro i m σ2 H2 ⟨hle, rfl, F2, env2, r2, l2, h2⟩
  by_cases hlt : i < items.length
  · refine .inr ⟨w.go i H2 F2 l2 hlt, fun σ' H' => ∃ F' env', RS G F0 H0 F' env' σ' H' ∧ Lt F1 H1 F' H' ∧ forW dt d K (items.drop (i + 1)) env', fun σ' H' q => ⟨items.length - (i + 1), by omega, hlt, rfl, q⟩, fun x H3 y => ?_⟩
    obtain ⟨z, F3, hz, e3, rz⟩ := w.item r2.r l2 hlt y
    have hd : items.drop i = z :: items.drop (i + 1) := by
      rw [List.drop_eq_getElem_cons hlt]
      rw [List.getElem?_eq_getElem hlt] at hz
      cases hz; rfl
    rw [hd] at h2
    have r3 := r2.step e3
    have l3 := l2.trans (e3.lt r2.r)
    refine hg X fx G F0 H0 F3 env2 σ2 H3 z x _ _ r3 rz h2 fun env4 F4 σ4 H4 r4 l4 h4 => ?_
    have l14 := l3.trans l4
    have k4 := (k.later l1).later l14
    exact hb X fx G F0 H0 F4 env4 σ4 H4 _ _ r4 h4 ⟨fun env' F' σ' H' r' l' q => ⟨F', env', r', l14.trans l', q⟩, fun env' F' σ' H' r' l' q => k4.nx env' F' σ' H' r' l' q, fun env' F' σ' H' r' l' q => ⟨F', env', r', l14.trans l', q⟩, k.rt⟩
  · have e : i = items.length := by omega
    subst e
    refine .inl ⟨w.stop H2 F2 l2, ?_⟩
    rw [List.drop_length] at h2
    exact k.nx env2 F2 σ2 H2 r2 (l1.trans l2) h2
end

/-! ### comprehensions -/
@[simp] def wipeE (env : Env) : List Nat → Env
  | [] => env
  | v :: vs => (wipeE env vs).set v none
theorem wipeE_length (env : Env) : ∀ vs, (wipeE env vs).length = env.length
  | [] => rfl
  | v :: vs => by unfold wipeE; rw [List.length_set, wipeE_length env vs]
theorem wipeE_some {env : Env} {i : Nat} {x : Val} : ∀ {vs : List Nat}, (wipeE env vs)[i]? = some (some x) → env[i]? = some (some x) ∧ i ∉ vs
  | [], h => ⟨h, by simp⟩
  | v :: vs, h => by
    unfold wipeE at h
    by_cases hi : v = i
    · subst hi
      by_cases hv : v < (wipeE env vs).length
      · rw [List.getElem?_set_self hv] at h; cases h
      · rw [List.getElem?_eq_none (by simpa using hv)] at h; cases h
    · rw [List.getElem?_set_ne hi] at h
      obtain ⟨h1, h2⟩ := wipeE_some h
      exact ⟨h1, by simp only [List.mem_cons, not_or]; exact ⟨fun e => hi e.symm, h2⟩⟩
/-- the outer data at the block's own slots come back -/
@[simp] def backE (env1 env2 : Env) : List Nat → Env
  | [] => env2
  | v :: vs => match env1[v]? with
    | some (some (.d z)) => (backE env1 env2 vs).set v (some (.d z))
    | _ => backE env1 env2 vs
theorem backE_length (env1 env2 : Env) : ∀ vs, (backE env1 env2 vs).length = env2.length
  | [] => rfl
  | v :: vs => by
    unfold backE
    split
    · rw [List.length_set, backE_length env1 env2 vs]
    · exact backE_length env1 env2 vs
theorem backE_some {env1 env2 : Env} {i : Nat} {x : Val} : ∀ {vs : List Nat}, (backE env1 env2 vs)[i]? = some (some x) → env2[i]? = some (some x) ∨ ∃ z, x = .d z ∧ env1[i]? = some (some (.d z))
  | [], h => .inl h
  | v :: vs, h => by
    unfold backE at h
    split at h
    · rename_i z ez
      rcases setEnv_get h with ⟨rfl, rfl⟩ | ⟨ne, h⟩
      · exact .inr ⟨z, rfl, ez⟩
      · exact backE_some h
    · exact backE_some h
section
variable {G : Gh} {F F' : AP1} {env env' : Env} {σ : L2.St} {H H' : Hp}
/-- fewer names are known -/
theorem R.less {σ' : L2.St} (r : R G F env σ H) (hl : env'.length = σ'.length) (h : ∀ (i : Nat) (w : Val), env'[i]? = some (some w) → env[i]? = some (some w) ∧ σ'[i]? = σ[i]?) : R G F env' σ' H := by
  have ow : ∀ a, OwnS env' σ' a → OwnS env σ a := fun a ⟨i, w, e, o, s⟩ => let ⟨h1, h2⟩ := h i w e; ⟨i, w, h1, o, by rw [← h2]; exact s⟩
  refine ⟨hl, fun i w e => ?_, fun i j v w a ei ej ov ow' si sj => ?_, r.al, fun p g e => ?_⟩
  · obtain ⟨h1, h2⟩ := h i w e
    obtain ⟨x, sx, rx⟩ := r.rep i w h1
    exact ⟨x, h2.trans sx, rx⟩
  · obtain ⟨h1, h2⟩ := h i v ei
    obtain ⟨h3, h4⟩ := h j w ej
    exact r.sep i j v w a h1 h3 ov ow' (by rw [← h2]; exact si) (by rw [← h4]; exact sj)
  · obtain ⟨h1, h2, h3, h4⟩ := r.pt p g e
    exact ⟨h1, h2, h3, fun a ha => h4 a (ow a ha)⟩
theorem R.wipe (r : R G F env σ H) (vs : List Nat) : R G F (wipeE env vs) (wipe σ vs) H :=
  r.less (by rw [wipeE_length, wipe_length]; exact r.len) fun i w e => let ⟨h1, h2⟩ := wipeE_some e; ⟨h1, wipe_get h2⟩
theorem OwnS.wiped {vs : List Nat} {a : Addr} (h : OwnS (wipeE env vs) (wipe σ vs) a) : OwnS env σ a := by
  obtain ⟨i, w, e, o, s⟩ := h
  obtain ⟨h1, h2⟩ := wipeE_some e
  rw [wipe_get h2] at s
  exact ⟨i, w, h1, o, s⟩
/-- a new thing that nobody's name holds is changed -/
theorem Ext.touch {F1 : AP1} {env1 : Env} {H1 : Hp} (e : Ext G F env σ H F1 env1 H1) {D : Addr} {o : HO} (h0 : H D = none) (nF : ¬ F1 D) (nO : ¬ OwnS env1 σ D) (nP : ¬ InPot G D) : Ext G F env σ H F1 env1 (upd H1 D o) := by
  have k : ∀ a u, a ≠ D → H1 a = some u → upd H1 D o a = some u := fun a u n h => by rw [upd_ne n]; exact h
  have st : ∀ a u, F1 a → H1 a = some u → upd H1 D o a = some u := fun a u f h => k a u (fun z => nF (z ▸ f)) h
  refine ⟨⟨e.r.len, fun i v ev => ?_, e.r.sep, fun a f => ?_, fun p g eg => ?_⟩, fun a u h n1 n2 => k a u (fun z => by rw [z, h0] at h; cases h) (e.keep a u h n1 n2), fun a u h => ?_, e.grow, e.fro, e.ownd⟩
  · obtain ⟨x, sx, rv⟩ := e.r.rep i v ev
    refine ⟨x, sx, ?_⟩
    cases v with
    | d z => exact RepD.mono (fun _ h => h) st _ _ rv
    | pot => exact rv
    | own xs =>
      obtain ⟨a, vs, rfl, n, ha, rr⟩ := rv
      exact ⟨a, vs, rfl, n, k a _ (fun z => nO ⟨i, _, ev, rfl, z ▸ sx⟩) ha, RepAll.mono (fun _ h => h) st _ _ rr⟩
    | odk kvs =>
      obtain ⟨a, ks, vs, rfl, n, hk, rr, nd, ha⟩ := rv
      exact ⟨a, ks, vs, rfl, n, hk, RepAll.mono (fun _ h => h) st _ _ rr, nd, k a _ (fun z => nO ⟨i, _, ev, rfl, z ▸ sx⟩) ha⟩
  · obtain ⟨u, h⟩ := e.r.al a f
    exact ⟨u, st a u f h⟩
  · obtain ⟨⟨ns, sl, tn, h1, h2, h3⟩, h4, h5, h6⟩ := e.r.pt p g eg
    exact ⟨⟨ns, sl, tn, k _ _ (fun z => nP ⟨p, g, eg, .inl z.symm⟩) h1, k _ _ (fun z => nP ⟨p, g, eg, .inr z.symm⟩) h2, h3⟩, h4, h5, h6⟩
  · obtain ⟨u', h'⟩ := e.live a u h
    by_cases z : a = D
    · subst z; exact ⟨o, upd_same⟩
    · exact ⟨u', k a u' z h'⟩
end
def compW (dt : DT) (dc : DB) (de : DO) (vs : List Nat) : List PyData → Env → List PyData → (List PyData → Env → Prop) → Prop
  | [], env, acc, Φ => Φ acc env
  | x :: xs, env, acc, Φ => dt x env fun env1 => dc env1 fun b env2 =>
    (b = true → de env2 fun r env3 => shR r env3 fun v env4 => ∃ d, v = .d d ∧ acc.length < 16777216 ∧ compW dt dc de vs xs (wipeE env4 vs) (acc ++ [d]) Φ) ∧ (b = false → compW dt dc de vs xs (wipeE env2 vs) acc Φ)
@[simp] def dLc (vs : List Nat) (di : DI) (dt : DT) (dc : DB) (de : DO) : DO := fun env Φ => di env fun items env1 => compW dt dc de vs items (wipeE env1 vs) [] fun ds env2 => Φ (.v (.own ds)) (backE env1 env2 vs)
def blkSC (C : SC) (scope : Scope) : SC := { C with sc := relS scope C.sc, own := (scope.names.filter fun p => p.2 == .cell).map (·.1) }
theorem own_blk {C : SC} {scope : Scope} (nd : ∀ y ∈ scope.names, scope.names.lookup y.1 = some y.2) : ∀ x ∈ (blkSC C scope).own, scope.names.lookup x = some .cell := fun x hx => by
  obtain ⟨p, hp, rfl⟩ := List.mem_map.mp hx
  obtain ⟨h1, h2⟩ := List.mem_filter.mp hp
  rw [nd p h1]
  simpa using h2
theorem fits_blk {C : SC} {X : Cx} (fx : Fits C X) {scope : Scope} {own : List (Str × Nat)} (ok : BlkOk X.N X.env.scope scope own) (s : Shared) (H : Hp) (A : Addr) (cl : List (Str × Addr)) (fp : List Addr) : Fits (blkSC C scope) (X.blk s H scope (compEnvC scope cl A X.env) fp) where
  n := fx.n
  nd := fx.nd
  sc := by
    show relS scope X.env.scope = relS scope C.sc
    rw [fx.sc]
  kind := ok.kind
  calm := fx.calm
  xe := rfl
  fn := fun x hx => by
    show (scope.names.lookup x == some .cell) = true
    rw [own_blk ok.uniq x hx]
    rfl
  blt := fx.blt
  glb := fx.glb
  fns := fun f hf => ⟨(fx.fns f hf).ex⟩
  grd := fx.grd
  units := fx.units
/-- the tests of a comprehension: none or one -/
def STs (C : SC) (ifs : List Expr) (d : DB) : Prop := ∀ (X : Cx), Fits C X → ∀ (G : Gh) (F : AP1) (env : Env) (σ : L2.St) (H : Hp) (Q : Bool → Hp → Prop) (Φ : Bool → Env → Prop), R G F env σ H → d env Φ →
  (∀ b env' F' H', Ext G F env σ H F' env' H' → Φ b env' → Q b H') → ∃ t, PTs X ifs t ∧ t σ H Q
@[simp] def dYes : DB := fun env Φ => Φ true env
theorem sts_nil {C : SC} : STs C [] dYes := by
  intro X fx G F env σ H Q Φ r h hQ
  exact ⟨_, pts_nil, hQ true env F H (.refl r) h⟩
theorem sts_one {C : SC} {c : Expr} {d : DB} (h : STe C c d) : STs C [c] d := by
  intro X fx G F env σ H Q Φ r hd hQ
  exact ⟨_, pts_one pt_w, h X fx G F env σ H Q Φ r hd hQ⟩
def wTs (X : Cx) (ifs : List Expr) : TT := fun σ H Q => ∃ t, PTs X ifs t ∧ t σ H Q
theorem pts_w {X : Cx} {ifs : List Expr} : PTs X ifs (wTs X ifs) := ⟨fun pins s σ H Q I h => let ⟨t, ht, q⟩ := h; ht.run pins s σ H Q I q⟩
/-- the readings of the block's parts, in whatever block -/
def bG (X : Cx) (scope : Scope) (tg : Expr) : TG := fun v σ H Q => ∀ (s : Shared) (H' : Hp) (A : Addr) (cl : List (Str × Addr)) (fp : List Addr), wG (X.blk s H' scope (compEnvC scope cl A X.env) fp) tg v σ H Q
def bT (X : Cx) (scope : Scope) (ifs : List Expr) : TT := fun σ H Q => ∀ (s : Shared) (H' : Hp) (A : Addr) (cl : List (Str × Addr)) (fp : List Addr), wTs (X.blk s H' scope (compEnvC scope cl A X.env) fp) ifs σ H Q
def bE (X : Cx) (scope : Scope) (e : Expr) : TE := fun σ H Q => ∀ (s : Shared) (H' : Hp) (A : Addr) (cl : List (Str × Addr)) (fp : List Addr), wE (X.blk s H' scope (compEnvC scope cl A X.env) fp) e σ H Q
section
variable {C : SC} {tg iter elt : Expr} {ifs : List Expr} {scope : Scope} {own : List (Str × Nat)} {di : DI} {dt : DT} {dc : DB} {de : DO} {sl : List Nat} {pos : Pos}
theorem lc_run0 {X : Cx} (fx : Fits C X) (ok : BlkOk X.N X.env.scope scope own) (hg : SGn (blkSC C scope) tg sl dt) (hsl : ∀ i ∈ sl, i ∈ own.map (·.2)) (ht : STs (blkSC C scope) ifs dc) (he : SO (blkSC C scope) elt de)
    {G : Gh} {F : AP1} {env : Env} {σ : L2.St} {H : Hp} {Q : VK} {Φ : Rv → Env → Prop}
    (hi : ∀ (Q' : It → Hp → Prop) (Φ' : List PyData → Env → Prop), di env Φ' → (∀ items env' F' H' J, Ext G F env σ H F' env' H' → WalkD F' H' J items → Φ' items env' → Q' J H') → wI X tg iter σ H Q')
    (h : dLc (own.map (·.2)) di dt dc de env Φ)
    (hQ : ∀ ds env' F' H' x, Ext G F env σ H F' env' H' → Res G env σ H F' env' H' (.own ds) x → Φ (.v (.own ds)) env' → Q x H') :
    tLc (wI X tg iter) (bG X scope tg) (bT X scope ifs) (bE X scope elt) (own.map (·.2)) σ H Q := by
  generalize own.map (·.2) = vs at *
  refine hi _ _ h fun items env1 F1 H1 J e1 w h1 => ?_
  intro D hD
  have r1 := e1.r
  have rw1 := r1.wipe vs
  have nD : ¬ F1 D := r1.freshF hD
  have oD : ¬ OwnS env1 σ D := r1.freshO hD
  have pD : ¬ InPot G D := r1.freshP hD
  have e0 : Ext G F1 (wipeE env1 vs) (wipe σ vs) H1 F1 (wipeE env1 vs) (upd H1 D (.lst [])) := (Ext.refl rw1).touch hD nD (fun z => oD z.wiped) pD
  refine ⟨fun i m H' => i ≤ items.length ∧ m = items.length - i ∧ ∃ F' env' acc accV, Ext G F1 (wipeE env1 vs) (wipe σ vs) H1 F' env' H' ∧ H' D = some (.lst accV) ∧ RepAll F' H' acc accV ∧ ¬ F' D ∧ ¬ OwnS env' (wipe σ vs) D ∧
    compW dt dc de vs (items.drop i) env' acc (fun ds env2 => Φ (.v (.own ds)) (backE env1 env2 vs)), ⟨items.length, Nat.zero_le _, rfl, F1, wipeE env1 vs, [], [], e0, upd_same, .nil, nD, fun z => oD z.wiped, h1⟩, ?_⟩
  rintro i m H2 ⟨hle, rfl, F2, env2, acc, accV, e2, hD2, ra, nD2, oD2, h2⟩
  have l2 : Lt F1 H1 F2 H2 := e2.lt rw1
  by_cases hlt : i < items.length
  · refine .inr ⟨w.go i H2 F2 l2 hlt, fun H' => ∃ F' env' acc accV, Ext G F1 (wipeE env1 vs) (wipe σ vs) H1 F' env' H' ∧ H' D = some (.lst accV) ∧ RepAll F' H' acc accV ∧ ¬ F' D ∧ ¬ OwnS env' (wipe σ vs) D ∧
      compW dt dc de vs (items.drop (i + 1)) env' acc (fun ds env2 => Φ (.v (.own ds)) (backE env1 env2 vs)), fun H' q => ⟨items.length - (i + 1), by omega, hlt, rfl, q⟩, fun x H3 y => ?_⟩
    obtain ⟨z, F3, hz, e3, rz⟩ := w.item e2.r l2 hlt y
    have hd : items.drop i = z :: items.drop (i + 1) := by
      rw [List.drop_eq_getElem_cons hlt]
      rw [List.getElem?_eq_getElem hlt] at hz
      cases hz; rfl
    rw [hd] at h2
    have e13 := e2.trans e3
    have kD3 : H3 D = some (.lst accV) := e3.keep D _ hD2 oD2 pD
    have nD3 : ¬ F3 D := fun f => by
      rcases e3.fro D f with q | q | q
      · exact nD2 q
      · exact oD2 q
      · rw [hD2] at q; cases q
    have ra3 := e3.repA e2.r ra
    intro s' H' A cl fp
    have fb := fits_blk fx ok s' H' A cl fp
    refine hg _ fb G F3 env2 (wipe σ vs) H3 z x _ _ e3.r rz h2 fun env4 σ4 r4 o4 w4 h4 => ?_
    have w4' : wipe σ4 vs = wipe σ vs := by rw [w4 vs hsl, wipe_wipe]
    refine ⟨w4', ?_⟩
    have oD4 : ¬ OwnS env4 σ4 D := fun q => oD2 (o4 D q)
    -- from the turn's own slots back to the wiped ones
    have fin : ∀ {F5 : AP1} {env5 : Env} {H5 : Hp}, Ext G F3 env4 σ4 H3 F5 env5 H5 → Ext G F1 (wipeE env1 vs) (wipe σ vs) H1 F5 (wipeE env5 vs) H5 ∧ ¬ OwnS (wipeE env5 vs) (wipe σ vs) D := fun {F5 env5 H5} e5 => by
      have r5 := e5.r.wipe vs
      rw [w4'] at r5
      have ow : ∀ a, OwnS (wipeE env5 vs) (wipe σ vs) a → OwnS env4 σ4 a := fun a q => e5.ownd a (by rw [← w4'] at q; exact q.wiped)
      refine ⟨⟨r5, fun a o q n1 n2 => e5.keep a o (e13.keep a o q n1 n2) (fun z => n1 (e2.ownd a (o4 a z))) n2, fun a o q => ?_, fun a q => e5.grow a (e13.grow a q), fun a q => ?_, fun a q => e2.ownd a (o4 a (ow a q))⟩, fun q => oD4 (ow D q)⟩
      · obtain ⟨o', q'⟩ := e13.live a o q
        exact e5.live a o' q'
      · rcases e5.fro a q with q | q | q
        · exact e13.fro a q
        · exact .inr (.inl (e2.ownd a (o4 a q)))
        · exact .inr (.inr (e13.free q))
    intro s'' H'' A' cl' fp'
    have fb' := fits_blk fx ok s'' H'' A' cl' fp'
    refine ht _ fb' G F3 env4 σ4 H3 _ _ r4 h4 fun b env5 F5 H5 e5 h5 => ?_
    have kD5 : H5 D = some (.lst accV) := e5.keep D _ kD3 oD4 pD
    have nD5 : ¬ F5 D := fun f => by
      rcases e5.fro D f with q | q | q
      · exact nD3 q
      · exact oD4 q
      · rw [kD3] at q; cases q
    have ra5 := e5.repA r4 ra3
    have oD5 : ¬ OwnS env5 σ4 D := fun q => oD4 (e5.ownd D q)
    cases b with
    | false =>
      refine iteF ?_
      obtain ⟨e6, o6⟩ := fin e5
      exact ⟨F5, _, acc, accV, e6, kD5, ra5, nD5, o6, h5.2 rfl⟩
    | true =>
      refine iteT ?_
      intro s3 H3' A3 cl3 fp3
      have fb3 := fits_blk fx ok s3 H3' A3 cl3 fp3
      refine he _ fb3 G F5 env5 σ4 H5 _ _ e5.r (h5.1 rfl) fun r6 env6 F6 H6 y6 e6 q6 h6 => ?_
      obtain ⟨F7, env7, v, e7, g7, rv, no, d, rfl, hl, h7⟩ := share e6 q6 h6
      have kD6 : H6 D = some (.lst accV) := e6.keep D _ kD5 oD5 pD
      have nD7 : ¬ F7 D := fun f => by
        rcases e7.fro D f with q | q | q
        · exact nD5 q
        · exact oD5 q
        · rw [kD5] at q; cases q
      have ra7 := e7.repA e5.r ra5
      obtain ⟨e8, o8⟩ := fin (e5.trans e7)
      refine ⟨accV, kD6, by rw [ra.length, sizeLine_eq]; exact hl, F7, _, acc ++ [d], accV ++ [y6], e8.touch hD nD7 o8 pD, upd_same, ?_, nD7, o8, h7⟩
      have st : ∀ a u, F7 a → H6 a = some u → upd H6 D (.lst (accV ++ [y6])) a = some u := fun a u f q => by rw [upd_ne (fun z : a = D => nD7 (z ▸ f))]; exact q
      exact RepAll.append (RepAll.mono (fun _ h => h) st _ _ ra7) (.cons (RepD.mono (fun _ h => h) st _ _ rv) .nil)
  · have e : i = items.length := by omega
    subst e
    refine .inl ⟨w.stop H2 F2 l2, ?_⟩
    rw [List.drop_length] at h2
    -- back to the outer names
    have ln : (backE env1 env2 vs).length = σ.length := by
      rw [backE_length, e2.r.len, wipe_length]
    have nf : ∀ a, OwnS env1 σ a → ¬ OwnS (wipeE env1 vs) (wipe σ vs) a → ∀ o, H1 a = some o → H2 a = some o := fun a q n o q' => e2.keep a o q' n fun z => r1.potO z q
    have rB : R G F2 (backE env1 env2 vs) σ H2 := by
      have gw : ∀ (j : Nat) (u : Val), (backE env1 env2 vs)[j]? = some (some u) → isOwn u = true → env2[j]? = some (some u) ∧ (wipe σ vs)[j]? = σ[j]? := fun j u ej ho => by
        rcases backE_some ej with q | ⟨z, rfl, q⟩
        · refine ⟨q, ?_⟩
          obtain ⟨x, sx, _⟩ := e2.r.rep j u q
          exact sx.trans (wipe_some sx).1.symm
        · cases ho
      refine ⟨ln, fun j u ej => ?_, fun j l u u' a ej el ou ou' sj sl => ?_, e2.r.al, fun p g eg => ?_⟩
      · rcases backE_some ej with q | ⟨z, rfl, q⟩
        · obtain ⟨x, sx, rx⟩ := e2.r.rep j u q
          exact ⟨x, (wipe_some sx).1, rx⟩
        · obtain ⟨x, sx, rx⟩ := r1.rep j _ q
          exact ⟨x, sx, RepD.mono l2.grow l2.stab _ _ rx⟩
      · obtain ⟨q1, q2⟩ := gw j u ej ou
        obtain ⟨q3, q4⟩ := gw l u' el ou'
        exact e2.r.sep j l u u' a q1 q3 ou ou' (q2.trans sj) (q4.trans sl)
      · obtain ⟨a1, a2, a3, a4⟩ := e2.r.pt p g eg
        refine ⟨a1, a2, a3, fun a ⟨j, u, ej, ou, sj⟩ => ?_⟩
        obtain ⟨q1, q2⟩ := gw j u ej ou
        exact a4 a ⟨j, u, q1, ou, q2.trans sj⟩
    have owB : ∀ a, OwnS (backE env1 env2 vs) σ a → OwnS env2 (wipe σ vs) a := fun a ⟨j, u, ej, ou, sj⟩ => by
      rcases backE_some ej with q | ⟨z, rfl, q⟩
      · obtain ⟨x, sx, _⟩ := e2.r.rep j u q
        rw [(wipe_some sx).1] at sj
        cases sj
        exact ⟨j, u, q, ou, sx⟩
      · cases ou
    have eB : Ext G F1 env1 σ H1 F2 (backE env1 env2 vs) H2 := ⟨rB, fun a o q n1 n2 => e2.keep a o q (fun z => n1 z.wiped) n2, e2.live, e2.grow, fun a q => (e2.fro a q).imp id (·.imp (·.wiped) id), fun a q => (e2.ownd a (owB a q)).wiped⟩
    exact hQ acc _ F2 H2 (.ref D) (e1.trans eB) ⟨⟨D, accV, rfl, nD2, hD2, ra⟩, fun _ a ea => by cases ea; exact ⟨.inr (e1.free hD), fun z => oD2 (owB D z), pD⟩⟩ h2
theorem lc_run {X : Cx} (fx : Fits C X) (ok : BlkOk X.N X.env.scope scope own) (hi : SI C tg iter di) (hg : SGn (blkSC C scope) tg sl dt) (hsl : ∀ i ∈ sl, i ∈ own.map (·.2)) (ht : STs (blkSC C scope) ifs dc) (he : SO (blkSC C scope) elt de)
    {G : Gh} {F : AP1} {env : Env} {σ : L2.St} {H : Hp} {Q : VK} {Φ : Rv → Env → Prop} (r : R G F env σ H) (h : dLc (own.map (·.2)) di dt dc de env Φ)
    (hQ : ∀ ds env' F' H' x, Ext G F env σ H F' env' H' → Res G env σ H F' env' H' (.own ds) x → Φ (.v (.own ds)) env' → Q x H') :
    tLc (wI X tg iter) (bG X scope tg) (bT X scope ifs) (bE X scope elt) (own.map (·.2)) σ H Q :=
  lc_run0 fx ok hg hsl ht he (fun Q' Φ' h k => hi X fx G F env σ H Q' Φ' r h k) h hQ
theorem lc_at {X : Cx} (fx : Fits C X) (ok : BlkOk C.N C.sc scope own) (hg : SGn (blkSC C scope) tg sl dt) (hsl : ∀ i ∈ sl, i ∈ own.map (·.2)) (ht : STs (blkSC C scope) ifs dc) (he : SO (blkSC C scope) elt de) (hs : ∀ env x, foldedSetIterable iter env x = pure x)
    {G : Gh} {F : AP1} {env : Env} {σ : L2.St} {H : Hp} {Q : VK} {Φ : Rv → Env → Prop}
    (hi : ∀ (Q' : It → Hp → Prop) (Φ' : List PyData → Env → Prop), di env Φ' → (∀ items env' F' H' J, Ext G F env σ H F' env' H' → WalkD F' H' J items → Φ' items env' → Q' J H') → wI X tg iter σ H Q')
    (h : dLc (own.map (·.2)) di dt dc de env Φ) (hQ : ∀ ds env' F' H' x, Ext G F env σ H F' env' H' → Res G env σ H F' env' H' (.own ds) x → Φ (.v (.own ds)) env' → Q x H') :
    wE X (.ListComp elt [⟨tg, iter, ifs, 0⟩] scope pos) σ H Q := by
  have ok' : BlkOk X.N X.env.scope scope own := by rw [fx.n, fx.sc]; exact ok
  refine w_of (pe_lc (own := own) fx.calm fx.nd pi_w ok' (g := bG X scope tg) (tt := bT X scope ifs) (te := bE X scope elt) (fun s H' A cl fp => ⟨fun pins s' σ H v u Q I rv q => q s H' A cl fp pins s' u I rv⟩)
    (fun s H' A cl fp => ⟨fun pins s' σ H Q I q => pts_w.run pins s' σ H Q I (q s H' A cl fp)⟩) (fun s H' A cl fp => ⟨fun pins s' σ H Q I q => q s H' A cl fp pins s' I⟩) (hs X.env)) ?_
  exact lc_run0 fx ok' hg hsl ht he hi h hQ
theorem so_lc (ok : BlkOk C.N C.sc scope own) (hi : SI C tg iter di) (hg : SGn (blkSC C scope) tg sl dt) (hsl : ∀ i ∈ sl, i ∈ own.map (·.2)) (ht : STs (blkSC C scope) ifs dc) (he : SO (blkSC C scope) elt de)
    (hs : ∀ env x, foldedSetIterable iter env x = pure x) : SO C (.ListComp elt [⟨tg, iter, ifs, 0⟩] scope pos) (dLc (own.map (·.2)) di dt dc de) := by
  intro X fx G F env σ H Q Φ r h hQ
  have ok' : BlkOk X.N X.env.scope scope own := by rw [fx.n, fx.sc]; exact ok
  refine w_of (pe_lc (own := own) fx.calm fx.nd pi_w ok' (g := bG X scope tg) (tt := bT X scope ifs) (te := bE X scope elt) (fun s H' A cl fp => ⟨fun pins s' σ H v u Q I rv q => q s H' A cl fp pins s' u I rv⟩)
    (fun s H' A cl fp => ⟨fun pins s' σ H Q I q => pts_w.run pins s' σ H Q I (q s H' A cl fp)⟩) (fun s H' A cl fp => ⟨fun pins s' σ H Q I q => q s H' A cl fp pins s' I⟩) (hs X.env)) ?_
  exact lc_run fx ok' hi hg hsl ht he r h fun ds env' F' H' x e q hz => hQ (.v _) env' F' H' x e q hz
/-- name = [..] on one line -/
theorem ss_lc {i : Nat} {y : Str} {p spos : Pos} (hy : C.N[i]? = some y) (hyl : C.sc.names.lookup y = some .local) (ok : BlkOk C.N C.sc scope own) (hi : SI C tg iter di) (hg : SGn (blkSC C scope) tg sl dt) (hsl : ∀ i ∈ sl, i ∈ own.map (·.2)) (ht : STs (blkSC C scope) ifs dc) (he : SO (blkSC C scope) elt de)
    (hs : ∀ env x, foldedSetIterable iter env x = pure x) (hl : (p.line == pos.line) = true) (hany : (scope.names.any fun (n, k) => n == y && (k == .local || k == .cell)) = false) :
    SS C (.Assign [.Name y p] (.ListComp elt [⟨tg, iter, ifs, 0⟩] scope pos) spos) (dSet i (dLc (own.map (·.2)) di dt dc de)) := by
  intro X fx G F0 H0 F env σ H D K r h k
  have ok' : BlkOk X.N X.env.scope scope own := by rw [fx.n, fx.sc]; exact ok
  refine ws_of (ps_setLc (i := i) (own := own) fx.calm fx.nd (by rw [fx.n]; exact hy) (by rw [fx.sc]; exact hyl) (sw_true fx.kind (by rw [fx.sc]; exact hyl) hl hany) pi_w ok' (g := bG X scope tg) (tt := bT X scope ifs) (te := bE X scope elt) (fun s H' A cl fp => ⟨fun pins s' σ H v u Q I rv q => q s H' A cl fp pins s' u I rv⟩)
    (fun s H' A cl fp => ⟨fun pins s' σ H Q I q => pts_w.run pins s' σ H Q I (q s H' A cl fp)⟩) (fun s H' A cl fp => ⟨fun pins s' σ H Q I q => q s H' A cl fp pins s' I⟩) (hs X.env)) ?_
  exact lc_run fx ok' hi hg hsl ht he r.r h fun ds env1 F1 H1 x e1 q1 h1 => by
    obtain ⟨F2, env2, v, e2, q2, hl, h2⟩ := move (r := .v (.own ds)) e1 q1 h1
    exact k.nx _ F2 _ H1 (r.put e2 q2 hl) (e2.lt r.r) h2
end
end Ev
set_option Elab.async false
set_option linter.all false
set_option maxRecDepth 100000
/-! Ev7: enumerate and zip over lists and tuples, mixed. -/
namespace Ev
open PySem PySem.Spec PyProof.Rows L2

/-- a list (false) or a tuple (true) that is tracked -/
def srcHO (k : Bool) (xs : List V) : HO := if k then .tup xs else .lst xs
def itAt (k : Bool) (h : Heap) (it a : Addr) (i : Nat) : Prop := if k then h.IsTupleIter it a i else h.IsListIter it a i
def stAt (k : Bool) (it a : Addr) (items : Array Value) (i : Nat) (h : Heap) : Prop := itAt k h it a i ∧ if k then h.IsTuple a items else h.IsList a items
theorem itAt.at {k : Bool} {h h' : Heap} {it a : Addr} {i : Nat} (x : itAt k h it a i) (hk : ∀ o, h.get? it = some o → h'.get? it = some o) : itAt k h' it a i := by
  cases k
  · exact (show h.IsListIter it a i from x).at hk
  · exact (show h.IsTupleIter it a i from x).at hk
theorem itAt.obj {k : Bool} {h : Heap} {it a : Addr} {i : Nat} (x : itAt k h it a i) : ∃ o, h.get? it = some o ∧ ∀ v, o.data ≠ .cell v := by
  cases k
  · obtain ⟨o, e, c, d⟩ := (show h.IsListIter it a i from x)
    exact ⟨o, e, fun v z => by rw [d] at z; cases z⟩
  · obtain ⟨o, e, c, d⟩ := (show h.IsTupleIter it a i from x)
    exact ⟨o, e, fun v z => by rw [d] at z; cases z⟩
theorem draws_src {prog : Program} {w : World} {A : Around} (k : Bool) (hh : A.handled = none) (it a : Addr) (hne : a ≠ it) (items : Array Value) :
    Draws prog w A it [it, a] items.size (fun i v => items[i]? = some v) (stAt k it a items) := by
  cases k
  · exact Draws.list hh it a hne items
  · exact Draws.tuple hh it a hne items
section
variable {X : Cx} {pins : List (Addr × Obj)} {σ : L2.St} {H : Hp} {s : Shared} {a : Addr} {xs : List V} {k : Bool}
theorem src_at (I : Inv X pins σ H s) (h : H a = some (srcHO k xs)) : ∃ its : List Value, Vals xs its ∧ (if k then s.heap.IsTuple a its.toArray else s.heap.IsList a its.toArray) ∧ ∃ o, s.heap.get? a = some o := by
  cases k
  · obtain ⟨its, rv, p, hz⟩ := I.list (SqL.of h)
    exact ⟨its, rv, p.isList, let ⟨o, n, e, _⟩ := p; ⟨o, e⟩⟩
  · obtain ⟨its, rv, p, hz⟩ := I.tuple (SqT.of h)
    exact ⟨its, rv, p, let ⟨o, e, _⟩ := p; ⟨o, e⟩⟩
end
theorem begins_src (k : Bool) (a : Addr) (items : Array Value) : ∃ o, Begins (.ref a) o (fun h => if k then h.IsTuple a items else h.IsList a items) ∧ (∀ h it, h.get? it = some o → itAt k h it a 0) := by
  cases k
  · exact ⟨_, begins_list a items, fun h it e => ⟨_, e, rfl, rfl⟩⟩
  · exact ⟨_, begins_tuple a items, fun h it e => ⟨_, e, rfl, rfl⟩⟩

/-! ### enumerate -/
def IteG (k : Bool) (a : Addr) : It :=
  ⟨fun i H => ∃ (xs : List V) (x : V), H a = some (srcHO k xs) ∧ xs[i]? = some x, fun i H v H' => ∃ T x, v = .ref T ∧ H T = none ∧ H' = upd H T (.tup [.int (i : Nat), x]) ∧ ∀ xs, H a = some (srcHO k xs) → xs[i]? = some x,
    fun i H => ∃ xs : List V, H a = some (srcHO k xs) ∧ xs.length = i⟩
theorem src_inj {k : Bool} {H : Hp} {a : Addr} {xs ys : List V} (h : H a = some (srcHO k xs)) (h' : H a = some (srcHO k ys)) : xs = ys := by
  rw [h] at h'
  cases k
  · have h' : some (HO.lst xs) = some (HO.lst ys) := h'
    injection h' with h'; injection h'
  · have h' : some (HO.tup xs) = some (HO.tup ys) := h'
    injection h' with h'; injection h'
theorem turn_enumG {P : Program} {w : World} {K : PySem.W.Frag} {elts : List Expr} {kk : Nat} {tpos : Pos} (k : Bool) (a e it : Addr) :
    Turn P w K (.Tuple elts kk tpos) (IteG k a) [e, it] e (fun i h => (∃ old, IsEnum h e it ((i : Nat) : Int) old) ∧ itAt k h it a i ∧ e ≠ it) where
  mem := by simp
  obj := fun i h st b hb => by
    obtain ⟨⟨old, he⟩, hi, _⟩ := st
    have e' : b = e ∨ b = it := by simpa using hb
    rcases e' with z | z
    · rw [z]; exact ⟨_, he, fun v q => nomatch q⟩
    · rw [z]; exact hi.obj
  keep := fun i h h' st kp => let ⟨⟨old, he⟩, hi, hne⟩ := st; ⟨⟨old, kp e (by simp) _ he⟩, hi.at fun o q => kp it (by simp) o q, hne⟩
  item := by
    intro X hP hw hK hc i pins s σ H E I hf st hg
    subst hP hw hK
    obtain ⟨⟨old, he⟩, hit, hne⟩ := st
    obtain ⟨xs, x, hq, hx⟩ := hg
    obtain ⟨its, rv, p, oa, hoa⟩ := src_at I hq
    obtain ⟨u, hu, ru⟩ := rv.get hx
    have hel : e < s.heap.objs.size := Heap.lt_size he
    have hil : it < s.heap.objs.size := by obtain ⟨_, q, _⟩ := hit.obj; exact Heap.lt_size q
    have hae : a ≠ e := fun z => by rw [z, (hf e (by simp)).1] at hq; cases hq
    have hai : a ≠ it := fun z => by rw [z, (hf it (by simp)).1] at hq; cases hq
    have hlt : i < its.toArray.size := by
      have := (List.getElem?_eq_some_iff.mp hu).1
      simpa using this
    refine wpAny_pyNext_enum_itemD (draws_src k (show X.A.in1.handled = none from I.ok.hd hc) it a hai its.toArray) he (show stAt k it a its.toArray i s.heap from ⟨hit, p⟩) hlt hne (by simp [hne, hae.symm]) fun y h' tk hy ho hst hT hsz hk => ?_
    have ey : y = u := by
      have h1 : its[i]? = some y := by simpa using hy
      rw [hu] at h1; cases h1; rfl
    subst ey
    refine ⟨_, rfl, wpAny_letOwnedTupleGo_enum (s := { s with heap := h', toks := tk + 1 }) ho fun h'' he' sb => ?_⟩
    have hT2 : h''.get? s.heap.objs.size = some { cls := .type "tuple", data := .seq #[.int i tk, y] } := (sb.2 _ (Nat.ne_of_gt hel)).trans hT
    have new : ObjOk X.prog X.w (upd H s.heap.objs.size (.tup [.int (i : Nat), x])) h'' s.heap.objs.size (.tup [.int (i : Nat), x]) :=
      ⟨by show 2 ≤ sizeLine; decide, [.int i tk, y], .cons ⟨_, rfl⟩ (.cons ru .nil), ⟨_, hT2, rfl, _, rfl⟩⟩
    have I1 : Inv X pins σ (upd H s.heap.objs.size (.tup [.int (i : Nat), x])) { s with heap := h'', toks := tk + 1 } :=
      I.turnedNew (ch := [e, it]) (fun b ob hb q => (sb.2 b (fun z => hb (by simp [z]))).trans (hk b ob (fun z => hb (by simp [z])) (fun z => hb (by simp [z])) q)) hf (Nat.le_refl _) new
    refine ⟨.ref s.heap.objs.size, _, I1, rfl, ⟨_, x, rfl, I.hok.fresh (Nat.le_refl _), rfl, fun ys hy => by rw [src_inj hy hq]; exact hx⟩, ⟨⟨y, ?_⟩, hst.1.at fun o q => (sb.2 it (Ne.symm hne)).trans q, hne⟩, fun b hb => ?_⟩
    · have e1 : ((i + 1 : Nat) : Int) = (i : Int) + 1 := by omega
      rw [e1]; exact he'
    · have hb' : b < s.heap.objs.size := by
        have e' : b = e ∨ b = it := by simpa using hb
        rcases e' with z | z
        · rw [z]; exact hel
        · rw [z]; exact hil
      rw [upd_ne (Nat.ne_of_lt hb')]
      exact (hf b hb).1
  done := by
    intro X hP hw hK hc i pins s σ H E I hf st hg
    subst hP hw hK
    obtain ⟨⟨old, he⟩, hit, hne⟩ := st
    obtain ⟨xs, hq, hx⟩ := hg
    obtain ⟨its, rv, p, oa, hoa⟩ := src_at I hq
    obtain ⟨f0, f1, f2, f3, f4, f5⟩ := hf it (by simp)
    have hl := rv.length
    have hai : a ≠ it := fun z => by rw [z, f0] at hq; cases hq
    have en : i = its.toArray.size := by simp; omega
    subst en
    exact wpAny_pyNext_enum_endD (draws_src k (show X.A.in1.handled = none from I.ok.hd hc) it a hai its.toArray) he (show stAt k it a its.toArray _ s.heap from ⟨hit, p⟩) fun h' eb => ⟨rfl, I.turned (t' := s.toks) (fun b o hb q => eb b o hb q) f0 f1 f3 f4 f5⟩
  self := fun A i s Q E st h => let ⟨⟨_, he⟩, _⟩ := st; wpAny_pyIter_enum he h
set_option maxHeartbeats 1000000 in
theorem meets_enum1B {v : Value} {o : Obj} {H : Heap → Prop} (B : Begins v o H) :
    Meets (Builtin.«enumerate.__new__» ⟨[.type "enumerate", v], []⟩) (fun _ R s => H s.heap ∧
      R (.ok (.ret (.ref (s.heap.push o).objs.size))) { s with heap := (s.heap.push o).push { cls := .type "enumerate", data := .fields #[.none, .bool false, .ref s.heap.objs.size, rawInt 0, .none, .none] } }) :=
  .of_wp fun prog w A R s h => by
    obtain ⟨hp, g, d, tk, os⟩ := s; obtain ⟨h1, h⟩ := h
    have hsub := sub_enumerate
    have q1 : ∀ {A' : Around} {E : Value → Shared → Prop} {Q : Value → Shared → Prop}, Q (.ref hp.objs.size) ⟨hp.push o, g, d, tk, os⟩ → wpAny (model prog w) A' (pyIter v) Q E ⟨hp, g, d, tk, os⟩ :=
      fun q => B.iter prog w _ _ ⟨hp, g, d, tk, os⟩ _ h1 q
    wp_walk using q1
    refine wpAny_stack_any fun st => wpAny_pure ?_
    split
    · rename_i c _ _ _ _ _
      cases (c == Value.type "enumerate")
      · wp_walk using q1
        exact ⟨_, rfl, h⟩
      · wp_walk using q1
        exact ⟨_, rfl, h⟩
    · wp_walk using q1
      exact ⟨_, rfl, h⟩
theorem enum_begins1 {prog : Program} {w : World} {A : Around} {E : Value → Shared → Prop} {s : Shared} {v : Value} {o : Obj} {H : Heap → Prop} {Q : Value → Shared → Prop} (B : Begins v o H) (h1 : H s.heap)
    (h : ∀ h', IsEnum h' (s.heap.objs.size + 1) s.heap.objs.size 0 .none → h'.get? s.heap.objs.size = some o → h'.objs.size = s.heap.objs.size + 2 →
      (∀ b o, s.heap.get? b = some o → h'.get? b = some o) → Q (.ref (s.heap.objs.size + 1)) { s with heap := h' }) :
    wpAny (model prog w) A (call (.type "enumerate") [v]) Q E s := by
  refine callType_new F.called_enumerate (by decide) (F.typeCall_enumerate_1 _) (F.newCall_enumerate_1 _) (fun obj => F.args_object_init_2 obj _) F.entry_enumerate_new (meets_enum1B B) ⟨h1, ?_⟩
  have hz : (s.heap.push o).objs.size = s.heap.objs.size + 1 := Heap.size_push ..
  show _ ∧ _
  rw [hz]
  have he : IsEnum ((s.heap.push o).push { cls := .type "enumerate", data := .fields #[.none, .bool false, .ref s.heap.objs.size, rawInt 0, .none, .none] }) (s.heap.objs.size + 1) s.heap.objs.size 0 .none := by
    have := Heap.get?_push_size (s.heap.push o) (o := { cls := .type "enumerate", data := .fields #[.none, .bool false, .ref s.heap.objs.size, rawInt 0, .none, .none] }) rfl
    rw [hz] at this; exact this
  refine ⟨⟨_, he, rfl⟩, h _ he (Heap.get?_push_of_some _ (Heap.get?_push_size _ B.free)) (by rw [Heap.size_push, hz]) fun b o x => Heap.get?_push_of_some _ (Heap.get?_push_of_some _ x)⟩
def iEnumG (ta : TA) : TI := fun σ H R => ta σ H fun vs H1 => ∃ (k : Bool) (a : Addr) (xs : List V), vs = [.ref a] ∧ H1 a = some (srcHO k xs) ∧ R (IteG k a) H1
theorem pi_enumG {X : Cx} {e : Expr} {ta : TA} {p pos tpos : Pos} {elts : List Expr} {kk : Nat} (hg : Gl X "enumerate") (hm : X.mg "enumerate" = none) (ha : PA X [e] ta) (hs : starEach [e] X.env = [(false, eval e X.env)]) :
    PI X (.Tuple elts kk tpos) (.Call (.Name "enumerate" p) [e] [] pos) (iEnumG ta) := by
  refine ⟨fun pins s σ H R I h => ?_⟩
  refine Call_ (ld_blt I hg hm boot_enumerate (PyProof.Rows.callWith_type1 (thn (ha.run pos pins s σ H _ I h) fun us s1 ⟨vs, H1, I1, r1, q1⟩ => ?_) hs rfl))
  obtain ⟨k, a, xs, ex, hq, q⟩ := q1
  subst ex
  cases r1 with
  | cons r rr =>
    cases rr
    cases r
    obtain ⟨its, rv, p', oa, hoa⟩ := src_at I1 hq
    obtain ⟨o, B, st0⟩ := begins_src k a its.toArray
    refine enum_begins1 B p' fun h' he hit hsz hk => wpAny_pyIter_enum he ?_
    have I2 : Inv X pins σ H1 { s1 with heap := h' } := I1.kept (t' := s1.toks) hk
    refine ⟨s1.heap.objs.size + 1, [s1.heap.objs.size + 1, s1.heap.objs.size], _, _, H1, rfl, I2, turn_enumG k a (s1.heap.objs.size + 1) s1.heap.objs.size, ⟨⟨.none, he⟩, st0 _ _ hit, Nat.succ_ne_self _⟩, fun b hb => ?_, q⟩
    have e' : b = s1.heap.objs.size + 1 ∨ b = s1.heap.objs.size := by simpa using hb
    have hle : s1.heap.objs.size ≤ b := by
      rcases e' with z | z
      · rw [z]; exact Nat.le_add_right _ _
      · rw [z]; exact Nat.le_refl _
    exact I1.fpOk hle (I1.hok.fresh hle)

/-! ### zip -/
def ItzG (k l : Bool) (a b : Addr) : It :=
  ⟨fun i H => ∃ (xs ys : List V) (x y : V), H a = some (srcHO k xs) ∧ H b = some (srcHO l ys) ∧ xs[i]? = some x ∧ ys[i]? = some y,
    fun i H v H' => ∃ T x y, v = .ref T ∧ H T = none ∧ H' = upd H T (.tup [x, y]) ∧ (∀ xs, H a = some (srcHO k xs) → xs[i]? = some x) ∧ ∀ ys, H b = some (srcHO l ys) → ys[i]? = some y,
    fun i H => ∃ xs ys : List V, H a = some (srcHO k xs) ∧ H b = some (srcHO l ys) ∧ i ≤ xs.length ∧ i ≤ ys.length ∧ (i = xs.length ∨ i = ys.length)⟩
theorem zsep {I a b : Addr} (h1 : a < I) (h2 : b < I) : ZipSep2 (I + 4) (I + 2) (I + 3) I (I + 1) [I, a] [I + 1, b] := by
  have t1 : a ≠ I + 4 := Nat.ne_of_lt (Nat.lt_of_lt_of_le h1 (Nat.le_add_right _ _))
  have t2 : a ≠ I + 3 := Nat.ne_of_lt (Nat.lt_of_lt_of_le h1 (Nat.le_add_right _ _))
  have t3 : b ≠ I + 4 := Nat.ne_of_lt (Nat.lt_of_lt_of_le h2 (Nat.le_add_right _ _))
  have t4 : b ≠ I + 3 := Nat.ne_of_lt (Nat.lt_of_lt_of_le h2 (Nat.le_add_right _ _))
  have t5 : a ≠ I + 1 := Nat.ne_of_lt (Nat.lt_of_lt_of_le h1 (Nat.le_add_right _ _))
  have t6 : b ≠ I := Nat.ne_of_lt h2
  have n (i j : Nat) (h : i ≠ j) : I + i ≠ I + j := fun e => h (Nat.add_left_cancel e)
  have n0 (j : Nat) (h : 0 ≠ j) : I ≠ I + j := fun e => h (Nat.add_left_cancel (n := I) (by simpa using e))
  refine ⟨n 2 4 (by decide), n 3 4 (by decide), n 2 3 (by decide), (n0 2 (by decide)).symm, by simp, ?_, ?_, n 2 1 (by decide), by simp, ?_, ?_, ?_, ?_⟩
  · simp only [List.mem_cons, List.not_mem_nil, or_false, not_or]; exact ⟨(n0 4 (by decide)).symm, t1.symm⟩
  · simp only [List.mem_cons, List.not_mem_nil, or_false, not_or]; exact ⟨(n0 3 (by decide)).symm, t2.symm⟩
  · simp only [List.mem_cons, List.not_mem_nil, or_false, not_or]; exact ⟨n 4 1 (by decide), t3.symm⟩
  · simp only [List.mem_cons, List.not_mem_nil, or_false, not_or]; exact ⟨n 3 1 (by decide), t4.symm⟩
  · simp only [List.mem_cons, List.not_mem_nil, or_false, not_or]; exact ⟨n0 1 (by decide), t6.symm⟩
  · simp only [List.mem_cons, List.not_mem_nil, or_false, not_or]; exact ⟨(n0 1 (by decide)).symm, t5.symm⟩
theorem turn_zipG {P : Program} {w : World} {K : PySem.W.Frag} {elts : List Expr} {kk : Nat} {tpos : Pos} (k l : Bool) {a b z TI TO i1 i2 : Addr} (D : ZipSep2 z TI TO i1 i2 [i1, a] [i2, b]) :
    Turn P w K (.Tuple elts kk tpos) (ItzG k l a b) [z, TI, TO, i1, i2] z (fun i h => IsZip h z TI TO .none ∧ IsTupOf2 h TI (.ref i1) (.ref i2) ∧ (∃ x y, IsTupOf2 h TO x y) ∧ itAt k h i1 a i ∧ itAt l h i2 b i) where
  mem := by simp
  obj := fun i h st c hc => by
    obtain ⟨hz, hTI, ⟨x, y, hTO⟩, h1, h2⟩ := st
    have e' : c = z ∨ c = TI ∨ c = TO ∨ c = i1 ∨ c = i2 := by simpa using hc
    rcases e' with q | q | q | q | q
    · rw [q]; exact ⟨_, hz, fun v q => nomatch q⟩
    · rw [q]; exact ⟨_, hTI, fun v q => nomatch q⟩
    · rw [q]; exact ⟨_, hTO, fun v q => nomatch q⟩
    · rw [q]; exact h1.obj
    · rw [q]; exact h2.obj
  keep := fun i h h' st kp => by
    obtain ⟨hz, hTI, ⟨x, y, hTO⟩, h1, h2⟩ := st
    exact ⟨kp z (by simp) _ hz, kp TI (by simp) _ hTI, ⟨x, y, kp TO (by simp) _ hTO⟩, h1.at fun o q => kp i1 (by simp) o q, h2.at fun o q => kp i2 (by simp) o q⟩
  item := by
    intro X hP hw hK hc i pins s σ H E I hf st hg
    subst hP hw hK
    obtain ⟨hz, hTI, ⟨x0, y0, hTO⟩, h1, h2⟩ := st
    obtain ⟨xs, ys, x, y, hqx, hqy, hx, hy⟩ := hg
    obtain ⟨its, rv, p, oa, hoa⟩ := src_at I hqx
    obtain ⟨its2, rv2, p2, ob, hob⟩ := src_at I hqy
    obtain ⟨u, hu, ru⟩ := rv.get hx
    obtain ⟨u2, hu2, ru2⟩ := rv2.get hy
    have hzl : z < s.heap.objs.size := Heap.lt_size hz
    have n1 : a ≠ i1 := fun q => by rw [q, (hf i1 (by simp)).1] at hqx; cases hqx
    have n2 : b ≠ i2 := fun q => by rw [q, (hf i2 (by simp)).1] at hqy; cases hqy
    have hlt1 : i < its.toArray.size := by have := (List.getElem?_eq_some_iff.mp hu).1; simpa using this
    have hlt2 : i < its2.toArray.size := by have := (List.getElem?_eq_some_iff.mp hu2).1; simpa using this
    refine wpAny_pyNext_zipD2_item D (draws_src k (show X.A.in1.handled = none from I.ok.hd hc) i1 a n1 its.toArray) (draws_src l (show X.A.in1.handled = none from I.ok.hd hc) i2 b n2 its2.toArray) hz hTI hTO (show stAt k i1 a its.toArray i s.heap from ⟨h1, p⟩) (show stAt l i2 b its2.toArray i s.heap from ⟨h2, p2⟩) hlt1 hlt2
      fun y1 y2 h' tk hy1 hy2 z' TO' st1' st2' hT hsz hk => ?_
    have e1 : y1 = u := by have q : its[i]? = some y1 := by simpa using hy1
                           rw [hu] at q; cases q; rfl
    have e2 : y2 = u2 := by have q : its2[i]? = some y2 := by simpa using hy2
                            rw [hu2] at q; cases q; rfl
    subst e1 e2
    refine ⟨_, rfl, wpAny_letOwnedTupleGo_zip (s := { s with heap := h', toks := tk }) z' fun h'' z'' sb => ?_⟩
    have hT2 : h''.get? s.heap.objs.size = some { cls := .type "tuple", data := .seq #[y1, y2] } := (sb.2 _ (Nat.ne_of_gt hzl)).trans hT
    have new : ObjOk X.prog X.w (upd H s.heap.objs.size (.tup [x, y])) h'' s.heap.objs.size (.tup [x, y]) :=
      ⟨by show 2 ≤ sizeLine; decide, [y1, y2], .cons ru (.cons ru2 .nil), ⟨_, hT2, rfl, _, rfl⟩⟩
    have I1 : Inv X pins σ (upd H s.heap.objs.size (.tup [x, y])) { s with heap := h'', toks := tk } :=
      I.turnedNew (ch := [z, TI, TO, i1, i2]) (fun c o hb q => (sb.2 c (fun q' => hb (by simp [q']))).trans (hk c o (fun q' => hb (by simp [q'])) (fun q' => hb (by simp [q'])) (fun q' => hb (by simp [q'])) (fun q' => hb (by simp [q'])) q)) hf (Nat.le_refl _) new
    refine ⟨.ref s.heap.objs.size, _, I1, rfl, ⟨_, x, y, rfl, I.hok.fresh (Nat.le_refl _), rfl, fun l' hl => by rw [src_inj hl hqx]; exact hx, fun l' hl => by rw [src_inj hl hqy]; exact hy⟩, ⟨z'', ?_, ⟨y1, y2, ?_⟩, ?_, ?_⟩, fun c hcm => ?_⟩
    · exact (sb.2 _ D.TIz).trans (hk _ _ D.TIz D.TITO D.TIi1 D.TIi2 hTI)
    · exact (sb.2 _ D.TOz).trans TO'
    · exact st1'.1.at fun o q => (sb.2 _ D.zi1.symm).trans q
    · exact st2'.1.at fun o q => (sb.2 _ D.zi2.symm).trans q
    · have hlt : c < s.heap.objs.size := by
        have e' : c = z ∨ c = TI ∨ c = TO ∨ c = i1 ∨ c = i2 := by simpa using hcm
        rcases e' with q | q | q | q | q
        · rw [q]; exact hzl
        · rw [q]; exact Heap.lt_size hTI
        · rw [q]; exact Heap.lt_size hTO
        · rw [q]; obtain ⟨_, e1, _⟩ := h1.obj; exact Heap.lt_size e1
        · rw [q]; obtain ⟨_, e2, _⟩ := h2.obj; exact Heap.lt_size e2
      rw [upd_ne (Nat.ne_of_lt hlt)]
      exact (hf c hcm).1
  done := by
    intro X hP hw hK hc i pins s σ H E I hf st hg
    subst hP hw hK
    obtain ⟨hz, hTI, ⟨x0, y0, hTO⟩, h1, h2⟩ := st
    obtain ⟨xs, ys, hqx, hqy, le1, le2, hend⟩ := hg
    obtain ⟨its, rv, p, oa, hoa⟩ := src_at I hqx
    obtain ⟨its2, rv2, p2, ob, hob⟩ := src_at I hqy
    have l1 := rv.length
    have l2 := rv2.length
    have n1 : a ≠ i1 := fun q => by rw [q, (hf i1 (by simp)).1] at hqx; cases hqx
    have n2 : b ≠ i2 := fun q => by rw [q, (hf i2 (by simp)).1] at hqy; cases hqy
    exact wpAny_pyNext_zipD2_end D (draws_src k (show X.A.in1.handled = none from I.ok.hd hc) i1 a n1 its.toArray) (draws_src l (show X.A.in1.handled = none from I.ok.hd hc) i2 b n2 its2.toArray) hz hTI hTO (show stAt k i1 a its.toArray i s.heap from ⟨h1, p⟩) (show stAt l i2 b its2.toArray i s.heap from ⟨h2, p2⟩) (by simp; omega) (by simp; omega) (by simp; omega)
      fun h' tk hk => ⟨rfl, I.turnedL (ch := [z, TI, TO, i1, i2]) (fun c o hb q => hk c o (fun q' => hb (by simp [q'])) (fun q' => hb (by simp [q'])) (fun q' => hb (by simp [q'])) (fun q' => hb (by simp [q'])) q) hf⟩
  self := fun A i s Q E st h => wpAny_pyIter_zip st.1 h
def iZipG (ta : TA) : TI := fun σ H R => ta σ H fun vs H1 => ∃ (k l : Bool) (a b : Addr) (xs ys : List V), vs = [.ref a, .ref b] ∧ H1 a = some (srcHO k xs) ∧ H1 b = some (srcHO l ys) ∧ R (ItzG k l a b) H1
theorem pi_zipG {X : Cx} {e e2 : Expr} {ta : TA} {p pos tpos : Pos} {elts : List Expr} {kk : Nat} (hg : Gl X "zip") (hm : X.mg "zip" = none) (ha : PA X [e, e2] ta)
    (hs : starEach [e, e2] X.env = (false, eval e X.env) :: starEach [e2] X.env) (hpl : (backTo pos (starEach [e2] X.env)).any (·.1) = false) :
    PI X (.Tuple elts kk tpos) (.Call (.Name "zip" p) [e, e2] [] pos) (iZipG ta) := by
  refine ⟨fun pins s σ H R I h => ?_⟩
  refine Call_ (ld_blt I hg hm PyProof.Rows.boot_zip (PyProof.Rows.callWith_type1 (thn (ha.run pos pins s σ H _ I h) fun us s1 ⟨vs, H1, I1, r1, q1⟩ => ?_) hs hpl))
  obtain ⟨k, l, a, b, xs, ys, ex, hqx, hqy, q⟩ := q1
  subst ex
  cases r1 with
  | cons r rr =>
    cases rr with
    | cons r' rr =>
      cases rr
      cases r
      cases r'
      have fresh5 : ∀ c, c ∈ [s1.heap.objs.size + 4, s1.heap.objs.size + 2, s1.heap.objs.size + 3, s1.heap.objs.size, s1.heap.objs.size + 1] → FpOk X pins H1 c := fun c hcm => by
        have e' : c = s1.heap.objs.size + 4 ∨ c = s1.heap.objs.size + 2 ∨ c = s1.heap.objs.size + 3 ∨ c = s1.heap.objs.size ∨ c = s1.heap.objs.size + 1 := by simpa using hcm
        have hle : s1.heap.objs.size ≤ c := by
          rcases e' with z | z | z | z | z
          · rw [z]; exact Nat.le_add_right _ _
          · rw [z]; exact Nat.le_add_right _ _
          · rw [z]; exact Nat.le_add_right _ _
          · rw [z]; exact Nat.le_refl _
          · rw [z]; exact Nat.le_add_right _ _
        exact I1.fpOk hle (I1.hok.fresh hle)
      obtain ⟨its, rv, p1, oa, hoa⟩ := src_at I1 hqx
      obtain ⟨its2, rv2, p2, ob, hob⟩ := src_at I1 hqy
      obtain ⟨o1, B1, st1⟩ := begins_src k a its.toArray
      obtain ⟨o2, B2, st2⟩ := begins_src l b its2.toArray
      refine zip_begins2 B1 B2 p1 p2 fun h' hz hTI hTO h1 h2 hsz hk => wpAny_pyIter_zip hz ?_
      have I2 : Inv X pins σ H1 { s1 with heap := h' } := I1.kept (t' := s1.toks) hk
      exact ⟨s1.heap.objs.size + 4, [s1.heap.objs.size + 4, s1.heap.objs.size + 2, s1.heap.objs.size + 3, s1.heap.objs.size, s1.heap.objs.size + 1], _, _, H1, rfl, I2, turn_zipG k l (zsep (Heap.lt_size hoa) (Heap.lt_size hob)), ⟨hz, hTI, ⟨_, _, hTO⟩, st1 _ _ h1, st2 _ _ h2⟩, fresh5, q⟩

/-! ### by value -/
theorem src_of {H : Hp} {a : Addr} {vs : List V} (h : H a = some (.lst vs) ∨ H a = some (.tup vs)) : ∃ k, H a = some (srcHO k vs) := by
  rcases h with h | h
  · exact ⟨false, h⟩
  · exact ⟨true, h⟩
def enumD (xs : List PyData) : List PyData := (List.range xs.length).map fun i => PyData.tuple [.int (i : Nat), xs.getD i .none]
def zipD (xs ys : List PyData) : List PyData := (xs.zip ys).map fun p => PyData.tuple [p.1, p.2]
theorem walk_enum {F1 : AP1} {H1 : Hp} {k : Bool} {a : Addr} {vs : List V} {ds : List PyData} (fa : F1 a) (ha : H1 a = some (srcHO k vs)) (rr : RepAll F1 H1 ds vs) : WalkD F1 H1 (IteG k a) (enumD ds) where
  go := fun i H F l hi => by
    have hi : i < ds.length := by simpa [enumD] using hi
    obtain ⟨v, hv, _⟩ := rr.get (List.getElem?_eq_getElem hi)
    exact ⟨vs, v, l.stab a _ fa ha, hv⟩
  stop := fun H F l => ⟨vs, l.stab a _ fa ha, by rw [rr.length]; simp [enumD]⟩
  yld := fun i H F x H' l hi y => by
    have hi : i < ds.length := by simpa [enumD] using hi
    obtain ⟨T, u, rfl, hT, rfl, y⟩ := y
    obtain ⟨v, hv, rv⟩ := rr.get (List.getElem?_eq_getElem hi)
    have := y vs (l.stab a _ fa ha)
    rw [hv] at this; cases this
    refine ⟨.tuple [.int (i : Nat), ds[i]], by simp [enumD, hi], .inr ⟨T, _, _, rfl, hT, rfl, rfl, .cons (by simp only [RepD]) (.cons (RepD.mono l.grow l.stab _ _ rv) .nil)⟩⟩
theorem walk_zip {F1 : AP1} {H1 : Hp} {k l : Bool} {a b : Addr} {vs ws : List V} {ds es : List PyData} (fa : F1 a) (ha : H1 a = some (srcHO k vs)) (rr : RepAll F1 H1 ds vs) (fb : F1 b) (hb : H1 b = some (srcHO l ws)) (rs : RepAll F1 H1 es ws) :
    WalkD F1 H1 (ItzG k l a b) (zipD ds es) where
  go := fun i H F lt hi => by
    have hi : i < ds.length ∧ i < es.length := by simp [zipD] at hi; omega
    obtain ⟨v, hv, _⟩ := rr.get (List.getElem?_eq_getElem hi.1)
    obtain ⟨w, hw, _⟩ := rs.get (List.getElem?_eq_getElem hi.2)
    exact ⟨vs, ws, v, w, lt.stab a _ fa ha, lt.stab b _ fb hb, hv, hw⟩
  stop := fun H F lt => ⟨vs, ws, lt.stab a _ fa ha, lt.stab b _ fb hb, by rw [rr.length]; simp [zipD]; omega, by rw [rs.length]; simp [zipD]; omega, by rw [rr.length, rs.length]; simp [zipD]; omega⟩
  yld := fun i H F x H' lt hi y => by
    have hi : i < ds.length ∧ i < es.length := by simp [zipD] at hi; omega
    obtain ⟨T, u, u2, rfl, hT, rfl, y1, y2⟩ := y
    obtain ⟨v, hv, rv⟩ := rr.get (List.getElem?_eq_getElem hi.1)
    obtain ⟨w, hw, rw'⟩ := rs.get (List.getElem?_eq_getElem hi.2)
    have q1 := y1 vs (lt.stab a _ fa ha)
    rw [hv] at q1; cases q1
    have q2 := y2 ws (lt.stab b _ fb hb)
    rw [hw] at q2; cases q2
    exact ⟨.tuple [ds[i], es[i]], by
      have e : (ds.zip es)[i]? = some (ds[i], es[i]) := List.getElem?_zip_eq_some.mpr ⟨List.getElem?_eq_getElem hi.1, List.getElem?_eq_getElem hi.2⟩
      simp [zipD, e], .inr ⟨T, _, _, rfl, hT, rfl, rfl, .cons (RepD.mono lt.grow lt.stab _ _ rv) (.cons (RepD.mono lt.grow lt.stab _ _ rw') .nil)⟩⟩
@[simp] def dEnum (dA : DA) : DI := fun env Φ => dA env fun vs env1 => ∃ x xs, vs = [.d x] ∧ seqD x = some xs ∧ Φ (enumD xs) env1
@[simp] def dZip (dA : DA) : DI := fun env Φ => dA env fun vs env1 => ∃ x y xs ys, vs = [.d x, .d y] ∧ seqD x = some xs ∧ seqD y = some ys ∧ Φ (zipD xs ys) env1
section
variable {C : SC} {a b : Expr} {dA : DA} {pos p tpos : Pos} {elts : List Expr} {kk : Nat}
theorem si_enum (hg : C.sc.names.lookup ("enumerate" : Str) = some .globalImplicit) (ha : SA C [a] dA) (st : ∀ env, starEach [a] env = [(false, eval a env)]) : SI C (.Tuple elts kk tpos) (.Call (.Name "enumerate" p) [a] [] pos) (dEnum dA) := by
  intro X fx G F env σ H Q Φ r h hQ
  refine wi_of (pi_enumG (gl_of fx hg) (bn_of fx (by decide)) pa_w (st X.env)) ?_
  refine ha X fx G F env σ H _ _ r h fun vs env1 F1 H1 xs e1 rs h1 => ?_
  obtain ⟨x, ds, rfl, hx, h1⟩ := h1
  obtain ⟨y, t, rfl, ⟨rx, _⟩, rt⟩ := rs
  cases rt
  obtain ⟨c, ws, rfl, fc, hc, rr⟩ := rep_seq hx rx
  obtain ⟨k, hc⟩ := src_of hc
  exact ⟨k, c, ws, rfl, hc, hQ _ env1 F1 H1 _ e1 (walk_enum fc hc rr) h1⟩
theorem si_zip (hg : C.sc.names.lookup ("zip" : Str) = some .globalImplicit) (ha : SA C [a, b] dA) (st : ∀ env, starEach [a, b] env = (false, eval a env) :: starEach [b] env) (hpl : ∀ env, (backTo pos (starEach [b] env)).any (·.1) = false) :
    SI C (.Tuple elts kk tpos) (.Call (.Name "zip" p) [a, b] [] pos) (dZip dA) := by
  intro X fx G F env σ H Q Φ r h hQ
  refine wi_of (pi_zipG (gl_of fx hg) (bn_of fx (by decide)) pa_w (st X.env) (hpl X.env)) ?_
  refine ha X fx G F env σ H _ _ r h fun vs env1 F1 H1 xs e1 rs h1 => ?_
  obtain ⟨x, y, ds, es, rfl, hx, hy, h1⟩ := h1
  obtain ⟨v, t, rfl, ⟨rx, _⟩, rt⟩ := rs
  obtain ⟨w, t, rfl, ⟨ry, _⟩, rt⟩ := rt
  cases rt
  obtain ⟨c, vs1, rfl, fc, hc, rr⟩ := rep_seq hx rx
  obtain ⟨d, vs2, rfl, fd, hd, rr2⟩ := rep_seq hy ry
  obtain ⟨k, hc⟩ := src_of hc
  obtain ⟨l, hd⟩ := src_of hd
  exact ⟨k, l, c, d, vs1, vs2, rfl, hc, hd, hQ _ env1 F1 H1 _ e1 (walk_zip fc hc rr fd hd rr2) h1⟩
end
end Ev
set_option Elab.async false
set_option linter.all false
set_option maxRecDepth 100000
/-! Ev8: built-in functions, methods. -/
namespace Ev
open PySem PySem.Spec PyProof.Rows L2

section
variable (X : Cx)
def wC (f : Value) : List V → Hp → VK → Prop := fun xs H Q => ∀ (pins : List (Addr × Obj)) (s : Shared) (σ : L2.St) (us : List Value), Inv X pins σ H s → Vals xs us → wpAny (model X.prog X.w) X.A (call f us) (EP X pins σ Q) X.xe s
variable {X}
theorem callr_w {f : Value} : CallR X f (wC X f) := fun pins s σ _ _ us _ I r h => h pins s σ us I r
theorem wc_of {f : Value} {r : List V → Hp → VK → Prop} {xs : List V} {H : Hp} {Q : VK} (h : CallR X f r) (q : r xs H Q) : wC X f xs H Q := fun pins s σ us I rv => h pins s σ H xs us Q I rv q
end
def CalS (f : Value) (o : Und) : Prop := ∀ (C : SC) (X : Cx), Fits C X → ∀ (G : Gh) (F : AP1) (env : Env) (σ : L2.St) (H : Hp) (v : Val) (x : V) (Q : VK) (Φ : Val → Prop), R G F env σ H → RepV G F H v x → o v Φ →
  (∀ z F' H' zx, Ext G F env σ H F' env H' → Res G env σ H F' env H' z zx → Φ z → Q zx H') → wC X f [x] H Q
def CalS2 (f : Value) (o : Opd) : Prop := ∀ (C : SC) (X : Cx), Fits C X → ∀ (G : Gh) (F : AP1) (env : Env) (σ : L2.St) (H : Hp) (v w : Val) (x y : V) (Q : VK) (Φ : Val → Prop), R G F env σ H → RepV G F H v x → RepV G F H w y → o v w Φ →
  (∀ z F' H' zx, Ext G F env σ H F' env H' → Res G env σ H F' env H' z zx → Φ z → Q zx H') → wC X f [x, y] H Q
section
variable {C : SC} {a b : Expr} {da db : DO} {pos p : Pos} {x : Str}
theorem so_blt1 {id : String} {o : Und} (hx : x ∈ bltNames) (hv : bootBuiltins x = some (.builtin id)) (hg : C.sc.names.lookup x = some .globalImplicit) (ho : CalS (.builtin id) o) (ha : SO C a da) (hn : x ≠ "__name__") (hdb : (x == ("__debug__" : Str)) = false)
    (st : ∀ env, starEach [a] env = (false, eval a env) :: starEach [] env) : SO C (.Call (.Name x p) [a] [] pos) (dUn o da) := by
  intro X fx G F env σ H Q Φ r h hQ
  refine w_of (pe_callB callr_w (gl_of fx hg) (bn_of fx hx) hv (pa_cons pe_w pa_nil (st X.env)) hn hdb (st X.env) rfl) ?_
  refine one fx (Φ := fun v env1 => o v fun z => Φ (.v z) env1) ha r h fun v env2 F2 H2 y e rv h2 => ?_
  exact ho C X fx G F2 env2 σ H2 v y Q _ e.r rv h2 fun z F3 H3 zx e3 q3 h3 => hQ (.v z) _ _ _ _ (e.trans e3) (Res.back e q3) h3
theorem so_ty1 {T : String} {o : Und} (hx : x ∈ bltNames) (hv : bootBuiltins x = some (.type T)) (hg : C.sc.names.lookup x = some .globalImplicit) (ho : CalS (.type T) o) (ha : SO C a da) (hn : x ≠ "__name__") (hdb : (x == ("__debug__" : Str)) = false)
    (st : ∀ env, starEach [a] env = (false, eval a env) :: starEach [] env) : SO C (.Call (.Name x p) [a] [] pos) (dUn o da) := by
  intro X fx G F env σ H Q Φ r h hQ
  refine w_of (pe_callTy callr_w (gl_of fx hg) (bn_of fx hx) hv (pa_cons pe_w pa_nil (st X.env)) hn hdb (st X.env) rfl) ?_
  refine one fx (Φ := fun v env1 => o v fun z => Φ (.v z) env1) ha r h fun v env2 F2 H2 y e rv h2 => ?_
  exact ho C X fx G F2 env2 σ H2 v y Q _ e.r rv h2 fun z F3 H3 zx e3 q3 h3 => hQ (.v z) _ _ _ _ (e.trans e3) (Res.back e q3) h3
theorem so_blt2 {id : String} {o : Opd} (hx : x ∈ bltNames) (hv : bootBuiltins x = some (.builtin id)) (hg : C.sc.names.lookup x = some .globalImplicit) (ho : CalS2 (.builtin id) o) (ha : SO C a da) (hb : SO C b db) (hn : x ≠ "__name__") (hdb : (x == ("__debug__" : Str)) = false)
    (st : ∀ env, starEach [a, b] env = (false, eval a env) :: starEach [b] env) (st2 : ∀ env, starEach [b] env = (false, eval b env) :: starEach [] env) (hpl : ∀ env, (backTo pos (starEach [b] env)).any (·.1) = false) : SO C (.Call (.Name x p) [a, b] [] pos) (dBin o da db) := by
  intro X fx G F env σ H Q Φ r h hQ
  refine w_of (pe_callB callr_w (gl_of fx hg) (bn_of fx hx) hv (pa_cons pe_w (pa_cons pe_w pa_nil (st2 X.env)) (st X.env)) hn hdb (st X.env) (hpl X.env)) ?_
  refine two fx (Φ := fun v w env1 => o v w fun z => Φ (.v z) env1) ha hb r h fun v w env2 F2 H2 y y2 e rv rw' h2 => ?_
  exact ho C X fx G F2 env2 σ H2 v w y y2 Q _ e.r rv rw' h2 fun z F3 H3 zx e3 q3 h3 => hQ (.v z) _ _ _ _ (e.trans e3) (Res.back e q3) h3
end

/-! ### what they do -/
@[simp] def oLen : Und := fun v Φ => (∃ xs, toS v = some xs ∧ Φ (.d (.int xs.length))) ∨ ∃ s, v = .d (.str s) ∧ s.length ≤ 16777216 ∧ Φ (.d (.int s.length))
theorem cs_len : CalS (.builtin "len") oLen := by
  intro C X fx G F env σ H v x Q Φ r rv h k
  rcases h with ⟨xs, hx, h⟩ | ⟨s, rfl, hl, h⟩
  · obtain ⟨a, vs, rfl, ha, ra⟩ := rep_S hx rv
    exact wc_of call_len_seq ⟨a, vs, rfl, ha.imp SqL.of SqT.of, k _ _ _ _ (.refl r) (.imm (by simp only [RepD]; rw [ra.length])) h⟩
  · have rv : RepD F H (.str s) x := rv
    simp only [RepD] at rv
    subst rv
    exact wc_of call_len_str ⟨s, rfl, by rw [sizeLine_eq]; exact hl, k _ _ _ _ (.refl r) (.imm (by simp only [RepD])) h⟩
@[simp] def oTuple : Und := fun v Φ => ∃ xs, toS v = some xs ∧ Φ (.d (.tuple xs))
theorem cs_tuple : CalS (.type "tuple") oTuple := by
  intro C X fx G F env σ H v x Q Φ r rv h k
  obtain ⟨xs, hx, h⟩ := h
  cases e : toT v with
  | some ys =>
    obtain ⟨a, vs, rfl, ha, ra, fa⟩ := rep_T e rv
    have ey : ys = xs := by
      unfold toT at e
      split at e
      · cases e; cases hx; rfl
      · cases e
    subst ey
    exact wc_of call_tuple_of ⟨a, vs, rfl, .inr ⟨SqT.of ha, k _ _ _ _ (.refl r) (.imm (by simp only [RepD]; exact ⟨a, vs, rfl, fa, ha, ra⟩)) h⟩⟩
  | none =>
    have hl : toL v = some xs := by
      unfold toS at hx
      split at hx
      · cases hx; rfl
      · cases hx; rfl
      · cases e
      · cases hx
    obtain ⟨a, vs, rfl, ha, ra⟩ := rep_L hl rv
    refine wc_of call_tuple_of ⟨a, vs, rfl, .inl ⟨SqL.of ha, fun p hp => ?_⟩⟩
    obtain ⟨e2, q2⟩ := res_tup r hp ra
    exact k _ _ _ _ e2 q2 h
@[simp] def oList : Und := fun v Φ => ∃ xs, toS v = some xs ∧ Φ (.own xs)
theorem cs_list : CalS (.type "list") oList := by
  intro C X fx G F env σ H v x Q Φ r rv h k
  obtain ⟨xs, hx, h⟩ := h
  obtain ⟨a, vs, rfl, ha, ra⟩ := rep_S hx rv
  refine wc_of call_list_of ⟨a, vs, rfl, ha.imp SqL.of SqT.of, fun p hp => ?_⟩
  obtain ⟨e2, q2⟩ := res_own r hp ra
  exact k _ _ _ _ e2 q2 h
def oSum : Und := fun v Φ => ∃ ns : List Int, toL v = some (ns.map .int) ∧ Φ (.d (.int ns.sum))
theorem cs_sum : CalS (.builtin "sum") oSum := by
  intro C X fx G F env σ H v x Q Φ r rv h k
  obtain ⟨ns, hx, h⟩ := h
  obtain ⟨a, vs, rfl, ha, ra⟩ := rep_L hx rv
  rw [ra.ints] at ha
  exact wc_of (cr_sum fx.calm) ⟨a, ns, rfl, SqL.of ha, k _ _ _ _ (.refl r) (.imm (by simp only [RepD])) h⟩
def oMin : Und := fun v Φ => ∃ ns : List Int, toL v = some (ns.map .int) ∧ ns ≠ [] ∧ ∀ m, m ∈ ns → (∀ y ∈ ns, m ≤ y) → Φ (.d (.int m))
theorem cs_min : CalS (.builtin "min") oMin := by
  intro C X fx G F env σ H v x Q Φ r rv h k
  obtain ⟨ns, hx, hne, h⟩ := h
  obtain ⟨a, vs, rfl, ha, ra⟩ := rep_L hx rv
  rw [ra.ints] at ha
  exact wc_of (cr_min fx.calm) ⟨a, ns, rfl, SqL.of ha, List.length_pos_iff.mpr hne, fun m h1 h2 => k _ _ _ _ (.refl r) (.imm (by simp only [RepD])) (h m h1 h2)⟩
def oMax : Und := fun v Φ => ∃ ns : List Int, toL v = some (ns.map .int) ∧ ns ≠ [] ∧ ∀ m, m ∈ ns → (∀ y ∈ ns, y ≤ m) → Φ (.d (.int m))
theorem cs_max : CalS (.builtin "max") oMax := by
  intro C X fx G F env σ H v x Q Φ r rv h k
  obtain ⟨ns, hx, hne, h⟩ := h
  obtain ⟨a, vs, rfl, ha, ra⟩ := rep_L hx rv
  rw [ra.ints] at ha
  exact wc_of (cr_max fx.calm) ⟨a, ns, rfl, SqL.of ha, List.length_pos_iff.mpr hne, fun m h1 h2 => k _ _ _ _ (.refl r) (.imm (by simp only [RepD])) (h m h1 h2)⟩
@[simp] def oMax2 : Opd := fun v w Φ => ∃ i j, toI v = some i ∧ toI w = some j ∧ Φ (.d (.int (if j > i then j else i)))
theorem cs_max2 : CalS2 (.builtin "max") oMax2 := by
  intro C X fx G F env σ H v w x y Q Φ r rv rw' h k
  obtain ⟨i, j, e1, e2, h⟩ := h
  obtain ⟨_, rfl⟩ := rep_I e1 rv
  obtain ⟨_, rfl⟩ := rep_I e2 rw'
  exact wc_of (call_max2 fx.calm) ⟨i, j, rfl, k _ _ _ _ (.refl r) (.imm (by simp only [RepD])) h⟩
@[simp] def oMin2 : Opd := fun v w Φ => ∃ i j, toI v = some i ∧ toI w = some j ∧ Φ (.d (.int (if j < i then j else i)))
theorem cs_min2 : CalS2 (.builtin "min") oMin2 := by
  intro C X fx G F env σ H v w x y Q Φ r rv rw' h k
  obtain ⟨i, j, e1, e2, h⟩ := h
  obtain ⟨_, rfl⟩ := rep_I e1 rv
  obtain ⟨_, rfl⟩ := rep_I e2 rw'
  exact wc_of (call_min2 fx.calm) ⟨i, j, rfl, k _ _ _ _ (.refl r) (.imm (by simp only [RepD])) h⟩
@[simp] def oAbs : Und := fun v Φ => ∃ i, toI v = some i ∧ Φ (.d (.int (if i < 0 then -i else i)))
theorem cs_abs : CalS (.builtin "abs") oAbs := by
  intro C X fx G F env σ H v x Q Φ r rv h k
  obtain ⟨i, e1, h⟩ := h
  obtain ⟨_, rfl⟩ := rep_I e1 rv
  exact wc_of call_abs ⟨i, rfl, k _ _ _ _ (.refl r) (.imm (by simp only [RepD])) h⟩
@[simp] def oInt : Und := fun v Φ => (∃ i, toI v = some i ∧ Φ (.d (.int i))) ∨ ∃ b, toB v = some b ∧ Φ (.d (.int (if b then 1 else 0)))
theorem cs_int : CalS (.type "int") oInt := by
  intro C X fx G F env σ H v x Q Φ r rv h k
  rcases h with ⟨i, e1, h⟩ | ⟨b, e1, h⟩
  · obtain ⟨_, rfl⟩ := rep_I e1 rv
    exact wc_of call_int1 (.inl ⟨i, rfl, k _ _ _ _ (.refl r) (.imm (by simp only [RepD])) h⟩)
  · obtain ⟨_, rfl⟩ := rep_B e1 rv
    exact wc_of call_int1 (.inr ⟨b, rfl, k _ _ _ _ (.refl r) (.imm (by simp only [RepD])) h⟩)
/-- any, all: of bools, ints -/
def truI : PyData → Option Bool
  | .bool b => some b
  | .int i => some (i != 0)
  | _ => none
def truIs : List PyData → Option (List Bool)
  | [] => some []
  | x :: xs => (truI x).bind fun b => (truIs xs).map fun r => b :: r
theorem truth_mixed {prog : Program} {w : World} {A : Around} {F : AP1} {H : Hp} : ∀ {ds : List PyData} {vs : List V} {its : List Value} {bs : List Bool}, truIs ds = some bs → RepAll F H ds vs → Vals vs its →
    TruthOf prog w A (fun i v => its.toArray[i]? = some v) (fun i => bs.getD i false) := fun {ds vs its bs} hb rr rv i v s Q E hv hq => by
  have hv' : its[i]? = some v := by simpa using hv
  clear hv
  induction ds generalizing vs its bs i with
  | nil => cases rr.inv0; cases rv; simp at hv'
  | cons d ds ih =>
    obtain ⟨x, t, rfl, r1, r2⟩ := rr.inv
    cases rv with
    | cons ru rt =>
      rename_i u us
      obtain ⟨b, hb1, hb2⟩ := Option.bind_eq_some_iff.mp (show (truI d).bind (fun b => (truIs ds).map fun r => b :: r) = some bs from hb)
      obtain ⟨bs', hb3, rfl⟩ := Option.map_eq_some_iff.mp hb2
      cases i with
      | zero =>
        have hv' : u = v := by simpa using hv'
        subst hv'
        have hq : Q b s := hq
        cases d with
        | bool c => cases hb1; simp only [RepD] at r1; subst r1; cases ru; exact wpAny_truthy_bool hq
        | int c => cases hb1; simp only [RepD] at r1; subst r1; obtain ⟨tk, rfl⟩ := ru; exact PyProof.Rows.truthy_int hq
        | _ => cases hb1
      | succ i => exact ih hb3 r2 rt i (by simpa using hq) (by simpa using hv')
theorem truIs_len : ∀ {ds : List PyData} {bs : List Bool}, truIs ds = some bs → bs.length = ds.length
  | [], _, h => by cases h; rfl
  | d :: ds, bs, h => by
    obtain ⟨b, hb1, hb2⟩ := Option.bind_eq_some_iff.mp (show (truI d).bind (fun b => (truIs ds).map fun r => b :: r) = some bs from h)
    obtain ⟨bs', hb3, rfl⟩ := Option.map_eq_some_iff.mp hb2
    simp [truIs_len hb3]
def oAny : Und := fun v Φ => ∃ ds bs, toL v = some ds ∧ truIs ds = some bs ∧ Φ (.d (.bool (bs.any id)))
def oAll : Und := fun v Φ => ∃ ds bs, toL v = some ds ∧ truIs ds = some bs ∧ Φ (.d (.bool (bs.all id)))
theorem cs_any : CalS (.builtin "any") oAny := by
  intro C X fx G F env σ H v x Q Φ r rv h k
  obtain ⟨ds, bs, hx, hb, h⟩ := h
  obtain ⟨a, vs, rfl, ha, ra⟩ := rep_L hx rv
  intro pins s σ' us I rvs
  obtain ⟨its, rv2, hl, _⟩ := I.list (SqL.of ha)
  rw [Vals.ref1 rvs]
  refine call_any_walk (iter_any hl.isList fun s₂ e2 st hne => ?_)
  subst e2
  refine ⟨_, _, _, _, _, _, _, rfl, Walks.list (A := X.A.in1) (I.ok.hd fx.calm) _ a hne its.toArray, st, truth_mixed hb ra rv2, fun h' tk hk => ?_⟩
  refine ⟨.bl (bs.any id), H, I.kept fun b o eo => hk b o (fun hmem => ?_) (Heap.get?_push_of_some _ eo), ?_, k _ _ _ _ (.refl r) (.imm (by simp only [RepD])) h⟩
  · rcases List.mem_cons.mp hmem with e1 | hmem
    · exact absurd (e1 ▸ Heap.lt_size eo) (Nat.lt_irrefl _)
    · cases hmem
  · show Value.bool _ = Value.bool _
    have e1 : its.length = bs.length := by rw [← rv2.length, ra.length, truIs_len hb]
    rw [← L2.any_range, List.size_toArray, e1]
theorem cs_all : CalS (.builtin "all") oAll := by
  intro C X fx G F env σ H v x Q Φ r rv h k
  obtain ⟨ds, bs, hx, hb, h⟩ := h
  obtain ⟨a, vs, rfl, ha, ra⟩ := rep_L hx rv
  intro pins s σ' us I rvs
  obtain ⟨its, rv2, hl, _⟩ := I.list (SqL.of ha)
  rw [Vals.ref1 rvs]
  refine call_all_walk (iter_any hl.isList fun s₂ e2 st hne => ?_)
  subst e2
  refine ⟨_, _, _, _, _, _, _, rfl, Walks.list (A := X.A.in1) (I.ok.hd fx.calm) _ a hne its.toArray, st, truth_mixed hb ra rv2, fun h' tk hk => ?_⟩
  refine ⟨.bl (bs.all id), H, I.kept fun b o eo => hk b o (fun hmem => ?_) (Heap.get?_push_of_some _ eo), ?_, k _ _ _ _ (.refl r) (.imm (by simp only [RepD])) h⟩
  · rcases List.mem_cons.mp hmem with e1 | hmem
    · exact absurd (e1 ▸ Heap.lt_size eo) (Nat.lt_irrefl _)
    · cases hmem
  · show Value.bool _ = Value.bool _
    have e1 : its.length = bs.length := by rw [← rv2.length, ra.length, truIs_len hb]
    rw [← L2.all_range, List.size_toArray, e1]
/-- sorted: ints; tuples of d ints -/
theorem RepAll.perm {F : AP1} {H : Hp} {vs ys : List V} (hp : ys.Perm vs) : ∀ {xs : List PyData}, RepAll F H xs vs → ∃ zs, zs.Perm xs ∧ RepAll F H zs ys := by
  induction hp with
  | nil => intro xs h; exact ⟨xs, .refl _, h⟩
  | cons y _ ih =>
    intro xs h
    cases xs with
    | nil => have := h.inv0; cases this
    | cons x xs =>
      obtain ⟨v, r, e, h1, h2⟩ := h.inv
      cases e
      obtain ⟨zs, p, q⟩ := ih h2
      exact ⟨x :: zs, p.cons x, .cons h1 q⟩
  | swap y z l =>
    intro xs h
    cases xs with
    | nil => have := h.inv0; cases this
    | cons x xs =>
      obtain ⟨v, r, e, h1, h2⟩ := h.inv
      cases e
      cases xs with
      | nil => have := h2.inv0; cases this
      | cons x2 xs =>
        obtain ⟨v, r, e, h3, h4⟩ := h2.inv
        cases e
        exact ⟨x2 :: x :: xs, .swap _ _ _, .cons h3 (.cons h1 h4)⟩
  | trans _ _ ih1 ih2 =>
    intro xs h
    obtain ⟨zs, p, q⟩ := ih2 h
    obtain ⟨ws, p2, q2⟩ := ih1 q
    exact ⟨ws, p2.trans p, q2⟩
def tupI (ns : List Int) : PyData := .tuple (ns.map .int)
def oSortI : Und := fun v Φ => ∃ ns : List Int, toL v = some (ns.map .int) ∧ ∀ ms : List Int, ms.Perm ns → ms.Pairwise (· ≤ ·) → Φ (.own (ms.map .int))
def oSortT : Und := fun v Φ => ∃ (d : Nat) (B : Int) (rs : List (List Int)), toL v = some (rs.map tupI) ∧ 1 ≤ d ∧ rs.length < 64 ∧ (∀ r ∈ rs, r.length = d ∧ TS.Bd B r) ∧ ∀ qs : List (List Int), qs.Perm rs → qs.Pairwise (fun x y => TS.code B x ≤ TS.code B y) → Φ (.own (qs.map tupI))
theorem tupI_inj {a b : List Int} (h : tupI a = tupI b) : a = b := by
  unfold tupI at h
  injection h with h
  have e : ∀ (a b : List Int), a.map PyData.int = b.map PyData.int → a = b := by
    intro a
    induction a with
    | nil => intro b h; cases b with
      | nil => rfl
      | cons _ _ => cases h
    | cons x a ih => intro b h; cases b with
      | nil => cases h
      | cons y b =>
        simp only [List.map_cons, List.cons.injEq, PyData.int.injEq] at h
        rw [h.1, ih b h.2]
  exact e a b h
theorem perm_map_inv {f : List Int → PyData} : ∀ {zs xs : List PyData}, zs.Perm xs → ∀ rs : List (List Int), xs = rs.map f → ∃ qs : List (List Int), qs.Perm rs ∧ zs = qs.map f := by
  intro zs xs hp
  induction hp with
  | nil => intro rs e; exact ⟨rs, .refl _, e⟩
  | cons x _ ih =>
    intro rs e
    cases rs with
    | nil => cases e
    | cons r rs =>
      simp only [List.map_cons, List.cons.injEq] at e
      obtain ⟨qs, p, e2⟩ := ih rs e.2
      exact ⟨r :: qs, p.cons r, by rw [e2, List.map_cons, e.1]⟩
  | swap x y l =>
    intro rs e
    cases rs with
    | nil => cases e
    | cons r rs =>
      cases rs with
      | nil => simp at e
      | cons r2 rs =>
        simp only [List.map_cons, List.cons.injEq] at e
        exact ⟨r2 :: r :: rs, .swap _ _ _, by rw [e.1, e.2.1, e.2.2]; rfl⟩
  | trans _ _ ih1 ih2 =>
    intro rs e
    obtain ⟨qs, p, e2⟩ := ih2 rs e
    obtain ⟨qs2, p2, e3⟩ := ih1 qs e2
    exact ⟨qs2, p2.trans p, e3⟩
theorem RepAll.tups {F : AP1} {H : Hp} {K : PySem.W.Frag} : ∀ {rs : List (List Int)} {vs : List V}, RepAll F H (rs.map tupI) vs → ∀ x ∈ vs, ∃ r ∈ rs, TupI K H x r
  | [], vs, h, x, hx => by cases (show vs = [] from h.inv0); cases hx
  | r :: rs, vs, h, x, hx => by
    obtain ⟨v, t, rfl, h1, h2⟩ := h.inv
    rcases List.mem_cons.mp hx with rfl | hx
    · simp only [tupI, RepD] at h1
      obtain ⟨a, ws, e, f, ha, rr⟩ := h1
      rw [rr.ints] at ha
      exact ⟨r, by simp, a, e, SqT.of ha⟩
    · obtain ⟨r', m, q⟩ := RepAll.tups h2 x hx
      exact ⟨r', List.mem_cons_of_mem _ m, q⟩
theorem RepAll.pair {F : AP1} {H : Hp} {K : PySem.W.Frag} {B : Int} : ∀ {qs : List (List Int)} {ys : List V}, RepAll F H (qs.map tupI) ys → ys.Pairwise (fun x y => ∀ n m, TupI K H x n → TupI K H y m → TS.code B n ≤ TS.code B m) → qs.Pairwise (fun x y => TS.code B x ≤ TS.code B y)
  | [], _, _, _ => .nil
  | q :: qs, ys, h, hp => by
    obtain ⟨v, t, rfl, h1, h2⟩ := h.inv
    rw [List.pairwise_cons] at hp
    refine List.pairwise_cons.mpr ⟨fun q' hq' => ?_, RepAll.pair h2 hp.2⟩
    obtain ⟨i, hi, ei⟩ := List.getElem_of_mem hq'
    have g : (qs.map tupI)[i]? = some (tupI q') := by rw [List.getElem?_map, List.getElem?_eq_getElem hi, ei]; rfl
    obtain ⟨y, hy, ry⟩ := h2.get g
    have t1 : ∀ {z : V} {n : List Int}, RepD F H (tupI n) z → TupI K H z n := fun {z n} hz => by
      simp only [tupI, RepD] at hz
      obtain ⟨a, ws, e, f, ha, rr⟩ := hz
      rw [rr.ints] at ha
      exact ⟨a, e, SqT.of ha⟩
    exact hp.1 y (List.mem_of_getElem? hy) q q' (t1 h1) (t1 ry)
theorem cs_sortI : CalS (.builtin "sorted") oSortI := by
  intro C X fx G F env σ H v x Q Φ r rv h k
  obtain ⟨ns, hx, h⟩ := h
  obtain ⟨a, vs, rfl, ha, ra⟩ := rep_L hx rv
  rw [ra.ints] at ha
  refine wc_of cr_sortedI ⟨a, ns, rfl, SqL.of ha, fun ms p h1 h2 hp => ?_⟩
  obtain ⟨e2, q2⟩ := res_own r hp (RepAll.ofInts ms)
  exact k _ _ _ _ e2 q2 (h ms h1 h2)
theorem cs_sortT : CalS (.builtin "sorted") oSortT := by
  intro C X fx G F env σ H v x Q Φ r rv h k
  obtain ⟨d, B, rs, hx, hd, hl, hb, h⟩ := h
  obtain ⟨a, vs, rfl, ha, ra⟩ := rep_L hx rv
  refine wc_of (cr_sortT (d := d) (B := B) hd) ⟨a, vs, rfl, SqL.of ha, by rw [ra.length, List.length_map]; exact hl, fun y hy => ?_, fun ys p h1 h2 hp => ?_⟩
  · obtain ⟨n, hn, t⟩ := ra.tups (K := X.K) y hy
    exact ⟨n, t, (hb n hn).1, (hb n hn).2⟩
  · obtain ⟨zs, z1, z2⟩ := RepAll.perm h1 ra
    obtain ⟨qs, q1, rfl⟩ := perm_map_inv z1 rs rfl
    obtain ⟨e2, q2⟩ := res_own r hp z2
    exact k _ _ _ _ e2 q2 (h qs q1 (RepAll.pair z2 h2))
theorem CalS.or {f : Value} {o o' : Und} (h : CalS f o) (h' : CalS f o') : CalS f fun v Φ => o v Φ ∨ o' v Φ := by
  intro C X fx G F env σ H v x Q Φ r rv q k
  rcases q with q | q
  · exact h C X fx G F env σ H v x Q Φ r rv q k
  · exact h' C X fx G F env σ H v x Q Φ r rv q k
def oSorted : Und := fun v Φ => oSortI v Φ ∨ oSortT v Φ
theorem cs_sorted : CalS (.builtin "sorted") oSorted := cs_sortI.or cs_sortT

/-! ### repr, isinstance, list(range(..)) -/
def oRepr : Und := fun v Φ => ∃ d, toD v = some d ∧ (toS v).isSome = true ∧ d.showable = true ∧ d.hasDict = false ∧ d.depth ≤ 60 ∧ d.shown.length ≤ 16777216 ∧ Φ (.d (.str d.shown))
theorem so_repr {C : SC} {a : Expr} {da : DO} {pos p : Pos} (hgr : C.grd = true) (hg : C.sc.names.lookup ("repr" : Str) = some .globalImplicit) (ha : SO C a da) (st : ∀ env, starEach [a] env = (false, eval a env) :: starEach [] env) :
    SO C (.Call (.Name "repr" p) [a] [] pos) (dUn oRepr da) := by
  intro X fx G F env σ H Q Φ r h hQ
  refine w_of (pe_callB (callr_w (f := .builtin "repr")) (gl_of fx hg) (bn_of fx (by decide)) (by decide +kernel) (pa_cons pe_w pa_nil (st X.env)) (by decide) (by decide) (st X.env) rfl) ?_
  refine one fx (Φ := fun v env1 => oRepr v fun z => Φ (.v z) env1) ha r h fun v env2 F2 H2 y e rv h2 => ?_
  obtain ⟨d, hd, hs, h1, h3, h4, h5, h2⟩ := h2
  have dp : Dp X.K H2 y d := rep_Dp hd rv
  obtain ⟨xs, hxs⟩ := Option.isSome_iff_exists.mp hs
  obtain ⟨b, vs, rfl, _, _⟩ := rep_S hxs rv
  intro pins s σ' us I rvs
  obtain ⟨u, rfl, ru⟩ := rvs.one
  cases ru
  obtain ⟨as, rd⟩ := Dp.reads I d _ _ dp rfl
  refine repr_of_reads' rd h1 (PyData.noDict_hsm h3) (fx.grd hgr) (by have := fx.units; omega) (fun _ _ h => h) (fun h' u tk hk => ?_) (by rw [sizeLine_eq]; exact h5)
  exact ⟨.str d.shown, H2, I.kept hk, ⟨_, rfl⟩, hQ (.v _) env2 F2 H2 _ e (Res.imm (by simp only [RepD])) h2⟩
def tyName : Val → String
  | .d .none => "NoneType"
  | .d (.bool _) => "bool"
  | .d (.int _) => "int"
  | .d (.str _) => "str"
  | .d (.list _) => "list"
  | .d (.tuple _) => "tuple"
  | .own _ => "list"
  | _ => "?"
theorem ty_ok {K : PySem.W.Frag} {G : Gh} {F : AP1} {H : Hp} {v : Val} {x : V} (r : RepV G F H v x) (h : tyName v ≠ "?") : TyX K H x (.type (tyName v)) := by
  cases v with
  | pot => exact (h rfl).elim
  | odk _ => exact (h rfl).elim
  | own xs => obtain ⟨a, vs, rfl, _, ha, _⟩ := r; exact .base (.lst ha)
  | d z =>
    have r : RepD F H z x := r
    cases z with
    | dict _ => exact (h rfl).elim
    | none => simp only [RepD] at r; subst r; exact .base .non
    | bool b => simp only [RepD] at r; subst r; exact .base (.bl b)
    | int i => simp only [RepD] at r; subst r; exact .base (.int i)
    | str s => simp only [RepD] at r; subst r; exact .base (.str s)
    | list xs => simp only [RepD] at r; obtain ⟨a, vs, rfl, _, ha, _⟩ := r; exact .base (.lst ha)
    | tuple xs => simp only [RepD] at r; obtain ⟨a, vs, rfl, _, ha, _⟩ := r; exact .base (.tup ha)
/-- isinstance(v, T): T a built-in type -/
def isi (T : String) (v : Val) : Option Bool := if tyName v = "?" then none else if tyName v = T then some true else if T = "int" ∧ tyName v = "bool" then some true else if T ∈ ["int", "bool", "str", "tuple", "list"] then some false else none
def oIsi (T : String) : Und := fun v Φ => ∃ b, isi T v = some b ∧ Φ (.d (.bool b))
theorem kit_all : ∀ t ∈ ["NoneType", "bool", "int", "str", "list", "tuple"], ∀ T ∈ ["int", "bool", "str", "tuple", "list"], kitB t T = some (decide (t = T) || (decide (T = "int") && decide (t = "bool"))) := by decide +kernel
theorem tyName_mem (v : Val) (h : tyName v ≠ "?") : tyName v ∈ ["NoneType", "bool", "int", "str", "list", "tuple"] := by
  cases v with
  | pot => exact (h rfl).elim
  | odk _ => exact (h rfl).elim
  | own _ => simp [tyName]
  | d z => cases z <;> first | (simp [tyName]; done) | exact (h rfl).elim
theorem so_isi {C : SC} {a : Expr} {da : DO} {pos p p2 : Pos} {x : Str} {T : String} (hT : T ∈ ["int", "bool", "str", "tuple", "list"]) (hx : x ∈ bltNames) (hv : bootBuiltins x = some (.type T)) (hn : x ≠ "__name__") (hdb : (x == ("__debug__" : Str)) = false) (hg : C.sc.names.lookup ("isinstance" : Str) = some .globalImplicit) (hg2 : C.sc.names.lookup x = some .globalImplicit) (ha : SO C a da)
    (st : ∀ env, starEach [a, .Name x p2] env = (false, eval a env) :: starEach [.Name x p2] env) : SO C (.Call (.Name "isinstance" p) [a, .Name x p2] [] pos) (dUn (oIsi T) da) := by
  intro X fx G F env σ H Q Φ r h hQ
  refine w_of (pe_callB call_isi (gl_of fx hg) (bn_of fx (by decide)) (by decide +kernel) (pa_cons pe_w (pa_cons (pe_bltn (v := .ty T) (gl_of fx hg2) (bn_of fx hx) hv rfl hn hdb) pa_nil) (st X.env)) (by decide) (by decide) (st X.env) rfl) ?_
  refine one fx (Φ := fun v env1 => oIsi T v fun z => Φ (.v z) env1) ha r h fun v env2 F2 H2 y e rv h2 => ?_
  obtain ⟨b, hb, h2⟩ := h2
  unfold isi at hb
  by_cases hq : tyName v = "?"
  · rw [if_pos hq] at hb; cases hb
  · rw [if_neg hq] at hb
    have k := kit_all _ (tyName_mem v hq) T hT
    have eb : b = (decide (tyName v = T) || (decide (T = "int") && decide (tyName v = "bool"))) := by
      by_cases q1 : tyName v = T
      · rw [if_pos q1] at hb; cases hb; simp [q1]
      · rw [if_neg q1] at hb
        by_cases q2 : T = "int" ∧ tyName v = "bool"
        · rw [if_pos q2] at hb; cases hb; simp [q2.1, q2.2]
        · rw [if_neg q2, if_pos hT] at hb; cases hb
          have e1 : decide (tyName v = T) = false := decide_eq_false q1
          rw [e1, Bool.false_or]
          by_cases q3 : T = "int"
          · have q4 : ¬ tyName v = "bool" := fun q => q2 ⟨q3, q⟩
            simp [q4]
          · simp [q3]
    exact ⟨y, .ty T, .type (tyName v), .type T, b, rfl, .ty T, ty_ok rv hq, kit_ty (by rw [k, eb]), hQ (.v _) env2 F2 H2 _ e (Res.imm (by simp only [RepD])) h2⟩
def rngD (a b : Int) : List PyData := (List.range (b - a).toNat).map fun (i : Nat) => PyData.int (a + i)
theorem rep_rng {F : AP1} {H : Hp} (a b : Int) : RepAll F H (rngD a b) (rgV a b) := by
  have e1 : rngD a b = ((List.range (b - a).toNat).map fun (i : Nat) => a + (i : Int)).map PyData.int := by unfold rngD; rw [List.map_map]; rfl
  have e2 : rgV a b = ((List.range (b - a).toNat).map fun (i : Nat) => a + (i : Int)).map V.int := by unfold rgV; rw [List.map_map]; rfl
  rw [e1, e2]
  exact RepAll.ofInts _
@[simp] def dListR1 (d : DO) : DO := fun env Φ => d env fun r env1 => ∃ v, r.get env1 = some v ∧ ∃ n, toI v = some n ∧ RgOk 0 n ∧ Φ (.v (.own (rngD 0 n))) env1
theorem so_listR1 {C : SC} {a : Expr} {da : DO} {pos p p2 pos2 : Pos} (hg : C.sc.names.lookup ("list" : Str) = some .globalImplicit) (hg2 : C.sc.names.lookup ("range" : Str) = some .globalImplicit) (ha : SO C a da)
    (st : ∀ env, starEach [a] env = (false, eval a env) :: starEach [] env) : SO C (.Call (.Name "list" p) [.Call (.Name "range" p2) [a] [] pos2] [] pos) (dListR1 da) := by
  intro X fx G F env σ H Q Φ r h hQ
  refine w_of (pe_listRg fx.calm (gl_of fx hg) (bn_of fx (by decide)) (prg_1 (gl_of fx hg2) (bn_of fx (by decide)) pe_w (st X.env))) ?_
  refine one fx (Φ := fun v env1 => ∃ n, toI v = some n ∧ RgOk 0 n ∧ Φ (.v (.own (rngD 0 n))) env1) ha r h fun v env2 F2 H2 y e rv h2 => ?_
  obtain ⟨n, hn, ho, h2⟩ := h2
  obtain ⟨_, rfl⟩ := rep_I hn rv
  refine ⟨n, rfl, ho, fun q hq => ?_⟩
  obtain ⟨e2, q2⟩ := res_own e.r hq (rep_rng 0 n)
  exact hQ (.v _) env2 _ _ _ (e.trans e2) (Res.back e q2) h2

/-! ### methods -/
@[simp] def oBits : Und := fun v Φ => ∃ i, toI v = some i ∧ Φ (.d (.int (Builtin.Int.intBits i : Nat)))
section
variable {C : SC} {a b : Expr} {da db : DO} {pos apos px cpos : Pos} {i : Nat} {x : Str}
theorem so_bits (ha : SO C a da) (hb : ∀ env, attributeBase a "bit_length" env (eval a env) = eval a env) (hl : (apos.endLine == pos.line) = true) : SO C (.Call (.Attribute a "bit_length" apos) [] [] pos) (dUn oBits da) := by
  intro X fx G F env σ H Q Φ r h hQ
  refine w_of (pe_bits pe_w (hb X.env) hl) ?_
  refine one fx (Φ := fun v env1 => oBits v fun z => Φ (.v z) env1) ha r h fun v env2 F2 H2 y e rv h2 => ?_
  obtain ⟨n, hn, h2⟩ := h2
  obtain ⟨_, rfl⟩ := rep_I hn rv
  exact ⟨n, rfl, hQ (.v _) env2 F2 H2 _ e (Res.imm (by simp only [RepD])) h2⟩
/-- xs.append(e), xs.extend(e), xs.pop(), xs.pop(e) of one's own list -/
@[simp] def dApp (i : Nat) (da : DO) : DO := fun env Φ => (∃ xs, env[i]? = some (some (.own xs))) ∧ da env fun r env1 => shR r env1 fun v env2 => ∃ d xs, v = .d d ∧ env2[i]? = some (some (.own xs)) ∧ xs.length < 16777216 ∧ Φ (.v (.d .none)) (env2.set i (some (.own (xs ++ [d]))))
@[simp] def dExt (i : Nat) (da : DO) : DO := fun env Φ => (∃ xs, env[i]? = some (some (.own xs))) ∧ da env fun r env1 => shR r env1 fun v env2 => ∃ ys xs, v = .d (.list ys) ∧ env2[i]? = some (some (.own xs)) ∧ xs.length + ys.length ≤ 16777216 ∧ Φ (.v (.d .none)) (env2.set i (some (.own (xs ++ ys))))
def dPop (i : Nat) : DO := fun env Φ => ∃ xs d, env[i]? = some (some (.own (xs ++ [d]))) ∧ Φ (.v (.d d)) (env.set i (some (.own xs)))
def dPopAt (i : Nat) (da : DO) : DO := fun env Φ => (∃ xs, env[i]? = some (some (.own xs))) ∧ da env fun r env1 => ∃ v, r.get env1 = some v ∧ ∃ (k : Nat) (xs : List PyData) (d : PyData), toI v = some (k : Int) ∧ env1[i]? = some (some (.own xs)) ∧ xs.length ≤ 16777216 ∧ xs[k]? = some d ∧ Φ (.v (.d d)) (env1.set i (some (.own (xs.eraseIdx k))))
theorem own_slot {G : Gh} {F : AP1} {env : Env} {σ : L2.St} {H : Hp} (r : R G F env σ H) {xs : List PyData} (ei : env[i]? = some (some (.own xs))) {o : V} (so : σ[i]? = some (some o)) : ∃ a vs, o = .ref a ∧ H a = some (.lst vs) ∧ RepAll F H xs vs ∧ OwnS env σ a := by
  obtain ⟨o', so', rv⟩ := r.rep i _ ei
  rw [so] at so'; cases so'
  obtain ⟨a, vs, rfl, _, ha, rr⟩ := rv
  exact ⟨a, vs, rfl, ha, rr, i, _, ei, rfl, so⟩
theorem few1 {a : Expr} {cpos : Pos} {env : PySem.Env} (st : starEach [a] env = (false, eval a env) :: starEach [] env) :
    ((backTo cpos (starEach [a] env)).all (fun x => !x.1) && (backToKw cpos (keywordEach [] env)).all (fun x => x.1.isSome) && decide (([a] : List Expr).length + ([] : List Keyword).length + (if ([] : List Keyword).isEmpty then 0 else 1) < 30)) = true := by
  rw [st]
  rfl
theorem so_app (hv : SO C (.Name x px) (dVar i)) (ha : SO C a da) (st : ∀ env, starEach [a] env = (false, eval a env) :: starEach [] env) (hl : (apos.endLine == cpos.line) = true) : SO C (.Call (.Attribute (.Name x px) "append" apos) [a] [] cpos) (dApp i da) := by
  intro X fx G F env σ H Q Φ r h hQ
  refine w_of (pe_bm PySem.F.plainAttrs_list PySem.F.slot_list_append PySem.F.type_list_append mt_append pe_w (pa_cons pe_w pa_nil (st X.env)) rfl (few1 (st X.env)) hl (st X.env) rfl) ?_
  obtain ⟨⟨xs0, ex0⟩, h⟩ := h
  refine hv X fx G F env σ H _ (fun rr env' => rr = .s i ∧ env' = env) r ⟨⟨_, ex0⟩, rfl, rfl⟩ fun r1 env1 F1 H1 o e1 q1 h1 => ?_
  obtain ⟨rfl, rfl⟩ := h1
  have q1 : σ[i]? = some (some o) := q1
  obtain ⟨a0, vs0, rfl, ha0, _, _⟩ := own_slot e1.r ex0 q1
  refine ⟨.inl ⟨rfl, vs0, SqL.of ha0⟩, ?_⟩
  show wE X a σ H1 fun y H2 => rAppend _ [y] H2 Q
  refine ha X fx G F1 env1 σ H1 _ _ e1.r h fun r2 env2 F2 H2 y e2 q2 h2 => ?_
  obtain ⟨F3, env3, v, e3, g3, rv, no, d, xs, rfl, ei, hlen, h3⟩ := share e2 q2 h2
  obtain ⟨a1, vs1, ea, ha1, ra1, oa1⟩ := own_slot e3.r ei q1
  cases ea
  refine ⟨_, vs1, y, rfl, rfl, ha1, by rw [ra1.length, sizeLine_eq]; exact hlen, ?_⟩
  have e4 := e3.r.write ei q1 (ra1.append (.cons rv .nil))
  have e14 := (e1.trans e3).trans e4
  exact hQ (.v _) _ F3 _ _ e14 (Res.imm (by simp only [RepD])) h3
theorem so_ext (hv : SO C (.Name x px) (dVar i)) (ha : SO C a da) (st : ∀ env, starEach [a] env = (false, eval a env) :: starEach [] env) (hl : (apos.endLine == cpos.line) = true) : SO C (.Call (.Attribute (.Name x px) "extend" apos) [a] [] cpos) (dExt i da) := by
  intro X fx G F env σ H Q Φ r h hQ
  refine w_of (pe_bm PySem.F.plainAttrs_list PySem.F.slot_list_extend PySem.F.type_list_extend mt_extend pe_w (pa_cons pe_w pa_nil (st X.env)) rfl (few1 (st X.env)) hl (st X.env) rfl) ?_
  obtain ⟨⟨xs0, ex0⟩, h⟩ := h
  refine hv X fx G F env σ H _ (fun rr env' => rr = .s i ∧ env' = env) r ⟨⟨_, ex0⟩, rfl, rfl⟩ fun r1 env1 F1 H1 o e1 q1 h1 => ?_
  obtain ⟨rfl, rfl⟩ := h1
  have q1 : σ[i]? = some (some o) := q1
  obtain ⟨a0, vs0, rfl, ha0, _, _⟩ := own_slot e1.r ex0 q1
  refine ⟨.inl ⟨rfl, vs0, SqL.of ha0⟩, ?_⟩
  show wE X a σ H1 fun y H2 => rExtend _ [y] H2 Q
  refine ha X fx G F1 env1 σ H1 _ _ e1.r h fun r2 env2 F2 H2 y e2 q2 h2 => ?_
  obtain ⟨F3, env3, v, e3, g3, rv, no, ys, xs, rfl, ei, hlen, h3⟩ := share e2 q2 h2
  obtain ⟨a1, vs1, ea, ha1, ra1, oa1⟩ := own_slot e3.r ei q1
  cases ea
  have rv : RepD F3 H2 (.list ys) y := rv
  simp only [RepD] at rv
  obtain ⟨b, ws, rfl, fb, hb, rb⟩ := rv
  refine ⟨_, b, vs1, ws, rfl, rfl, ha1, hb, by rw [ra1.length, rb.length, sizeLine_eq]; exact hlen, ?_⟩
  have e4 := e3.r.write ei q1 (ra1.append rb)
  have e14 := (e1.trans e3).trans e4
  exact hQ (.v _) _ F3 _ _ e14 (Res.imm (by simp only [RepD])) h3
theorem so_pop (hv : SO C (.Name x px) (dVar i)) (hl : (apos.endLine == cpos.line) = true) : SO C (.Call (.Attribute (.Name x px) "pop" apos) [] [] cpos) (dPop i) := by
  intro X fx G F env σ H Q Φ r h hQ
  refine w_of (pe_bm0 PySem.F.plainAttrs_list PySem.F.slot_list_pop PySem.F.type_list_pop mt_pop pe_w rfl hl) ?_
  obtain ⟨xs, d, ei, h⟩ := h
  refine hv X fx G F env σ H _ (fun rr env' => rr = .s i ∧ env' = env) r ⟨⟨_, ei⟩, rfl, rfl⟩ fun r1 env1 F1 H1 o e1 q1 h1 => ?_
  obtain ⟨rfl, rfl⟩ := h1
  have q1 : σ[i]? = some (some o) := q1
  obtain ⟨a0, vs0, rfl, ha0, ra0, _⟩ := own_slot e1.r ei q1
  have gl : (xs ++ [d])[(xs ++ [d]).length - 1]? = some d := by simp
  obtain ⟨y, hy, ry⟩ := ra0.get gl
  refine ⟨.inl ⟨rfl, vs0, SqL.of ha0⟩, a0, vs0, y, rfl, rfl, ha0, by rw [ra0.length]; exact hy, ?_⟩
  have e4 := e1.r.write ei q1 (by have := ra0.dropLast; rwa [List.dropLast_concat] at this)
  exact hQ (.v _) _ F1 _ _ (e1.trans e4) (Res.imm (e4.repD e1.r ry)) h
theorem so_popAt (hv : SO C (.Name x px) (dVar i)) (ha : SO C a da) (st : ∀ env, starEach [a] env = (false, eval a env) :: starEach [] env) (hl : (apos.endLine == cpos.line) = true) : SO C (.Call (.Attribute (.Name x px) "pop" apos) [a] [] cpos) (dPopAt i da) := by
  intro X fx G F env σ H Q Φ r h hQ
  refine w_of (pe_bm PySem.F.plainAttrs_list PySem.F.slot_list_pop PySem.F.type_list_pop mt_popAt pe_w (pa_cons pe_w pa_nil (st X.env)) rfl (few1 (st X.env)) hl (st X.env) rfl) ?_
  obtain ⟨⟨xs0, ex0⟩, h⟩ := h
  refine hv X fx G F env σ H _ (fun rr env' => rr = .s i ∧ env' = env) r ⟨⟨_, ex0⟩, rfl, rfl⟩ fun r1 env1 F1 H1 o e1 q1 h1 => ?_
  obtain ⟨rfl, rfl⟩ := h1
  have q1 : σ[i]? = some (some o) := q1
  obtain ⟨a0, vs0, rfl, ha0, _, _⟩ := own_slot e1.r ex0 q1
  refine ⟨.inl ⟨rfl, vs0, SqL.of ha0⟩, ?_⟩
  show wE X a σ H1 fun y H2 => rPopAt _ [y] H2 Q
  refine ha X fx G F1 env1 σ H1 _ _ e1.r h fun r2 env2 F2 H2 y e2 q2 h2 => ?_
  obtain ⟨v, g, k, xs, d, hk, ei, hlen, hd, h2⟩ := h2
  obtain ⟨_, rfl⟩ := rep_I hk (q2.at e2.r g)
  obtain ⟨a1, vs1, ea, ha1, ra1, oa1⟩ := own_slot e2.r ei q1
  cases ea
  obtain ⟨y, hy, ry⟩ := ra1.get hd
  have hkl : k < xs.length := (List.getElem?_eq_some_iff.mp hd).1
  refine ⟨_, vs1, (k : Int), k, y, rfl, rfl, ha1, by omega, by omega, ?_, hy, ?_⟩
  · have e0 : ixN vs1.length (k : Int) = some k := by
      unfold ixN
      rw [ra1.length, if_pos (by omega), if_pos (by omega)]
      simp
    exact (ixN_seq e0).1
  · have e4 := e2.r.write ei q1 (ra1.eraseIdx k)
    have e14 := (e1.trans e2).trans e4
    exact hQ (.v _) _ F2 _ _ e14 (Res.imm (e4.repD e2.r ry)) h2
end
end Ev
set_option Elab.async false
set_option linter.all false
set_option maxRecDepth 100000
/-! Ev9: from the text of a def to its reading, with the proof that the reading is right. -/
namespace Ev
open PySem PySem.Spec PyProof.Rows L2

/-! ### what a piece of syntax is not -/
def isStar : Expr → Bool
  | .Starred .. => true
  | _ => false
theorem star_ok {e : Expr} (h : isStar e = false) (es : List Expr) : ∀ env, starEach (e :: es) env = (false, eval e env) :: starEach es env := by
  cases e <;> first | (intro env; rfl) | cases h
theorem noStars {es : List Expr} (h : es.all (fun e => !isStar e) = true) (pos : Pos) : ∀ env, (backTo pos (starEach es env)).any (·.1) = false := by
  intro env
  induction es with
  | nil => rfl
  | cons e es ih =>
    rw [List.all_cons, Bool.and_eq_true] at h
    rw [star_ok (by simpa using h.1)]
    show (false || (backTo pos (starEach es env)).any (·.1)) = false
    rw [ih h.2]
    rfl
def isSlice : Expr → Bool
  | .Slice .. => true
  | _ => false
theorem plain_ok {e : Expr} (h : isSlice e = false) : PlainIx e := by
  cases e <;> first | (intro _ _; rfl) | cases h
def isTest : Expr → Bool
  | .UnaryOp .. => true
  | .BoolOp .. => true
  | .IfExp .. => true
  | .Compare .. => true
  | _ => false
theorem test_ok {e : Expr} (h : isTest e = false) : ∀ env whole, isTrue e env whole = (do let v ← whole; standAt e.pos; holding [v] (truthy v)) := by
  cases e <;> first | (intro _ _; rfl) | cases h
def isComp : Expr → Bool
  | .ListComp .. => true
  | .SetComp .. => true
  | .DictComp .. => true
  | .Set .. => true
  | _ => false
theorem swap_ok {e : Expr} (h : isComp e = false) (t : Option Expr) (l : Nat) : ∀ env, swapsWith e t l env = pure false := by
  cases e <;> first | (intro _; rfl) | cases h
theorem fold_ok {e : Expr} (h : isComp e = false) : ∀ env x, foldedSetIterable e env x = pure x := by
  cases e <;> first | (intro _ _; rfl) | cases h
def isZeroCall : Expr → Bool
  | .Call _ [] [] _ => true
  | _ => false
theorem attr_ok {e : Expr} (h : isZeroCall e = false) (m : Str) : ∀ env, attributeBase e m env (eval e env) = eval e env := by
  intro env
  cases e with
  | Call f as ks p =>
    cases as with
    | nil => cases ks with
      | nil => cases h
      | cons k ks => unfold attributeBase; cases f <;> rfl
    | cons a as => unfold attributeBase; cases f <;> rfl
  | _ => rfl
/-- the swapped stores of a tuple of names -/
def locNames (sc : Scope) (ts : List Expr) : List Str := ts.filterMap fun
  | .Name id pos => if sc.names.lookup id == some .local && pos.line == ((ts.head?.map (·.pos.line)).getD 0) then some id else none
  | _ => none
theorem swp_none {sc : Scope} {ts vs : List Expr} {k k2 : Nat} {p p2 : Pos} (h : ((ts.length == 2 || ts.length == 3) && (locNames sc ts).length == ts.length) = false) : ∀ env, env.scope = sc → swappedStores [.Tuple ts k p] (.Tuple vs k2 p2) env = pure none := by
  intro env he
  unfold swappedStores
  simp only [pure_bind]
  have e1 : ∀ id, env.kindOf id = sc.names.lookup id := fun id => by rw [← he]; rfl
  split
  · rfl
  · rename_i h1
    split
    · rfl
    · split
      · rfl
      · rename_i h3
        exfalso
        simp only [e1] at h3
        simp only [Bool.or_eq_true, not_or, Bool.not_eq_true', Bool.not_eq_true, Bool.or_eq_false_iff, bne_eq_false_iff_eq] at h1 h3
        have a1 : (ts.length == 2 || ts.length == 3) = true := by
          have := h1.1.1
          rw [Bool.or_eq_true]
          by_cases q : ts.length = 2
          · exact .inl (by simp [q])
          · exact .inr (by simpa [q] using this)
        have a2 : (locNames sc ts).length = ts.length := h3.1
        rw [a1, a2] at h
        simp at h
theorem swp_some2 {sc : Scope} {x y : Str} {px py p p2 : Pos} {k k2 : Nat} {a b : Expr} (hx : sc.names.lookup x = some .local) (hy : sc.names.lookup y = some .local) (hl : px.line = py.line) (hne : x ≠ y) (ha : isStar a = false) (hb : isStar b = false)
    (hf : ([a, b].all (foldedForSure 8)) = false) (hc : ([a, b].all (constantsAlone 8)) = false) : ∀ env, env.scope = sc → env.scope.kind = .function → swappedStores [.Tuple [.Name x px, .Name y py] k p] (.Tuple [a, b] k2 p2) env = pure (some [x, y]) := by
  intro env he hk
  have e1 : ∀ id, env.kindOf id = sc.names.lookup id := fun id => by rw [← he]; rfl
  have bk : env.blockKind = .function := by unfold Env.blockKind; rw [hk]; rfl
  unfold swappedStores
  simp only [pure_bind, bk]
  have nd : ([x, y] : List Str).eraseDups.length = 2 := by
    have : (y == x) = false := by simpa using fun z => hne z.symm
    simp [List.eraseDups, List.eraseDupsBy, List.eraseDupsBy.loop, this]
  simp [e1, hx, hy, hl, Expr.pos, nd, hf, hc]
  intro h
  exfalso
  (repeat' rcases h with h | h) <;> (split at h <;> simp_all [isStar])
theorem swp_some3 {sc : Scope} {x y z : Str} {px py pz p p2 : Pos} {k k2 : Nat} {a b c : Expr} (hx : sc.names.lookup x = some .local) (hy : sc.names.lookup y = some .local) (hz : sc.names.lookup z = some .local) (hl : px.line = py.line) (hl2 : px.line = pz.line) (hne : x ≠ y) (hne2 : x ≠ z) (hne3 : y ≠ z) (ha : isStar a = false) (hb : isStar b = false) (hc' : isStar c = false)
    (hf : ([a, b, c].all (foldedForSure 8)) = false) (hc : ([a, b, c].all (constantsAlone 8)) = false) : ∀ env, env.scope = sc → env.scope.kind = .function → swappedStores [.Tuple [.Name x px, .Name y py, .Name z pz] k p] (.Tuple [a, b, c] k2 p2) env = pure (some [x, y, z]) := by
  intro env he hk
  have e1 : ∀ id, env.kindOf id = sc.names.lookup id := fun id => by rw [← he]; rfl
  have bk : env.blockKind = .function := by unfold Env.blockKind; rw [hk]; rfl
  unfold swappedStores
  simp only [pure_bind, bk]
  have nd : ([x, y, z] : List Str).eraseDups.length = 3 := by
    have e1 : (y == x) = false := by simpa using fun z => hne z.symm
    have e2 : (z == x) = false := by simpa using fun z => hne2 z.symm
    have e3 : (z == y) = false := by simpa using fun z => hne3 z.symm
    simp [List.eraseDups, List.eraseDupsBy, List.eraseDupsBy.loop, e1, e2, e3]
  have l2 : (pz.line == py.line) = true := by rw [← hl, ← hl2]; simp
  have l3 : (py.line == px.line) = true := by rw [hl]; simp
  have l4 : (pz.line == px.line) = true := by rw [hl2]; simp
  have l5 : py.line = px.line := hl.symm
  have l6 : pz.line = px.line := hl2.symm
  simp [List.filterMap, e1, hx, hy, hz, Expr.pos, nd, hf, hc, l5, l6]
  intro h
  exfalso
  (repeat' rcases h with h | h) <;> (split at h <;> first | (cases h; done) | (cases ha; done) | (cases hb; done) | (cases hc'; done))
def isTupleE : Expr → Bool
  | .Tuple .. => true
  | _ => false
theorem swp_no {a tg : Expr} (h : isTupleE a = false) : ∀ env, swappedStores [tg] a env = pure none := by
  intro env
  cases a <;> first | (cases tg <;> rfl) | cases h
end Ev
set_option Elab.async false
set_option linter.all false
set_option maxRecDepth 100000
/-! Ev10: the reader of texts. -/
namespace Ev
open PySem PySem.Spec PyProof.Rows L2

structure CO (C : SC) (e : Expr) where
  d : DO
  ok : SO C e d
structure CT (C : SC) (e : Expr) where
  d : DB
  ok : STe C e d
structure CW (C : SC) (e : Expr) where
  d : DB
  ok : SW C e d
structure CA (C : SC) (es : List Expr) where
  d : DA
  ok : SA C es d
structure CP (C : SC) (e : Option Expr) where
  d : DP
  ok : SP' C e d
structure CI (C : SC) (tg iter : Expr) where
  d : DI
  ok : SI C tg iter d
structure CN (C : SC) (tg : Expr) where
  sl : List Nat
  d : DT
  ok : SGn C tg sl d
structure CNs (C : SC) (tg : List Expr) where
  sl : List Nat
  d : DTs
  ok : SGns C tg sl d
structure CG (C : SC) (tg : Expr) where
  d : DT
  ok : SG C tg d
structure CGs (C : SC) (tg : List Expr) where
  d : DTs
  ok : SGs C tg d
structure CS (C : SC) (st : Stmt) where
  d : DS
  ok : SS C st d
structure CB (C : SC) (st : List Stmt) where
  d : DS
  ok : SB C st d

def findIx : (N : List Str) → (x : Str) → Option { i : Nat // N[i]? = some x }
  | [], _ => none
  | y :: N, x => if h : y = x then some ⟨0, by simp [h]⟩ else match findIx N x with
    | some ⟨i, hi⟩ => some ⟨i + 1, by simpa using hi⟩
    | none => none
def findFn : (l : List FnS) → (x : Str) → Option { f : FnS // f ∈ l ∧ f.name = x }
  | [], _ => none
  | f :: l, x => if h : f.name = x then some ⟨f, by simp, h⟩ else match findFn l x with
    | some ⟨g, hg, e⟩ => some ⟨g, List.mem_cons_of_mem _ hg, e⟩
    | none => none
def findGl : (l : List (Str × Int)) → (x : Str) → Option { n : Int // (x, n) ∈ l }
  | [], _ => none
  | p :: l, x => if h : p.1 = x then some ⟨p.2, by rw [← h]; simp⟩ else match findGl l x with
    | some ⟨n, hn⟩ => some ⟨n, List.mem_cons_of_mem _ hn⟩
    | none => none
def visB (sc : Scope) (x : Str) : Bool := match sc.names.lookup x with
  | some .local => true
  | some .cell => true
  | some .free => true
  | _ => false
theorem vis_ok {sc : Scope} {x : Str} (h : visB sc x = true) : Vis sc x := by
  unfold visB at h
  split at h
  · exact .inl (by assumption)
  · exact .inr (.inl (by assumption))
  · exact .inr (.inr (by assumption))
  · cases h
def locB (C : SC) (x : Str) : Bool := match C.sc.names.lookup x with
  | some .local => true
  | some .cell => decide (x ∈ C.own)
  | _ => false
theorem loc_ok {C : SC} {x : Str} (h : locB C x = true) : LocC C x := by
  unfold locB at h
  split at h
  · exact ⟨.inl (by assumption), .inl (by assumption)⟩
  · exact ⟨.inr (by assumption), .inr (of_decide_eq_true h)⟩
  · cases h

/-! ### built-ins of one argument -/
def bO (x : Str) : Option Und :=
  if x = "len" then some oLen else if x = "sum" then some oSum else if x = "abs" then some oAbs else if x = "any" then some oAny else if x = "all" then some oAll else if x = "sorted" then some oSorted else if x = "min" then some oMin else if x = "max" then some oMax else
  if x = "tuple" then some oTuple else if x = "list" then some oList else if x = "int" then some oInt else none
structure BFact (x : Str) (o : Und) : Prop where
  mem : x ∈ bltNames
  v : (∃ id, bootBuiltins x = some (.builtin id) ∧ CalS (.builtin id) o) ∨ ∃ T, bootBuiltins x = some (.type T) ∧ CalS (.type T) o
  n : x ≠ "__name__"
  db : (x == ("__debug__" : Str)) = false
theorem bf_len : BFact "len" oLen := ⟨by decide +kernel, .inl ⟨_, by decide +kernel, cs_len⟩, by decide +kernel, by decide +kernel⟩
theorem bf_sum : BFact "sum" oSum := ⟨by decide +kernel, .inl ⟨_, by decide +kernel, cs_sum⟩, by decide +kernel, by decide +kernel⟩
theorem bf_abs : BFact "abs" oAbs := ⟨by decide +kernel, .inl ⟨_, by decide +kernel, cs_abs⟩, by decide +kernel, by decide +kernel⟩
theorem bf_any : BFact "any" oAny := ⟨by decide +kernel, .inl ⟨_, by decide +kernel, cs_any⟩, by decide +kernel, by decide +kernel⟩
theorem bf_all : BFact "all" oAll := ⟨by decide +kernel, .inl ⟨_, by decide +kernel, cs_all⟩, by decide +kernel, by decide +kernel⟩
theorem bf_sorted : BFact "sorted" oSorted := ⟨by decide +kernel, .inl ⟨_, by decide +kernel, cs_sorted⟩, by decide +kernel, by decide +kernel⟩
theorem bf_min : BFact "min" oMin := ⟨by decide +kernel, .inl ⟨_, by decide +kernel, cs_min⟩, by decide +kernel, by decide +kernel⟩
theorem bf_max : BFact "max" oMax := ⟨by decide +kernel, .inl ⟨_, by decide +kernel, cs_max⟩, by decide +kernel, by decide +kernel⟩
theorem bf_tuple : BFact "tuple" oTuple := ⟨by decide +kernel, .inr ⟨_, by decide +kernel, cs_tuple⟩, by decide +kernel, by decide +kernel⟩
theorem bf_list : BFact "list" oList := ⟨by decide +kernel, .inr ⟨_, by decide +kernel, cs_list⟩, by decide +kernel, by decide +kernel⟩
theorem bf_int : BFact "int" oInt := ⟨by decide +kernel, .inr ⟨_, by decide +kernel, cs_int⟩, by decide +kernel, by decide +kernel⟩
theorem bf_ok {x : Str} {o : Und} (h : bO x = some o) : BFact x o := by
  unfold bO at h
  repeat' (first | (split at h; (rename_i e; subst e; cases h; first | exact bf_len | exact bf_sum | exact bf_abs | exact bf_any | exact bf_all | exact bf_sorted | exact bf_min | exact bf_max | exact bf_tuple | exact bf_list | exact bf_int)) | cases h)
theorem bO_ok {x : Str} {o : Und} (h : bO x = some o) {C : SC} {a : Expr} {da : DO} {pos p : Pos} (hg : C.sc.names.lookup x = some .globalImplicit) (ha : SO C a da) (st : ∀ env, starEach [a] env = (false, eval a env) :: starEach [] env) :
    SO C (.Call (.Name x p) [a] [] pos) (dUn o da) := by
  have f := bf_ok h
  rcases f.v with ⟨id, h1, h2⟩ | ⟨T, h1, h2⟩
  · exact so_blt1 f.mem h1 hg h2 ha f.n f.db st
  · exact so_ty1 f.mem h1 hg h2 ha f.n f.db st
def bO2 (x : Str) : Option Opd := if x = "max" then some oMax2 else if x = "min" then some oMin2 else none
theorem bO2_ok {x : Str} {o : Opd} (h : bO2 x = some o) {C : SC} {a b : Expr} {da db : DO} {pos p : Pos} (hg : C.sc.names.lookup x = some .globalImplicit) (ha : SO C a da) (hb : SO C b db)
    (st : ∀ env, starEach [a, b] env = (false, eval a env) :: starEach [b] env) (st2 : ∀ env, starEach [b] env = (false, eval b env) :: starEach [] env) (hpl : ∀ env, (backTo pos (starEach [b] env)).any (·.1) = false) :
    SO C (.Call (.Name x p) [a, b] [] pos) (dBin o da db) := by
  unfold bO2 at h
  split at h
  · rename_i e; subst e; cases h; exact so_blt2 (by decide) (by decide +kernel) hg cs_max2 ha hb (by decide) (by decide) st st2 hpl
  split at h
  · rename_i e; subst e; cases h; exact so_blt2 (by decide) (by decide +kernel) hg cs_min2 ha hb (by decide) (by decide) st st2 hpl
  · cases h
def isiT (x : Str) : Option String := if x = "int" then some "int" else if x = "bool" then some "bool" else if x = "str" then some "str" else if x = "tuple" then some "tuple" else if x = "list" then some "list" else none
theorem isi_ok {x : Str} {T : String} (h : isiT x = some T) {C : SC} {a : Expr} {da : DO} {pos p p2 : Pos} (hg : C.sc.names.lookup ("isinstance" : Str) = some .globalImplicit) (hg2 : C.sc.names.lookup x = some .globalImplicit) (ha : SO C a da)
    (st : ∀ env, starEach [a, .Name x p2] env = (false, eval a env) :: starEach [.Name x p2] env) : SO C (.Call (.Name "isinstance" p) [a, .Name x p2] [] pos) (dUn (oIsi T) da) := by
  unfold isiT at h
  split at h
  · rename_i e; subst e; cases h; exact so_isi (by decide) (by decide) (by decide +kernel) (by decide) (by decide) hg hg2 ha st
  split at h
  · rename_i e; subst e; cases h; exact so_isi (by decide) (by decide) (by decide +kernel) (by decide) (by decide) hg hg2 ha st
  split at h
  · rename_i e; subst e; cases h; exact so_isi (by decide) (by decide) (by decide +kernel) (by decide) (by decide) hg hg2 ha st
  split at h
  · rename_i e; subst e; cases h; exact so_isi (by decide) (by decide) (by decide +kernel) (by decide) (by decide) hg hg2 ha st
  split at h
  · rename_i e; subst e; cases h; exact so_isi (by decide) (by decide) (by decide +kernel) (by decide) (by decide) hg hg2 ha st
  · cases h

/-! ### targets of names -/
def coName (C : SC) (x : Str) (pos : Pos) : Option (CO C (.Name x pos)) :=
  if h1 : visB C.sc x = true then match findIx C.N x with
    | some ⟨i, hi⟩ => if h2 : (x == ("__debug__" : Str)) = false then if h3 : (x == ("__classdict__" : Str)) = false then some ⟨dVar i, so_var hi (vis_ok h1) h2 h3⟩ else none else none
    | none => none
  else if h1 : C.sc.names.lookup x = some .globalImplicit then match findGl C.glb x with
    | some ⟨n, hn⟩ => if h2 : (x == ("__debug__" : Str)) = false then some ⟨dC (.int n), so_glb h1 hn h2⟩ else none
    | none => none
  else none
theorem asg_ok {e : Expr} (h : isStar e = false) (es : List Expr) : ∀ env, (assignEach (e :: es) env).map (·.2) = assign e env :: (assignEach es env).map (·.2) := by
  cases e <;> first | (intro env; rfl) | cases h
theorem asg_len (es : List Expr) : ∀ env, (assignEach es env).length = es.length := by
  intro env
  induction es with
  | nil => rfl
  | cons e es ih =>
    cases e <;> (show (assignEach es env).length + 1 = es.length + 1; rw [ih])
theorem asg_star {es : List Expr} (h : es.all (fun e => !isStar e) = true) : ∀ env, (assignEach es env).findIdx? (·.1) = none := by
  intro env
  induction es with
  | nil => rfl
  | cons e es ih =>
    rw [List.all_cons, Bool.and_eq_true] at h
    have q : assignEach (e :: es) env = (false, assign e env) :: assignEach es env := by
      cases e <;> first | rfl | (have := h.1; cases this)
    rw [q, List.findIdx?_cons]
    simp [ih h.2]
mutual
def coN : Nat → (C : SC) → (tg : Expr) → Option (CN C tg)
  | 0, _, _ => none
  | n + 1, C, .Name x pos => match findIx C.N x with
    | some ⟨i, hi⟩ => if h : locB C x = true then some ⟨[i], tName i, sgn_name hi (loc_ok h)⟩ else none
    | none => none
  | n + 1, C, .Tuple es k pos => match coNs n C es with
    | some ⟨sl, d, ok⟩ => if h : es.all (fun e => !isStar e) = true then some ⟨sl, tTup es.length d, sgn_tup ok (asg_len es) (asg_star h)⟩ else none
    | none => none
  | _ + 1, _, _ => none
def coNs : Nat → (C : SC) → (ts : List Expr) → Option (CNs C ts)
  | 0, _, _ => none
  | n + 1, C, [] => some ⟨[], tNil, sgns_nil⟩
  | n + 1, C, e :: es => match coN n C e, coNs n C es with
    | some a, some b => if h : isStar e = false then some ⟨a.sl ++ b.sl, tCons a.d b.d, sgns_cons a.ok b.ok (asg_ok h es)⟩ else none
    | _, _ => none
end
/-- the names of a target -/
def tgNames : Nat → Expr → List Str
  | 0, _ => []
  | n + 1, .Name x _ => [x]
  | n + 1, .Tuple es _ _ => (es.map (tgNames n)).flatten
  | _ + 1, _ => []
def ownOf (N : List Str) (xs : List Str) : List (Str × Nat) := xs.filterMap fun x => match findIx N x with
  | some ⟨i, _⟩ => some (x, i)
  | none => none

/-! ### expressions -/
mutual
def coE : Nat → (C : SC) → (e : Expr) → Option (CO C e)
  | 0, _, _ => none
  | n + 1, C, .Name x pos => coName C x pos
  | n + 1, C, .Constant (.int i) j pos => some ⟨dC (.int i), so_int⟩
  | n + 1, C, .Constant (.bool b) j pos => some ⟨dC (.bool b), so_bool⟩
  | n + 1, C, .Constant .none j pos => some ⟨dC .none, so_none⟩
  | n + 1, C, .Constant (.str s) j pos => some ⟨dC (.str s), so_str⟩
  | n + 1, C, .BinOp a op b pos => match opOf op, coE n C a, coE n C b with
    | some o, some x, some y => some ⟨dBin o.1 x.d y.d, so_bin o.2 x.ok y.ok⟩
    | _, _, _ => none
  | n + 1, C, .UnaryOp .USub a pos => match coE n C a with
    | some x => some ⟨dUn oNeg x.d, so_neg x.ok⟩
    | none => none
  | n + 1, C, .UnaryOp .Not a pos => match coE n C a with
    | some x => some ⟨dNotV x.d, so_not x.ok⟩
    | none => none
  | n + 1, C, .BoolOp op vs pos => coV n C op vs pos
  | n + 1, C, .Compare a [op] [b] pos => match cmpOf op, coE n C a, coE n C b with
    | some o, some x, some y => if h : behindInMarks op b = false then some ⟨dBin o.1 x.d y.d, so_cmp o.2 x.ok y.ok h⟩ else none
    | _, _, _ => none
  | n + 1, C, .Compare a [op, op2] [b, c] pos => match cmpOf op, cmpOf op2, coE n C a, coE n C b, coE n C c with
    | some o, some o2, some x, some y, some z => if h : lastMarks [op, op2] [b, c] = false then some ⟨dChain o.1 o2.1 x.d y.d z.d, so_chain o.2 o2.2 x.ok y.ok z.ok h⟩ else none
    | _, _, _, _, _ => none
  | n + 1, C, .IfExp c a b pos => match coT n C c, coE n C a, coE n C b with
    | some t, some x, some y => some ⟨dIf t.d x.d y.d, so_if t.ok x.ok y.ok⟩
    | _, _, _ => none
  | n + 1, C, .Tuple es k pos => match coA n C es with
    | some x => some ⟨dTup x.d, so_tup x.ok⟩
    | none => none
  | n + 1, C, .List es pos => match coA n C es with
    | some x => some ⟨dLst x.d, so_lst x.ok⟩
    | none => none
  | n + 1, C, .Subscript a (.Slice none none (some (.UnaryOp .USub (.Constant (.int 1) k p1) p3)) p4) pos => match coE n C a with
    | some x => some ⟨dUn oRev x.d, so_revL x.ok⟩
    | none => none
  | n + 1, C, .Subscript a (.Slice lo hi none p2) pos => match coE n C a, coP n C lo, coP n C hi with
    | some x, some l, some h => some ⟨dSl x.d l.d h.d, so_sl x.ok l.ok h.ok⟩
    | _, _, _ => none
  | n + 1, C, .Subscript a b pos => match coE n C a, coE n C b with
    | some x, some y => if h : isSlice b = false then some ⟨dBin oIxS x.d y.d, so_ix x.ok y.ok (plain_ok h)⟩ else none
    | _, _ => none
  | n + 1, C, .Call (.Name x p) as [] pos => coC n C x p as pos
  | n + 1, C, .Call (.Attribute o m apos) as [] pos => coM n C o m apos as pos
  | n + 1, C, .ListComp elt [⟨tg, iter, ifs, 0⟩] scope pos =>
    if h0 : blkC C.N C.sc scope (ownOf C.N (tgNames 9 tg)) = true then
      match coI n C tg iter, coN 9 (blkSC C scope) tg, coE n (blkSC C scope) elt with
      | some i, some t, some e => if h1 : (∀ j ∈ t.sl, j ∈ (ownOf C.N (tgNames 9 tg)).map (·.2)) then if h2 : isComp iter = false then
          match ifs with
          | [] => some ⟨dLc ((ownOf C.N (tgNames 9 tg)).map (·.2)) i.d t.d dYes e.d, so_lc (blkOk_by h0) i.ok t.ok h1 sts_nil e.ok (fold_ok h2)⟩
          | [c] => match coT n (blkSC C scope) c with
            | some q => some ⟨dLc ((ownOf C.N (tgNames 9 tg)).map (·.2)) i.d t.d q.d e.d, so_lc (blkOk_by h0) i.ok t.ok h1 (sts_one q.ok) e.ok (fold_ok h2)⟩
            | none => none
          | _ => none
          else none else none
      | _, _, _ => none
    else none
  | _ + 1, _, _ => none
def coP : Nat → (C : SC) → (e : Option Expr) → Option (CP C e)
  | 0, _, _ => none
  | n + 1, C, none => some ⟨dNoP, sp_none⟩
  | n + 1, C, some e => match coE n C e with
    | some x => some ⟨dSomeP x.d, sp_some x.ok⟩
    | none => none
def coA : Nat → (C : SC) → (es : List Expr) → Option (CA C es)
  | 0, _, _ => none
  | n + 1, C, [] => some ⟨dNil, sa_nil⟩
  | n + 1, C, e :: es => match coE n C e, coA n C es with
    | some x, some y => if h : isStar e = false then some ⟨dCons x.d y.d, sa_cons x.ok y.ok (star_ok h es)⟩ else none
    | _, _ => none
def coV : Nat → (C : SC) → (op : BoolOp) → (vs : List Expr) → (pos : Pos) → Option (CO C (.BoolOp op vs pos))
  | 0, _, _, _, _ => none
  | n + 1, C, op, [a], pos => match coE n C a with
    | some x => some ⟨x.d, so_bo1 x.ok⟩
    | none => none
  | n + 1, C, .And, a :: b :: r, pos => match coE n C a, coV n C .And (b :: r) pos with
    | some x, some y => some ⟨dAndV x.d y.d, so_and x.ok y.ok⟩
    | _, _ => none
  | n + 1, C, .Or, a :: b :: r, pos => match coE n C a, coV n C .Or (b :: r) pos with
    | some x, some y => some ⟨dOrV x.d y.d, so_or x.ok y.ok⟩
    | _, _ => none
  | _ + 1, _, _, [], _ => none
def coW : Nat → (C : SC) → (op : BoolOp) → (vs : List Expr) → (pos : Pos) → Option (CW C (.BoolOp op vs pos))
  | 0, _, _, _, _ => none
  | n + 1, C, .And, [a], pos => match coT n C a with
    | some x => some ⟨x.d, sw_and1 x.ok⟩
    | none => none
  | n + 1, C, .Or, [a], pos => match coT n C a with
    | some x => some ⟨x.d, sw_or1 x.ok⟩
    | none => none
  | n + 1, C, .And, a :: b :: r, pos => match coT n C a, coW n C .And (b :: r) pos with
    | some x, some y => some ⟨dAndT x.d y.d, sw_and x.ok y.ok⟩
    | _, _ => none
  | n + 1, C, .Or, a :: b :: r, pos => match coT n C a, coW n C .Or (b :: r) pos with
    | some x, some y => some ⟨dOrT x.d y.d, sw_or x.ok y.ok⟩
    | _, _ => none
  | _ + 1, _, _, [], _ => none
def coT : Nat → (C : SC) → (e : Expr) → Option (CT C e)
  | 0, _, _ => none
  | n + 1, C, .UnaryOp .Not a pos => match coT n C a with
    | some x => some ⟨dNotT x.d, st_not x.ok⟩
    | none => none
  | n + 1, C, .BoolOp op vs pos => match coW n C op vs pos with
    | some x => some ⟨x.d, st_w x.ok⟩
    | none => none
  | n + 1, C, .Compare a [op] [b] pos => match cmpOf op, coE n C a, coE n C b with
    | some o, some x, some y => if h : behindInMarks op b = false then some ⟨dTst (dBin o.1 x.d y.d), st_cmp o.2 x.ok y.ok h⟩ else none
    | _, _, _ => none
  | n + 1, C, .Compare a [op, op2] [b, c] pos => match cmpOf op, cmpOf op2, coE n C a, coE n C b, coE n C c with
    | some o, some o2, some x, some y, some z => if h : lastMarks [op, op2] [b, c] = false then some ⟨dTst (dChain o.1 o2.1 x.d y.d z.d), st_chain o.2 o2.2 x.ok y.ok z.ok h⟩ else none
    | _, _, _, _, _ => none
  | n + 1, C, e => if h : isTest e = false then match coE n C e with
    | some x => some ⟨dTru x.d, st_tru x.ok (test_ok h)⟩
    | none => none
    else none
def coC : Nat → (C : SC) → (x : Str) → (p : Pos) → (as : List Expr) → (pos : Pos) → Option (CO C (.Call (.Name x p) as [] pos))
  | 0, _, _, _, _, _ => none
  | n + 1, C, x, p, as, pos => if hg : C.sc.names.lookup x = some .globalImplicit then
    match findFn C.fns x with
    | some ⟨f, hf, hx⟩ => match as with
      | e :: es => match coA n C (e :: es) with
        | some y => if h1 : isStar e = false then if h2 : es.all (fun e => !isStar e) = true then if h3 : (f.name == ("__debug__" : Str)) = false then
            some ⟨dCall f.ps.length f.sp y.d, hx ▸ so_call hf (hx.symm ▸ hg) y.ok h3 (star_ok h1 es) (noStars h2 pos)⟩ else none else none else none
        | none => none
      | [] => none
    | none => match as with
      | [a] => match a with
        | .Call (.Name y p2) [b] [] pos2 => if hl : x = "list" ∧ y = "range" then if hg2 : C.sc.names.lookup y = some .globalImplicit then match coE n C b with
            | some z => if hs : isStar b = false then some ⟨dListR1 z.d, by obtain ⟨rfl, rfl⟩ := hl; exact so_listR1 hg hg2 z.ok (star_ok hs [])⟩ else none
            | none => none
            else none
          else match hb : bO x with
            | some o => match coE n C (.Call (.Name y p2) [b] [] pos2) with
              | some z => some ⟨dUn o z.d, bO_ok hb hg z.ok (star_ok rfl [])⟩
              | none => none
            | none => none
        | a => if hr : x = "repr" ∧ C.grd = true then match coE n C a with
            | some z => if hs : isStar a = false then some ⟨dUn oRepr z.d, by obtain ⟨rfl, hr⟩ := hr; exact so_repr hr hg z.ok (star_ok hs [])⟩ else none
            | none => none
          else match hb : bO x with
            | some o => match coE n C a with
              | some z => if hs : isStar a = false then some ⟨dUn o z.d, bO_ok hb hg z.ok (star_ok hs [])⟩ else none
              | none => none
            | none => none
      | [a, b] => if hi : x = "isinstance" then match b with
          | .Name y p2 => match ht : isiT y with
            | some T => if hg2 : C.sc.names.lookup y = some .globalImplicit then match coE n C a with
              | some z => if hs : isStar a = false then some ⟨dUn (oIsi T) z.d, by subst hi; exact isi_ok ht hg hg2 z.ok (star_ok hs _)⟩ else none
              | none => none
              else none
            | none => none
          | _ => none
        else match hb : bO2 x with
          | some o => match coE n C a, coE n C b with
            | some y, some z => if h1 : isStar a = false then if h2 : isStar b = false then some ⟨dBin o y.d z.d, bO2_ok hb hg y.ok z.ok (star_ok h1 _) (star_ok h2 _) (noStars (by simp [h2]) pos)⟩ else none else none
            | _, _ => none
          | none => none
      | _ => none
    else none
def coM : Nat → (C : SC) → (o : Expr) → (m : Str) → (apos : Pos) → (as : List Expr) → (pos : Pos) → Option (CO C (.Call (.Attribute o m apos) as [] pos))
  | 0, _, _, _, _, _, _ => none
  | n + 1, C, .Name y px, m, apos, as, pos => match findIx C.N y with
    | some ⟨i, hi⟩ => if hv : visB C.sc y = true then if h2 : (y == ("__debug__" : Str)) = false then if h3 : (y == ("__classdict__" : Str)) = false then if hl : (apos.endLine == pos.line) = true then
      match as with
      | [a] => match coE n C a with
        | some z => if hs : isStar a = false then
            if hm : m = "append" then some ⟨dApp i z.d, by subst hm; exact so_app (so_var hi (vis_ok hv) h2 h3) z.ok (star_ok hs []) hl⟩ else
            if hm : m = "extend" then some ⟨dExt i z.d, by subst hm; exact so_ext (so_var hi (vis_ok hv) h2 h3) z.ok (star_ok hs []) hl⟩ else
            if hm : m = "pop" then some ⟨dPopAt i z.d, by subst hm; exact so_popAt (so_var hi (vis_ok hv) h2 h3) z.ok (star_ok hs []) hl⟩ else none
          else none
        | none => none
      | [] => if hm : m = "pop" then some ⟨dPop i, by subst hm; exact so_pop (so_var hi (vis_ok hv) h2 h3) hl⟩ else
        if hm : m = "bit_length" then some ⟨dUn oBits (dVar i), by subst hm; exact so_bits (so_var hi (vis_ok hv) h2 h3) (attr_ok rfl _) hl⟩ else none
      | _ => none
      else none else none else none else none
    | none => none
  | n + 1, C, o, m, apos, as, pos => if hm : m = "bit_length" ∧ as = [] then match coE n C o with
      | some z => if h1 : isZeroCall o = false then if hl : (apos.endLine == pos.line) = true then some ⟨dUn oBits z.d, by obtain ⟨rfl, rfl⟩ := hm; exact so_bits z.ok (attr_ok h1 _) hl⟩ else none else none
      | none => none
    else none
def coI : Nat → (C : SC) → (tg iter : Expr) → Option (CI C tg iter)
  | 0, _, _, _ => none
  | n + 1, C, tg, .Call (.Name x p) as [] pos => if hg : C.sc.names.lookup x = some .globalImplicit then
    if hr : x = "range" then match coA n C as with
      | some y => if hs : as.all (fun e => !isStar e) = true then match as with
        | [a] => some ⟨dRng1 y.d, by subst hr; exact si_rng1 hg y.ok (star_ok (by simpa using hs) [])⟩
        | [a, b] => some ⟨dRng2 y.d, by subst hr; simp at hs; exact si_rng2 hg y.ok (fun env => by rw [star_ok hs.1, star_ok hs.2]; rfl) (star_ok hs.2 [])⟩
        | [a, b, c] => some ⟨dRng3 y.d, by subst hr; simp at hs; exact si_rng3 hg y.ok (star_ok hs.1 _) (noStars (by simp [hs]) pos)⟩
        | _ => none
        else none
      | none => none
    else if he : x = "enumerate" then match tg, as with
      | .Tuple es k tp, [a] => match coA n C [a] with
        | some y => if hs : isStar a = false then some ⟨dEnum y.d, by subst he; exact si_enum hg y.ok (star_ok hs [])⟩ else none
        | none => none
      | _, _ => none
    else if hz : x = "zip" then match tg, as with
      | .Tuple es k tp, [a, b] => match coA n C [a, b] with
        | some y => if h1 : isStar a = false then if h2 : isStar b = false then some ⟨dZip y.d, by subst hz; exact si_zip hg y.ok (star_ok h1 _) (noStars (by simp [h2]) pos)⟩ else none else none
        | none => none
      | _, _ => none
    else match coE n C (.Call (.Name x p) as [] pos) with
      | some y => some ⟨dSeqI y.d, si_seq y.ok⟩
      | none => none
    else none
  | n + 1, C, tg, e => match coE n C e with
    | some y => some ⟨dSeqI y.d, si_seq y.ok⟩
    | none => none
end

/-! ### targets, statements -/
theorem assign_ix {x : Str} {p pos : Pos} {b : Expr} (h : isSlice b = false) : ∀ env v, assign (.Subscript (.Name x p) b pos) env v = (do
      let ov ← holding [v] (eval (.Name x p) env)
      let iv ← holding [v, ov] (eval b env)
      standAt pos
      holding [v, ov, iv] (setItem ov iv v)
      release [v, ov, iv] []) := by
  intro env v
  cases b <;> first | rfl | cases h
mutual
def coG : Nat → (C : SC) → (tg : Expr) → Option (CG C tg)
  | 0, _, _ => none
  | n + 1, C, .Name x pos => match findIx C.N x with
    | some ⟨i, hi⟩ => if h : locB C x = true then some ⟨tName i, sg_name hi (loc_ok h)⟩ else none
    | none => none
  | n + 1, C, .Tuple es k pos => match coGs n C es with
    | some y => if h : es.all (fun e => !isStar e) = true then some ⟨tTup es.length y.d, sg_tup y.ok (asg_len es) (asg_star h)⟩ else none
    | none => none
  | n + 1, C, .Subscript (.Name x p) b pos => match findIx C.N x with
    | some ⟨i, hi⟩ => if hv : visB C.sc x = true then if h2 : (x == ("__debug__" : Str)) = false then if h3 : (x == ("__classdict__" : Str)) = false then match coE 60 C b with
      | some y => if hb : isSlice b = false then some ⟨tSub i y.d, sg_sub (so_var hi (vis_ok hv) h2 h3) y.ok (assign_ix hb)⟩ else none
      | none => none
      else none else none else none
    | none => none
  | _ + 1, _, _ => none
def coGs : Nat → (C : SC) → (ts : List Expr) → Option (CGs C ts)
  | 0, _, _ => none
  | n + 1, C, [] => some ⟨tNil, sgs_nil⟩
  | n + 1, C, e :: es => match coG n C e, coGs n C es with
    | some a, some b => if h : isStar e = false then some ⟨tCons a.d b.d, sgs_cons a.ok b.ok (asg_ok h es)⟩ else none
    | _, _ => none
end
theorem sole_ok {a tg : Expr} {l : Nat} (h : isComp a = false) : ∀ env, swapsWithSole [tg] a l env = pure false := fun env => swap_ok h (some tg) l env
theorem sole_tup {a : Expr} {ts : List Expr} {k : Nat} {p : Pos} {l : Nat} : ∀ env, swapsWithSole [.Tuple ts k p] a l env = pure false := fun env => by
  cases a <;> rfl
theorem one_asg {tg : Expr} (h : isStar tg = false) : ∀ env, (assignEach [tg] env).map (·.2) = [assign tg env] := fun env => asg_ok h [] env
theorem swap_lc {elt : Expr} {gs : List Comprehension} {scope : Scope} {pos p : Pos} {x : Str} {l : Nat} {C : SC} (h : (C.sc.names.lookup x == some .local && p.line == pos.line && !(scope.names.any fun (n, k) => n == x && (k == .local || k == .cell))) = false) :
    ∀ env, env.scope = C.sc → swapsWith (.ListComp elt gs scope pos) (some (.Name x p)) l env = pure false := fun env he => by
  have e1 : env.kindOf x = C.sc.names.lookup x := by rw [← he]; rfl
  unfold swapsWith
  simp only [e1, Expr.pos]
  have : (env.blockKind == .function && C.sc.names.lookup x == some .local && p.line == pos.line && !(scope.names.any fun (n, k) => n == x && (k == .local || k == .cell))) = false := by
    rw [Bool.and_assoc, Bool.and_assoc, ← Bool.and_assoc (C.sc.names.lookup x == some .local), h, Bool.and_false]
  exact congrArg pure this
def coAsgT (C : SC) (tg a : Expr) (pos : Pos) (hs : ∀ env, swapsWithSole [tg] a pos.line env = pure false) (hw : ∀ env, env.scope = C.sc → swappedStores [tg] a env = pure none) : Option (CS C (.Assign [tg] a pos)) :=
  match coE 60 C a, coG 20 C tg with
  | some x, some g => if h : isStar tg = false then some ⟨dAsg g.d x.d, ss_asg x.ok g.ok hs hw (one_asg h)⟩ else none
  | _, _ => none
def coSet (C : SC) (x : Str) (p : Pos) (a : Expr) (pos : Pos) : Option (CS C (.Assign [.Name x p] a pos)) :=
  match findIx C.N x with
  | some ⟨i, hi⟩ => if hl : locB C x = true then
    match a with
    | .ListComp elt [⟨tg, iter, ifs, 0⟩] scope lp =>
      if hc : (C.sc.names.lookup x == some .local && p.line == lp.line && !(scope.names.any fun (n, k) => n == x && (k == .local || k == .cell))) = false then
        match coE 60 C (.ListComp elt [⟨tg, iter, ifs, 0⟩] scope lp) with
        | some y => some ⟨dSet i y.d, ss_set hi (loc_ok hl) y.ok (swap_lc hc)⟩
        | none => none
      else if hx : C.sc.names.lookup x = some .local then if h4 : (p.line == lp.line) = true then if h5 : (scope.names.any fun (n, k) => n == x && (k == .local || k == .cell)) = false then
        if h0 : blkC C.N C.sc scope (ownOf C.N (tgNames 9 tg)) = true then
          match coI 60 C tg iter, coN 9 (blkSC C scope) tg, coE 60 (blkSC C scope) elt with
          | some i', some t, some e => if h1 : (∀ j ∈ t.sl, j ∈ (ownOf C.N (tgNames 9 tg)).map (·.2)) then if h2 : isComp iter = false then
              match ifs with
              | [] => some ⟨dSet i (dLc ((ownOf C.N (tgNames 9 tg)).map (·.2)) i'.d t.d dYes e.d), ss_lc hi hx (blkOk_by h0) i'.ok t.ok h1 sts_nil e.ok (fold_ok h2) h4 h5⟩
              | [c] => match coT 60 (blkSC C scope) c with
                | some q => some ⟨dSet i (dLc ((ownOf C.N (tgNames 9 tg)).map (·.2)) i'.d t.d q.d e.d), ss_lc hi hx (blkOk_by h0) i'.ok t.ok h1 (sts_one q.ok) e.ok (fold_ok h2) h4 h5⟩
                | none => none
              | _ => none
              else none else none
          | _, _, _ => none
        else none
        else none else none else none
    | a => if hc : isComp a = false then match coE 60 C a with
      | some y => some ⟨dSet i y.d, ss_set hi (loc_ok hl) y.ok (fun env _ => swap_ok hc _ _ env)⟩
      | none => none
      else none
    else none
  | none => none
/-- names that are not swapped -/
def coParU (C : SC) (ts : List Expr) (k : Nat) (pt : Pos) (vs : List Expr) (k2 : Nat) (pv : Pos) (pos : Pos) (h : ((ts.length == 2 || ts.length == 3) && (locNames C.sc ts).length == ts.length) = false) : Option (CS C (.Assign [.Tuple ts k pt] (.Tuple vs k2 pv) pos)) :=
  match ts, vs, h with
  | [.Name x px, .Name y py], [a, b], h => match findIx C.N x, findIx C.N y, coE 60 C a, coE 60 C b with
    | some ⟨i, hi⟩, some ⟨j, hj⟩, some u, some v => if hx : locB C x = true then if hy : locB C y = true then if sa : isStar a = false then if sb : isStar b = false then
        some ⟨dPar2 i j u.d v.d, ss_parU2 hi hj (loc_ok hx) (loc_ok hy) u.ok v.ok (star_ok sa _) (star_ok sb _) sole_tup (swp_none h)⟩
      else none else none else none else none
    | _, _, _, _ => none
  | [.Name x px, .Name y py, .Name z pz], [a, b, c], h => match findIx C.N x, findIx C.N y, findIx C.N z, coE 60 C a, coE 60 C b, coE 60 C c with
    | some ⟨i, hi⟩, some ⟨j, hj⟩, some ⟨l, hl⟩, some u, some v, some w => if hx : locB C x = true then if hy : locB C y = true then if hz : locB C z = true then if sa : isStar a = false then if sb : isStar b = false then if sc : isStar c = false then
        some ⟨dPar3 i j l u.d v.d w.d, ss_parU3 hi hj hl (loc_ok hx) (loc_ok hy) (loc_ok hz) u.ok v.ok w.ok (star_ok sa _) (star_ok sb _) (star_ok sc _) sole_tup (swp_none h)⟩
      else none else none else none else none else none else none
    | _, _, _, _, _, _ => none
  | ts, vs, h => coAsgT C (.Tuple ts k pt) (.Tuple vs k2 pv) pos sole_tup (swp_none h)
def coPar (C : SC) (ts : List Expr) (k : Nat) (pt : Pos) (vs : List Expr) (k2 : Nat) (pv : Pos) (pos : Pos) : Option (CS C (.Assign [.Tuple ts k pt] (.Tuple vs k2 pv) pos)) :=
  if h : ((ts.length == 2 || ts.length == 3) && (locNames C.sc ts).length == ts.length) = false then coParU C ts k pt vs k2 pv pos h
  else match ts, vs with
    | [.Name x px, .Name y py], [a, b] => match findIx C.N x, findIx C.N y, coE 60 C a, coE 60 C b with
      | some ⟨i, hi⟩, some ⟨j, hj⟩, some u, some v => if hx : C.sc.names.lookup x = some .local then if hy : C.sc.names.lookup y = some .local then if hl : px.line = py.line then if hne : x ≠ y then if hij : i ≠ j then if sa : isStar a = false then if sb : isStar b = false then
          if hf : ([a, b].all (foldedForSure 8)) = false then if hc : ([a, b].all (constantsAlone 8)) = false then
            some ⟨dPar2 i j u.d v.d, ss_par2 hi hj hij hx hy u.ok v.ok (star_ok sa _) (star_ok sb _) (swp_some2 hx hy hl hne sa sb hf hc)⟩
          else none else none else none else none else none else none else none else none else none
      | _, _, _, _ => none
    | [.Name x px, .Name y py, .Name z pz], [a, b, c] => match findIx C.N x, findIx C.N y, findIx C.N z, coE 60 C a, coE 60 C b, coE 60 C c with
      | some ⟨i, hi⟩, some ⟨j, hj⟩, some ⟨l, hl'⟩, some u, some v, some w => if hx : C.sc.names.lookup x = some .local then if hy : C.sc.names.lookup y = some .local then if hz : C.sc.names.lookup z = some .local then if hl : px.line = py.line then if hl2 : px.line = pz.line then if hne : x ≠ y then if hne2 : x ≠ z then if hne3 : y ≠ z then
          if hij : i ≠ j then if hil : i ≠ l then if hjl : j ≠ l then if sa : isStar a = false then if sb : isStar b = false then if sc : isStar c = false then
          if hf : ([a, b, c].all (foldedForSure 8)) = false then if hc : ([a, b, c].all (constantsAlone 8)) = false then
            some ⟨dPar3 i j l u.d v.d w.d, ss_par3 hi hj hl' hij hil hjl hx hy hz u.ok v.ok w.ok (star_ok sa _) (star_ok sb _) (star_ok sc _) (swp_some3 hx hy hz hl hl2 hne hne2 hne3 sa sb sc hf hc)⟩
          else none else none else none else none else none else none else none else none else none else none else none else none else none else none else none else none
      | _, _, _, _, _, _ => none
    | _, _ => none
mutual
def coS : Nat → (C : SC) → (st : Stmt) → Option (CS C st)
  | 0, _, _ => none
  | n + 1, C, .Assign [.Name x p] a pos => coSet C x p a pos
  | n + 1, C, .Assign [.Tuple ts k p] (.Tuple vs k2 p2) pos => coPar C ts k p vs k2 p2 pos
  | n + 1, C, .Assign [tg] a pos => if h1 : isTupleE a = false then if h2 : isComp a = false then coAsgT C tg a pos (sole_ok h2) (fun env _ => swp_no h1 env) else none else none
  | n + 1, C, .If c B1 B2 pos => match coT 60 C c, coB n C B1, coB n C B2 with
    | some x, some y, some z => some ⟨dIfS x.d y.d z.d, ss_if x.ok y.ok z.ok⟩
    | _, _, _ => none
  | n + 1, C, .For tg iter B [] pos => match coI 60 C tg iter, coG 20 C tg, coB n C B with
    | some x, some y, some z => if h : isComp iter = false then some ⟨dFor x.d y.d z.d, ss_for x.ok y.ok z.ok (fold_ok h)⟩ else none
    | _, _, _ => none
  | n + 1, C, .While c B [] pos => match coT 60 C c, coB n C B with
    | some x, some z => some ⟨dWhile x.d z.d, ss_while x.ok z.ok⟩
    | _, _ => none
  | n + 1, C, .Return (some a) pos => match coE 60 C a with
    | some x => some ⟨dRet x.d, ss_ret x.ok⟩
    | none => none
  | n + 1, C, .Return none pos => some ⟨dRetN, ss_retN⟩
  | n + 1, C, .Expr a pos => if h : isComp a = false then match coE 60 C a with
    | some x => some ⟨dExpr x.d, ss_expr x.ok (swap_ok h none pos.line)⟩
    | none => none
    else none
  | n + 1, C, .Pass pos => some ⟨dPass, ss_pass⟩
  | n + 1, C, .Break pos => some ⟨dBreak, ss_break⟩
  | n + 1, C, .Continue pos => some ⟨dCont, ss_cont⟩
  | n + 1, C, .Raise e c pos => some ⟨dNever, ss_never⟩
  | _ + 1, _, _ => none
def coB : Nat → (C : SC) → (st : List Stmt) → Option (CB C st)
  | 0, _, _ => none
  | n + 1, C, [] => some ⟨dNext, sb_nil⟩
  | n + 1, C, st :: r => match coS n C st, coB n C r with
    | some x, some y => some ⟨dSeq x.d y.d, sb_cons x.ok y.ok⟩
    | _, _ => none
end
end Ev
set_option Elab.async false
set_option linter.all false
set_option maxRecDepth 100000
/-! Ev11: defs keep their promises; the law's call. -/
namespace Ev
open PySem PySem.Spec PyProof.Rows L2

@[simp] def kRet (Φ : Val → Prop) : KE := { nx := fun _ => Φ (.d .none), rt := Φ, bk := fun _ => False, ct := fun _ => False }
def envS (N : List Str) (args : List Val) : Env := args.map some ++ List.replicate (N.length - args.length) none

theorem RepVs.get {G : Gh} {F : AP1} {H : Hp} : ∀ {vs : List Val} {xs : List V}, RepVs G F H vs xs → ∀ {i : Nat} {v : Val}, vs[i]? = some v → ∃ x, xs[i]? = some x ∧ RepV G F H v x ∧ isOwn v = false
  | [], _, _, i, v, e => by simp at e
  | u :: us, _, h, i, v, e => by
    obtain ⟨x, t, rfl, ⟨h1, h2⟩, h3⟩ := h
    cases i with
    | zero => simp at e; subst e; exact ⟨x, rfl, h1, h2⟩
    | succ i => simp at e; obtain ⟨y, e1, e2⟩ := RepVs.get h3 e; exact ⟨y, by simpa using e1, e2⟩
theorem envS_get {N : List Str} {args : List Val} {i : Nat} {v : Val} (e : (envS N args)[i]? = some (some v)) : args[i]? = some v := by
  unfold envS at e
  by_cases hi : i < args.length
  · rw [List.getElem?_append_left (by simpa using hi), List.getElem?_map] at e
    cases q : args[i]? with
    | none => rw [q] at e; cases e
    | some u => rw [q] at e; cases e; rfl
  · rw [List.getElem?_append_right (by simpa using hi), List.getElem?_replicate] at e
    split at e <;> cases e
theorem r_start {G : Gh} {F : AP1} {H : Hp} {N : List Str} {args : List Val} {vs : List V} (b : CBeg G F H) (rv : RepVs G F H args vs) : R G F (envS N args) (L2.start N vs) H := by
  have hl := rv.len
  have no : ∀ (i : Nat) (v : Val), (envS N args)[i]? = some (some v) → isOwn v = false := fun i v e => by
    obtain ⟨_, _, _, h⟩ := rv.get (envS_get e)
    exact h
  refine ⟨?_, fun i v e => ?_, fun i j v w a e1 e2 o1 o2 => ?_, b.al, fun p g e => ?_⟩
  · unfold envS L2.start
    simp [hl]
  · obtain ⟨x, h1, h2, _⟩ := rv.get (envS_get e)
    refine ⟨x, ?_, h2⟩
    unfold L2.start
    have hi : i < vs.length := (List.getElem?_eq_some_iff.mp h1).1
    rw [List.getElem?_append_left (by simpa using hi), List.getElem?_map, h1]
    rfl
  · rw [no i v e1] at o1; cases o1
  · obtain ⟨h1, h2, h3⟩ := b.pt p g e
    exact ⟨h1, h2, h3, fun a ⟨i, v, e, o, _⟩ => by rw [no i v e] at o; cases o⟩

/-! ### a module's defs -/
structure Mods (K : PySem.W.Frag) (mg : Str → Option Value) (glb : List (Str × Int)) : Prop where
  blt : ∀ x ∈ bltNames, mg x = none
  glb : ∀ p ∈ glb, ∃ t, mg p.1 = some (.int p.2 t)
structure OkAt (P : Program) (w : World) (K : PySem.W.Frag) (mg : Str → Option Value) (base : Heap) (k : Nat) (f : FnS) : Prop where
  ex : ∃ (a : Addr) (fd : FuncData), FnOk P w K mg base CX0 k a fd f.ps (spV f.ps.length f.sp) ∧ mg f.name = some (.ref a) ∧ PySem.W.keepIn K (.ref a) = true ∧ Binds K fd f.ps []
def AllOk (P : Program) (w : World) (K : PySem.W.Frag) (mg : Str → Option Value) (base : Heap) (k : Nat) (fns : List FnS) : Prop := ∀ f ∈ fns, OkAt P w K mg base k f
/-- the def's text stands under the name -/
structure TextAt (K : PySem.W.Frag) (mg : Str → Option Value) (at_ : Str) (nm : Str) (st : Stmt) (a : Addr) (fd : FuncData) : Prop where
  fun_ : FunD K nm nm (defArgs st) (defBody st) (defScope st) [] [] a fd
  mg : mg at_ = some (.ref a)
section
variable {P : Program} {w : World} {K : PySem.W.Frag} {mg : Str → Option Value} {base : Heap} {k : Nat} {fns : List FnS} {glb : List (Str × Int)} {a : Addr} {fd : FuncData} {nm : Str} {st : Stmt}
theorem AllOk.nil : AllOk P w K mg base k [] := fun f h => by cases h
theorem AllOk.sub {fns' : List FnS} (h : AllOk P w K mg base k fns) (s : ∀ f ∈ fns', f ∈ fns) : AllOk P w K mg base k fns' := fun f hf => h f (s f hf)
theorem OkAt.mono {j : Nat} {f : FnS} (h : OkAt P w K mg base j f) (l : j ≤ k) : OkAt P w K mg base k f := by
  obtain ⟨a, fd, h1, h2⟩ := h.ex
  exact ⟨a, fd, h1.mono l, h2⟩
theorem AllOk.cons {f : FnS} (h : AllOk P w K mg base k fns) (g : OkAt P w K mg base k f) : AllOk P w K mg base k (f :: fns) := fun x hx => by
  rcases List.mem_cons.mp hx with rfl | hx
  · exact g
  · exact h x hx
theorem OkAt.call {X : Cx} {f : FnS} (h : OkAt X.prog X.w X.K X.mg X.base k f) (r : Room k X.A) : CallOk X f := by
  obtain ⟨a, fd, h1, h2, h3, h4⟩ := h.ex
  exact ⟨k, a, fd, h1, r, h2, h3, h4⟩
/-- the same function under another of its names -/
theorem OkAt.alias {f : FnS} {y : Str} {a : Addr} (h : OkAt P w K mg base k f) (e : mg f.name = some (.ref a)) (g : mg y = some (.ref a)) : OkAt P w K mg base k { f with name := y } := by
  obtain ⟨b, fd, h1, h2, h3, h4⟩ := h.ex
  have : b = a := by rw [h2] at e; cases e; rfl
  subst this
  exact ⟨b, fd, h1, g, h3, h4⟩
theorem fits_of {N own : List Str} {scope : Scope} {qual : Str} {f : Addr} {cd : Value} {A : Around} {outer : List PySem.Env} {s : Shared} {H : Hp} {E : XK} {g : Bool} (m : Mods K mg glb) (h : AllOk P w K mg base k fns) (nd : N.Nodup) (hk : scope.kind = .function)
    (hr : Room k (A.deeper (envOfC qual scope s.heap.objs.size f cd))) (hg : g = true → A.guards = some []) : Fits ⟨N, scope, fns, glb, g, own⟩ (cxOf CX0 P w K mg base N qual scope f cd A outer s H E).nox where
  n := rfl
  nd := nd
  sc := rfl
  kind := hk
  calm := rfl
  xe := rfl
  fn := fun _ _ => rfl
  blt := m.blt
  glb := m.glb
  fns := fun f hf => (h f hf).call hr
  grd := hg
  units := by
    have := hr.un
    show (A.deeper (envOfC qual scope s.heap.objs.size f cd)).units + 65 < cLine
    omega
theorem add_def {f : FnS} {N own : List Str} {d : DS} (m : Mods K mg glb) (h : AllOk P w K mg base k fns) (T : TextAt K mg f.name nm st a fd) (S : FnScope N f.ps (defScope st))
    (hb : ∀ (kV doc pm : Value) (an : Option Addr) (cdv ct : Value) (us : List Value), us.length = f.ps.length → bindArgs (PySem.W.fnOf nm nm (defArgs st) (defBody st) (defScope st) .none kV doc pm an cdv ct) ⟨us, []⟩ = pure (f.ps.zip us))
    (hd : SB ⟨N, defScope st, fns, glb, false, own⟩ (defBody st) d)
    (hv : ∀ args Φ, args.length = f.ps.length → f.sp args Φ → d (kRet Φ) (envS N args)) : OkAt P w K mg base (k + 1) f := by
  refine ⟨a, fd, T.fun_.ok S (fun vs H Q E q => q.1) (fun cdv A outer s H vs Q E hr q => ?_), T.mg, T.fun_.kp, T.fun_.bindsN hb⟩
  obtain ⟨hl, G, F, args, Φ, cb, rv, hs, hQ⟩ := q
  refine ⟨_, PSs.nox (pb_w (X := (cxOf CX0 P w K mg base N nm (defScope st) a cdv A outer s H E).nox)), ?_⟩
  have fx := fits_of (own := own) (g := false) (E := E) (outer := outer) (H := H) m h S.nd S.kind hr (fun z => by cases z)
  have r0 : R G F (envS N args) (L2.start N vs) H := r_start cb rv
  have no : ∀ c, ¬ OwnS (envS N args) (L2.start N vs) c := fun c ⟨i, v, e, o, _⟩ => by
    obtain ⟨_, _, _, z⟩ := rv.get (envS_get e)
    rw [z] at o; cases o
  refine hd _ fx G F H F (envS N args) (L2.start N vs) H _ (kRet Φ) ⟨r0, fun _ _ e _ => e, fun _ o e => ⟨o, e⟩, fun _ e => e, fun _ e => .inl e, fun c z => (no c z).elim⟩ (hv args Φ (by rw [← rv.len]; exact hl) hs) ⟨fun env' F' σ' H' r' l hn => ?_, fun _ _ _ _ _ _ z => z.elim, fun _ _ _ _ _ _ z => z.elim, fun v F' H' x ce cr hh => hQ v F' H' x ce cr hh⟩
  exact hQ (.d .none) F' H' .non r'.cend ⟨by simp only [RepV, RepD], fun z => by cases z⟩ hn
end
end Ev
set_option Elab.async false
set_option linter.all false
set_option maxRecDepth 100000
/-! Ev12: the law's own call, at the claim's caller alone. -/
namespace Ev
open PySem PySem.Spec PyProof.Rows L2

/-- a def entered from the claim's caller -/
def RunsAt (P : Program) (w : World) (K : PySem.W.Frag) (mg : Str → Option Value) (base : Heap) (f : Addr) (fd : FuncData) (ps : List Str) (sp : Sp) : Prop :=
  ∀ (s : Shared) (H : Hp) (ag : Args) (us : List Value) (vs : List V) (Q : VK) (E : XK), Env0 P w K mg base callerA [] s H → BindsTo s fd ag (ps.zip us) → Vals vs us → sp vs H Q E → codeAny (model P w) callerA (.call (.ref f) ag) (CR CX0 [] P w H s Q E) s
section
variable {P : Program} {w : World} {K : PySem.W.Frag} {mg : Str → Option Value} {base : Heap} {k : Nat} {f : Addr} {fd : FuncData}
theorem runs_at {nm ql : Str} {pr : Arguments} {bd : List Stmt} {sc : Scope} {N ps : List Str} {sp : Sp} (T : FunD K nm ql pr bd sc [] [] f fd) (S : FnScope N ps sc) (hr : Room (k + 1) callerA) (hn : ∀ vs H Q E, sp vs H Q E → vs.length = ps.length)
    (go : ∀ (cv : Value) (s : Shared) (H : Hp) (vs : List V) (Q : VK) (E : XK), Room k (callerA.deeper (envOfC ql sc s.heap.objs.size f cv)) → sp vs H Q E →
      wB (cxOf CX0 P w K mg base N ql sc f cv callerA [] s H E).nox bd { nx := fun _ H' => Q .non H', rt := Q } (L2.start N vs) H) : RunsAt P w K mg base f fd ps sp := by
  obtain ⟨oc, od, dV, kV, doc, pm, an, cv, ct, sl, rfl, lk, hcd, _, _⟩ := T.ex
  intro s H ag us vs Q E e0 hb rv hs
  have hl := hn _ _ _ _ hs
  have kin : K.In s.heap := e0.mod.kin.keeps fun b o e => (e0.bs b o e).1
  have lim : s.heap.NoLimit := e0.mod.nolimit.keeps fun b o e => (e0.bs b o e).1
  have kd : ∀ y ∈ ps.zip us, sc.names.lookup y.1 = some .local ∨ (sc.names.lookup y.1 = some .cell ∧ ((cellsFrom (s.heap.objs.size + 1) sc.names []).lookup y.1).isSome = true) := fun ⟨n, v⟩ hy => by
    rcases S.par n (List.of_mem_zip hy).1 with q | q
    · exact .inl q
    · exact .inr ⟨q, PySem.W.cellsFrom_some _ _ _ (.inl q)⟩
  refine codeAny_call_function hr.depth (kin _ _ lk) rfl S.co S.gen rfl (PySem.W.codeRec_of kin hcd) (hb _ _ _ _ ?_)
  refine wpAny_newFunctionEnv_cells S.kind kd fun env he s1 x => ?_
  subst he
  refine ⟨lim.keeps x.toInCall.keep, codeAny_func ?_⟩
  have I : Inv (cxOf CX0 P w K mg base N ql sc f cv callerA [] s H E) [] (L2.start N vs) H s1 := inv_start S hr.hd e0 hl rv x
  have run := (PSs.nox (X := cxOf CX0 P w K mg base N ql sc f cv callerA [] s H E) pb_w).run [] s1 (L2.start N vs) H _ I (go cv s H vs Q E (hr.deeper _) hs)
  refine wpAny_mono run (fun fl s2 h2 => ?_) fun e s2 h2 => h2
  have fin : ∀ {σ' : L2.St} {H' : Hp} {v : V} {u : Value}, Inv (cxOf CX0 P w K mg base N ql sc f cv callerA [] s H E) [] σ' H' s2 → RelV v u → Q v H' → CE [] P w H s Q u s2 :=
    fun {σ' H' v u} J r q => ⟨v, H', J.os, J.bare, J.base, J.hok, r, q⟩
  cases fl with
  | ret u => obtain ⟨v, σ', H', J, r, q⟩ := h2; exact fin J r q
  | next => obtain ⟨σ', H', J, q⟩ := h2; exact fin (v := V.non) (u := Value.none) J rfl q
  | brk => obtain ⟨_, _, _, q⟩ := h2; exact False.elim q
  | cont => obtain ⟨_, _, _, q⟩ := h2; exact False.elim q

/-- the claim's call of the law over a script of ints -/
theorem law_at {mb : Str → Option Value} {a : Addr} {x : Str} {sp : Sp} {t : Shared} {vs : List Value} {ns : List Int}
    (kin : K.In t.heap) (hm : t.heap.Ns mainGlobals mg) (hb : t.heap.Ns builtinsNs mb) (hbb : ∀ x : Str, x ≠ "__name__" → mb x = bootBuiltins x) (lim : t.heap.NoLimit) (hg : t.gens = #[])
    (ha : t.heap.get? a = some { cls := .type "list", data := .seq vs.toArray }) (hi : IntsAre vs ns) (hl : ns.length ≤ sizeLine)
    (F : ∀ bs : Heap, K.In bs → bs.Ns mainGlobals mg → RunsAt P w K mg bs f fd [x] sp) (hbind : ∀ (s : Shared) (u : Value), BindsTo s fd ⟨[u], []⟩ [(x, u)])
    (hsp : ∀ H : Hp, Only H → SqL K H a (ns.map V.int) → sp [.ref a] H (fun v _ => v = .bl true) fun _ _ _ => False) :
    codeAny (model P w) callerA (.call (.ref f) ⟨[.ref a], []⟩) (fun r s' => r = .ok (.ret (.bool true)) ∧ OldK t.heap s'.heap ∧ s'.os = t.os ∧ AllBare s'.gens) t := by
  have rv := vals_ints hi
  have lv := hi.length
  have core : ∀ H : Hp, Only H → SqL K H a (ns.map V.int) → HOk P w H t.heap → (∀ b, H b ≠ none → b = a) → (H a ≠ none → K.lookup a = none) →
      codeAny (model P w) callerA (.call (.ref f) ⟨[.ref a], []⟩) (fun r s' => r = .ok (.ret (.bool true)) ∧ OldK t.heap s'.heap ∧ s'.os = t.os ∧ AllBare s'.gens) t := by
    intro H hO hS ho hA hK
    have one : ∀ {b : Addr} {u : HO}, H b = some u → b = a := fun {b u} e => hA b (by rw [e]; intro z; cases z)
    have up : ∀ {b : Addr} {o : Obj}, t.heap.get? b = some o → H b = none → (hidT t.heap H).get? b = some o := fun e n => hidT_get e n
    have noD : ∀ {b : Addr} {o : Obj} {es : Array DictEntry} {ep : Nat}, t.heap.get? b = some o → o.data = .dict es ep → H b = none := fun {b o es ep} e d => by
      cases q : H b with
      | none => rfl
      | some u =>
        have z := one q
        subst z
        rw [ha] at e; cases e
        have d' : Data.seq vs.toArray _ = Data.dict es ep := d
        cases d'
    have nsT : ∀ {b : Addr} {m : Str → Option Value}, t.heap.Ns b m → (hidT t.heap H).Ns b m := fun {b m} ⟨o, es, ep, e, d, r⟩ => ⟨o, es, ep, up e (noD e d), d, r⟩
    have kB : K.In (hidT t.heap H) := fun b o e => up (kin b o e) (by
      cases q : H b with
      | none => rfl
      | some u =>
        have z := one q
        subst z
        rw [hK (by rw [q]; intro y; cases y)] at e; cases e)
    have md : Mod K mg (hidT t.heap H) := ⟨kB, nsT hm, ⟨mb, nsT hb, hbb⟩, let ⟨mc, h1, h2⟩ := lim; ⟨mc, nsT h1, h2⟩⟩
    have nomem : ∀ {b : Addr}, b ∉ ([] : List Addr) := fun {b} z => by cases z
    have e0 : Env0 P w K mg (hidT t.heap H) callerA [] t H := ⟨rfl, md, fun b o e => of_hidT e, Nat.le_of_eq (hidT_size _ _), trivial, fun b z => (nomem z).elim, ho, .of_eq hg⟩
    refine codeAny_mono (F _ kB (nsT hm) t H ⟨[.ref a], []⟩ [.ref a] [.ref a] _ _ e0 (hbind t (.ref a)) (.cons rfl .nil) (hsp H hO hS)) fun r s' h => ?_
    cases r with
    | error e => exact False.elim h
    | ok fl => cases fl with
      | next => exact False.elim h
      | brk => exact False.elim h
      | cont => exact False.elim h
      | ret u =>
        obtain ⟨v, H', os, bare, un, ho', r', q⟩ := h
        have q2 : v = .bl true := q
        subst q2
        obtain rfl : u = Value.bool true := r'
        refine ⟨rfl, OldK.of_keep fun b o e => ?_, os, bare⟩
        cases q : H b with
        | none => exact un.keep b o e q (fun z => (nomem z).elim) nomem
        | some u =>
          rcases hO b with z | ⟨ob, xs, z⟩
          · rw [q] at z; cases z
          · obtain ⟨e1, _⟩ := ho b _ z
            obtain ⟨e2, _⟩ := ho' b _ (un.frzs b ob _ z)
            rw [e] at e1; cases e1
            exact e2
  cases hk : K.lookup a with
  | some o =>
    have e := kin a o hk
    rw [ha] at e
    cases e
    exact core (fun _ => none) (fun _ => .inl rfl) (.inr ⟨_, vs.toArray, _, hk, rfl, rfl, rfl, by rw [List.size_toArray, lv]; exact hl, by simpa using rv⟩) (fun b u z => by cases z) (fun b z => absurd rfl z) fun z => absurd rfl z
  | none =>
    have at_ : ∀ b, b = a → (fun b => if b = a then some (HO.frz { cls := .type "list", data := .seq vs.toArray } (.lst (ns.map V.int))) else none : Hp) b = some (.frz { cls := .type "list", data := .seq vs.toArray } (.lst (ns.map V.int))) := fun b z => if_pos z
    have off : ∀ b, b ≠ a → (fun b => if b = a then some (HO.frz { cls := .type "list", data := .seq vs.toArray } (.lst (ns.map V.int))) else none : Hp) b = none := fun b z => if_neg z
    generalize (fun b => if b = a then some (HO.frz { cls := .type "list", data := .seq vs.toArray } (.lst (ns.map V.int))) else none : Hp) = H1 at at_ off
    refine core H1 (fun b => ?_) (.inl (.inr ⟨_, at_ a rfl⟩)) (fun b u z => ?_) (fun b z => ?_) fun _ => hk
    · by_cases hc : b = a
      · exact .inr ⟨_, _, at_ b hc⟩
      · exact .inl (off b hc)
    · by_cases hc : b = a
      · have y := (at_ b hc).symm.trans z
        cases y
        subst hc
        exact ⟨ha, by rw [List.length_map]; exact hl, vs, _, rv, ha⟩
      · have y := (off b hc).symm.trans z
        cases y
    · by_cases hc : b = a
      · exact hc
      · exact absurd (off b hc) z
end

/-- the head's last goal -/
theorem walk_law {l : PySem.W.OpenLaw} {n : Nat} {q : Program} {loose : List Str} {XP : (Str → Option Value) → Heap → Prop} {YP : World → Heap → Prop} {d : DefRec} {x : Str}
    (hn : l.most = some n) (hn2 : n ≤ sizeLine) (hdf : d.params.defaults = [])
    (F : ∀ (w : World) (mg : Str → Option Value) (fa : Addr) (h : Heap), YP w h → h.Ns mainGlobals mg → mg d.name = some (.ref fa) →
      ∃ (K : PySem.W.Frag) (fd : FuncData) (sp : Sp), K.In h ∧ (∀ (s : Shared) (u : Value), BindsTo s fd ⟨[u], []⟩ [(x, u)]) ∧
        (∀ (H : Hp) (a : Addr) (ns : List Int), ns.length ≤ n → Only H → SqL K H a (ns.map V.int) → sp [.ref a] H (fun v _ => v = .bl true) fun _ _ _ => False) ∧
        ∀ base : Heap, K.In base → base.Ns mainGlobals mg → RunsAt l.prog w K mg base fa fd [x] sp) :
    PySem.W.WalkO q loose XP YP l.row.toRowW d [] (fun f vs => PySem.call f vs) := by
  refine Att.attach_call hn hdf fun w s0 s1 mg mb fa o pm cd doc a vs ns G Y h1 h2 h3 hmg ho hi hl hg => ?_
  obtain ⟨K, fd, sp, kx, hb, hsp, hF⟩ := F w mg fa _ Y G.T.g hmg
  exact law_at kx G.T.g G.T.b G.T.builtins G.T.nolimit hg ho hi (Nat.le_trans hl hn2) hF hb fun H hO hS => hsp H a ns hl hO hS

/-! ### the law's body: the pot first -/
def spPot (K : PySem.W.Frag) : Sp := fun vs H Q _ => ∃ (a : Addr) (ns : List Int), vs = [.ref a] ∧ SqL K H a (ns.map V.int) ∧ ns.length ≤ 63 ∧ ∀ H' p g, PotOk H' p g → Q (.ref p) H'
def envPot (N : List Str) : Env := (List.replicate N.length none).set 1 (some .pot)
section
variable {P : Program} {w : World} {K : PySem.W.Frag} {mg : Str → Option Value} {base : Heap} {k : Nat} {fns : List FnS} {glb : List (Str × Int)} {f : Addr} {fd : FuncData}
theorem r_pot {N : List Str} {a p g : Addr} {H : Hp} (h2 : 2 ≤ N.length) (h : PotOk H p g) : R (some (p, g)) (fun _ => False) (envPot N) ((L2.start N [V.ref a]).set 1 (some (V.ref p))) H := by
  have at1 : ∀ (i : Nat) (v : Val), (envPot N)[i]? = some (some v) → i = 1 ∧ v = .pot := fun i v e => by
    unfold envPot at e
    by_cases hi : 1 = i
    · subst hi
      rw [List.getElem?_set_self (by rw [List.length_replicate]; omega)] at e
      cases e; exact ⟨rfl, rfl⟩
    · rw [List.getElem?_set_ne hi, List.getElem?_replicate] at e
      split at e <;> cases e
  refine ⟨by unfold envPot L2.start; simp; omega, fun i v e => ?_, fun i j v u c e1 e2 o1 _ => ?_, fun c z => z.elim, fun p' g' e => ?_⟩
  · obtain ⟨rfl, rfl⟩ := at1 i v e
    refine ⟨.ref p, ?_, p, g, rfl, rfl⟩
    rw [List.getElem?_set_self]
    unfold L2.start
    simp; omega
  · obtain ⟨_, rfl⟩ := at1 i v e1
    cases o1
  · cases e
    exact ⟨h, fun z => z, fun z => z, fun c ⟨i, v, e, o, _⟩ => by obtain ⟨_, rfl⟩ := at1 i v e; cases o⟩
theorem law_runs {nm : Str} {st : Stmt} {N own : List Str} {rest : List Stmt} {d : DS} {ap : Addr} {fp : FuncData} {px pf pa pc ps : Pos} {kp : Nat} (T : FunD K nm nm (defArgs st) (defBody st) (defScope st) [] [] f fd) (m : Mods K mg glb) (h : AllOk P w K mg base k fns)
    (S : FnScope N ["script"] (defScope st)) (hr : Room (k + 1) callerA) (hbody : defBody st = .Assign [.Name "pot" px] (.Call (.Name "_law_pot" pf) [.Name "script" pa] [] pc) ps :: rest)
    (FO : FnOk P w K mg base CX0 kp ap fp ["script"] (spPot K)) (hkp : kp ≤ k) (hm : mg "_law_pot" = some (.ref ap)) (hk : PySem.W.keepIn K (.ref ap) = true) (hbp : Binds K fp ["script"] [])
    (n0 : N[0]? = some ("script" : Str)) (n1 : N[1]? = some ("pot" : Str)) (g1 : (defScope st).names.lookup ("_law_pot" : Str) = some .globalImplicit) (g2 : LocC ⟨N, defScope st, fns, glb, true, own⟩ "pot") (g3 : (defScope st).names.lookup ("script" : Str) = some .local)
    (hd : SB ⟨N, defScope st, fns, glb, true, own⟩ rest d) (hv : d (kRet fun v => v = .d (.bool true)) (envPot N)) :
    RunsAt P w K mg base f fd ["script"] (fun vs H Q _ => (∃ (a : Addr) (ns : List Int), vs = [.ref a] ∧ SqL K H a (ns.map V.int) ∧ ns.length ≤ 63) ∧ ∀ H', Q (.bl true) H') := by
  refine runs_at T S hr (fun vs H Q E ⟨⟨a, ns, e, _⟩, _⟩ => by rw [e]; rfl) fun cv s H vs Q E hr2 ⟨⟨a, ns, e, hS, hl⟩, hQ⟩ => ?_
  subst e
  rw [hbody]
  have fx := fits_of (own := own) (g := true) (E := E) (outer := []) (H := H) m h S.nd S.kind hr2 (fun _ => rfl)
  have l2 : 2 ≤ N.length := (List.getElem?_eq_some_iff.mp n1).1
  have s0 : (L2.start N [V.ref a])[0]? = some (some (V.ref a)) := rfl
  refine wb_of (pss_cons (ps_set (i := 1) S.nd n1 g2.1 (pe_call FO (hr2.mono hkp) (gl_of fx g1) hm hk hbp .nil pass0 (pa_cons (pe_var (i := 0) n0 (.inl g3)) pa_nil)) (by rfl) (fn_of' fx g2)) pb_w) ?_
  refine ⟨V.ref a, s0, a, ns, rfl, hS, hl, fun H' p g po => ?_⟩
  have r0 := r_pot (a := a) (N := N) l2 po
  have no : ∀ c, ¬ OwnS (envPot N) ((L2.start N [V.ref a]).set 1 (some (V.ref p))) c := fun c z => (r0.ownL z).elim fun o _ => by
    obtain ⟨i, v, e, ow, _⟩ := z
    unfold envPot at e
    by_cases hi : 1 = i
    · subst hi
      rw [List.getElem?_set_self (by rw [List.length_replicate]; omega)] at e
      cases e; cases ow
    · rw [List.getElem?_set_ne hi, List.getElem?_replicate] at e
      split at e <;> cases e
  refine hd _ fx _ _ H' _ (envPot N) _ H' _ _ ⟨r0, fun _ _ e _ => e, fun _ o e => ⟨o, e⟩, fun _ e => e, fun _ e => .inl e, fun c z => (no c z).elim⟩ hv ⟨fun env' F' σ' H2 r' l hn => ?_, fun _ _ _ _ _ _ z => z.elim, fun _ _ _ _ _ _ z => z.elim, fun v F' H2 x ce cr hh => ?_⟩
  · cases hn
  · have hh : v = .d (.bool true) := hh
    subst hh
    have z : x = .bl true := by have := cr.rep; simpa only [RepV, RepD] using this
    subst z
    exact hQ H2
end
end Ev
set_option Elab.async false
set_option linter.all false
set_option maxRecDepth 100000
/-! Ev13: the laws' own draw, by hand. -/
namespace Ev
open PySem PySem.Spec PyProof.Rows L2

abbrev kGreat : L2.Key := Sum.inr (Str.ofString "great")
abbrev kSeal : L2.Key := Sum.inr (Str.ofString "seal")
abbrev kTurn : L2.Key := Sum.inr (Str.ofString "turn")
def potKv (g : Addr) (sl tn : Int) : List (L2.Key × V) := [(kGreat, V.ref g), (kSeal, V.int sl), (kTurn, V.int tn)]
theorem ks_gs : kGreat ≠ kSeal := by decide
theorem ks_gt : kGreat ≠ kTurn := by decide
theorem ks_st : kSeal ≠ kTurn := by decide
theorem val_g {g sl tn} : valV (potKv g sl tn) kGreat = some (V.ref g) := rfl
theorem val_s {g sl tn} : valV (potKv g sl tn) kSeal = some (V.int sl) := by
  unfold potKv
  rw [valV_neg (show ¬ kGreat = kSeal from ks_gs), valV_pos rfl]
theorem val_t {g sl tn} : valV (potKv g sl tn) kTurn = some (V.int tn) := by
  unfold potKv
  rw [valV_neg (show ¬ kGreat = kTurn from ks_gt), valV_neg (show ¬ kSeal = kTurn from ks_st), valV_pos rfl]
theorem put_s {g sl tn x} : putK (potKv g sl tn) kSeal (V.int x) = potKv g x tn := by
  have a1 : decide (kGreat = kSeal) = false := by decide
  have a2 : decide (kTurn = kSeal) = false := by decide
  unfold putK potKv
  rw [if_pos (by simp [List.any_cons])]
  simp only [List.map_cons, List.map_nil, if_neg (of_decide_eq_false a1), if_neg (of_decide_eq_false a2), if_true]
theorem put_t {g sl tn x} : putK (potKv g sl tn) kTurn (V.int x) = potKv g sl x := by
  have a1 : decide (kGreat = kTurn) = false := by decide
  have a2 : decide (kSeal = kTurn) = false := by decide
  unfold putK potKv
  rw [if_pos (by simp [List.any_cons])]
  simp only [List.map_cons, List.map_nil, if_neg (of_decide_eq_false a1), if_neg (of_decide_eq_false a2), if_true]
theorem dput_s {H : Hp} {p g : Addr} {sl tn x : Int} (h : H p = some (.dK (potKv g sl tn))) : DPut H p (.str "seal") (V.int x) (upd H p (.dK (potKv g x tn))) := by
  have := DPut.k (k := kSeal) (v := V.int x) h (by rw [sizeLine_eq]; show 3 < 16777216; decide)
  rw [put_s] at this
  exact this
theorem dput_t {H : Hp} {p g : Addr} {sl tn x : Int} (h : H p = some (.dK (potKv g sl tn))) : DPut H p (.str "turn") (V.int x) (upd H p (.dK (potKv g sl x))) := by
  have := DPut.k (k := kTurn) (v := V.int x) h (by rw [sizeLine_eq]; show 3 < 16777216; decide)
  rw [put_t] at this
  exact this
/-- the heap behind a draw -/
structure AfterDraw (p g : Addr) (H H' : Hp) : Prop where
  ok : PotOk H' p g
  keep : ∀ a o, H a = some o → a ≠ p → a ≠ g → H' a = some o
  live : ∀ a o, H a = some o → ∃ o', H' a = some o'
def DN : List Str := ["pot", "many", "great", "cell", "own"]
structure DrawSc (X : Cx) : Prop where
  n : X.N = DN
  l0 : X.env.scope.names.lookup ("pot" : Str) = some .local
  l1 : X.env.scope.names.lookup ("many" : Str) = some .local
  l2 : X.env.scope.names.lookup ("great" : Str) = some .local
  l3 : X.env.scope.names.lookup ("cell" : Str) = some .local
  l4 : X.env.scope.names.lookup ("own" : Str) = some .local
  gi : Gl X "int"
  mi : X.mg "int" = none
  hu : X.A.units + 65 < cLine
theorem dn_nd : DN.Nodup := by decide
section
variable {X : Cx} {D : Ends} {p g : Addr} {m : Int} {H : Hp}
theorem lt0 {a : Int} (h : 0 < a) (x : Int) : 0 ≤ x % a ∧ x % a < a := ⟨Int.emod_nonneg _ (by omega), Int.emod_lt_of_pos _ h⟩
variable {q0 q1 q2 q3 q4 q5 q6 q7 q8 q9 q10 q11 q12 q13 q14 q15 q16 q17 q18 q19 q20 q21 q22 q23 q24 q25 q26 q27 q28 q29 q30 q31 q32 q33 q34 q35 q36 q37 q38 q39 q40 q41 q42 q43 q44 q45 q46 q47 q48 q49 q50 q51 q52 q53 q54 q55 q56 q57 q58 q59 q60 q61 q62 q63 q64 q65 q66 q67 q68 q69 q70 q71 q72 q73 q74 q75 q76 q77 q78 q79 q80 q81 q82 q83 q84 q85 q86 q87 q88 q89 q90 q91 q92 q93 q94 q95 q96 : Pos}
theorem pe_ty1 {x : Expr} {te : TE} {pf pos : Pos} (S : DrawSc X) (h : PE X x te) (hs : starEach [x] X.env = (false, eval x X.env) :: starEach [] X.env) : PE X (.Call (.Name "int" pf) [x] [] pos) (tCB (fun xs H Q => (∃ i, xs = [.int i] ∧ Q (.int i) H) ∨ ∃ k, xs = [.bl k] ∧ Q (.int (if k then 1 else 0)) H) (L2.tCons te L2.tNil)) :=
  pe_callTy call_int1 S.gi S.mi (by decide +kernel) (pa_cons h pa_nil hs) (by decide) (by decide) hs rfl
theorem v0 (S : DrawSc X) {q : Pos} : PE X (.Name "pot" q) (tVar 0) := pe_var (by rw [S.n]; rfl) (.inl S.l0)
theorem v1 (S : DrawSc X) {q : Pos} : PE X (.Name "many" q) (tVar 1) := pe_var (by rw [S.n]; rfl) (.inl S.l1)
theorem v2 (S : DrawSc X) {q : Pos} : PE X (.Name "great" q) (tVar 2) := pe_var (by rw [S.n]; rfl) (.inl S.l2)
theorem v3 (S : DrawSc X) {q : Pos} : PE X (.Name "cell" q) (tVar 3) := pe_var (by rw [S.n]; rfl) (.inl S.l3)
theorem v4 (S : DrawSc X) {q : Pos} : PE X (.Name "own" q) (tVar 4) := pe_var (by rw [S.n]; rfl) (.inl S.l4)
theorem pot_get (S : DrawSc X) {k : String} {q r s : Pos} {j : Nat} : PE X (.Subscript (.Name "pot" q) (.Constant (.str k) j r) s) (tDGet (tVar 0) (tC (.str k))) :=
  pe_dget (by have := S.hu; omega) (v0 S) pe_str (fun _ _ => rfl)
theorem draw_tail (S : DrawSc X) {gv : Option V} {c4 : Option V} {sl tn : Int} {ns : List Int} (hp : H p = some (.dK (potKv g sl tn))) (hg : H g = some (.lst (ns.map V.int))) (hne : p ≠ g) (hns : ∀ n ∈ ns, 0 ≤ n) (hl : ns.length ≤ 62) (h1 : 0 ≤ sl) (h2 : sl < 4294967291) (h3 : 0 ≤ tn)
    (hm : 0 < m) (hm2 : m < 2 ^ 30) (hQ : ∀ r H', AfterDraw p g H H' → 0 ≤ r → r < m → D.rt (.int r) H') :
    wB X [.Assign [(.Subscript (.Name "pot" q31) (.Constant (.str "turn") 0 q32) q33)] (.BinOp (.Subscript (.Name "pot" q34) (.Constant (.str "turn") 0 q35) q36) .Add (.Constant (.int 1) 0 q37) q38) q39,
   .Assign [(.Name "own" q40)] (.BinOp (.Call (.Name "int" q41) [(.BinOp (.BinOp (.BinOp (.Subscript (.Name "pot" q42) (.Constant (.str "seal") 0 q43) q44) .Mult (.Constant (.int 69621) 0 q45) q46) .Add (.BinOp (.Subscript (.Name "pot" q47) (.Constant (.str "turn") 0 q48) q49) .Mult (.Constant (.int 40503) 0 q50) q51) q52) .Add (.Constant (.int 29) 0 q53) q54)] [] q55) .Mod (.Constant (.int 4294967279) 0 q56) q57) q58,
   .Assign [(.Name "own" q59)] (.BinOp (.Call (.Name "int" q60) [(.BinOp (.BinOp (.Name "own" q61) .Mult (.Name "own" q62) q63) .Add (.BinOp (.Subscript (.Name "pot" q64) (.Constant (.str "seal") 0 q65) q66) .Mult (.Constant (.int 7) 0 q67) q68) q69)] [] q70) .Mod (.Constant (.int 4294967231) 0 q71) q72) q73,
   .Assign [(.Subscript (.Name "pot" q74) (.Constant (.str "seal") 0 q75) q76)] (.BinOp (.Call (.Name "int" q77) [(.BinOp (.BinOp (.Subscript (.Name "pot" q78) (.Constant (.str "seal") 0 q79) q80) .Mult (.Constant (.int 48271) 0 q81) q82) .Add (.Name "own" q83) q84)] [] q85) .Mod (.Constant (.int 4294967291) 0 q86) q87) q88,
   .Return (some (.BinOp (.Call (.Name "int" q89) [(.BinOp (.Name "own" q90) .FloorDiv (.Constant (.int 64) 0 q91) q92)] [] q93) .Mod (.Name "many" q94) q95)) q96] D [some (.ref p), some (.int m), gv, none, c4] H := by
  have nd : X.N.Nodup := by rw [S.n]; exact dn_nd
  have c64 : ∀ {a b : Int}, -(2 ^ 64) < b → b < 2 ^ 64 → CMul a b := fun h1 h2 => .inr ⟨h1, h2⟩
  refine wb_of (pss_cons (ps_dput (by have := S.hu; omega) (v0 S) pe_str (pe_op op_add (pot_get S) pe_int) rfl) pb_w) ?_
  refine ⟨_, rfl, p, V.int tn, rfl, ?_, tn, 1, rfl, rfl, _, rfl, p, _, rfl, dput_t hp, ?_⟩
  · have := DGet.k (k := kTurn) hp; rw [val_t] at this; exact this
  generalize hH1 : upd H p (.dK (potKv g sl (tn + 1))) = H1
  have hp1 : H1 p = some (.dK (potKv g sl (tn + 1))) := by rw [← hH1]; exact upd_same
  have g1 : DGet H1 p (.str "seal") (some (V.int sl)) := by have := DGet.k (k := kSeal) hp1; rw [val_s] at this; exact this
  have g2 : DGet H1 p (.str "turn") (some (V.int (tn + 1))) := by have := DGet.k (k := kTurn) hp1; rw [val_t] at this; exact this
  show wB X _ D _ H1
  refine wb_of (pss_cons (ps_set (i := 4) nd (by rw [S.n]; rfl) (.inl S.l4) (pe_op op_mod (pe_ty1 S (pe_op op_add (pe_op op_add (pe_op op_mul (pot_get S) pe_int) (pe_op op_mul (pot_get S) pe_int)) pe_int) rfl) pe_int) rfl (.inr S.l4)) pb_w) ?_
  refine ⟨_, rfl, p, _, rfl, g1, sl, 69621, rfl, rfl, c64 (by decide) (by decide), _, rfl, p, _, rfl, g2, tn + 1, 40503, rfl, rfl, c64 (by decide) (by decide), _, _, rfl, rfl, _, _, rfl, rfl, .inl ⟨_, rfl, _, _, rfl, rfl, (by show (0 : Int) < _; decide), ?_⟩⟩
  show wB X _ D [some (.ref p), some (.int m), gv, none, some (.int ((sl * 69621 + (tn + 1) * 40503 + 29) % 4294967279))] H1
  generalize ho : (sl * 69621 + (tn + 1) * 40503 + 29) % 4294967279 = o1
  have ho1 := lt0 (a := 4294967279) (by decide) (sl * 69621 + (tn + 1) * 40503 + 29)
  rw [ho] at ho1
  refine wb_of (pss_cons (ps_set (i := 4) nd (by rw [S.n]; rfl) (.inl S.l4) (pe_op op_mod (pe_ty1 S (pe_op op_add (pe_op op_mul (v4 S) (v4 S)) (pe_op op_mul (pot_get S) pe_int)) rfl) pe_int) rfl (.inr S.l4)) pb_w) ?_
  refine ⟨_, rfl, _, rfl, o1, o1, rfl, rfl, c64 (by have := ho1.1; omega) (by have := ho1.2; omega), _, rfl, p, _, rfl, g1, sl, 7, rfl, rfl, c64 (by decide) (by decide), _, _, rfl, rfl, .inl ⟨_, rfl, _, _, rfl, rfl, (by show (0 : Int) < _; decide), ?_⟩⟩
  show wB X _ D [some (.ref p), some (.int m), gv, none, some (.int ((o1 * o1 + sl * 7) % 4294967231))] H1
  generalize ho2 : (o1 * o1 + sl * 7) % 4294967231 = o2
  have ho3 := lt0 (a := 4294967231) (by decide) (o1 * o1 + sl * 7)
  rw [ho2] at ho3
  refine wb_of (pss_cons (ps_dput (by have := S.hu; omega) (v0 S) pe_str (pe_op op_mod (pe_ty1 S (pe_op op_add (pe_op op_mul (pot_get S) pe_int) (v4 S)) rfl) pe_int) rfl) pb_w) ?_
  refine ⟨_, rfl, p, _, rfl, g1, sl, 48271, rfl, rfl, c64 (by decide) (by decide), _, rfl, _, _, rfl, rfl, .inl ⟨_, rfl, _, _, rfl, rfl, (by show (0 : Int) < _; decide), _, rfl, p, _, rfl, dput_s hp1, ?_⟩⟩
  show wB X _ D [some (.ref p), some (.int m), gv, none, some (.int o2)] (upd H1 p (.dK (potKv g ((sl * 48271 + o2) % 4294967291) (tn + 1))))
  have hs := lt0 (a := 4294967291) (by decide) (sl * 48271 + o2)
  generalize (sl * 48271 + o2) % 4294967291 = s2 at hs
  generalize hH2 : upd H1 p (.dK (potKv g s2 (tn + 1))) = H2
  have hp2 : H2 p = some (.dK (potKv g s2 (tn + 1))) := by rw [← hH2]; exact upd_same
  have same : ∀ a, a ≠ p → H2 a = H a := fun a z => by rw [← hH2, upd_ne z, ← hH1, upd_ne z]
  have ad : AfterDraw p g H H2 := by
    refine ⟨⟨ns, s2, tn + 1, hp2, by rw [same g (Ne.symm hne)]; exact hg, hns, hl, hs.1, hs.2, by omega⟩, fun a o e n _ => by rw [same a n]; exact e, fun a o e => ?_⟩
    by_cases z : a = p
    · subst z; exact ⟨_, hp2⟩
    · exact ⟨o, by rw [same a z]; exact e⟩
  show wB X _ D [some (.ref p), some (.int m), gv, none, some (.int o2)] H2
  refine wb_of (pss_one (ps_ret (pe_op op_mod (pe_ty1 S (pe_op op_fdiv (v4 S) pe_int) rfl) (v1 S)))) ?_
  refine ⟨_, rfl, _, _, rfl, rfl, by constructor <;> decide, .inl ⟨_, rfl, _, rfl, _, _, rfl, rfl, hm, ?_⟩⟩
  have := lt0 hm (o2 / 64)
  exact hQ _ H2 ad this.1 this.2
theorem draw_body (S : DrawSc X) (po : PotOk H p g) (hne : p ≠ g) (hm : 0 < m) (hm2 : m < 2 ^ 30) (hl1 : (q10.endLine == q11.line) = true) (hl2 : (q17.endLine == q21.line) = true) (hQ : ∀ r H', AfterDraw p g H H' → 0 ≤ r → r < m → D.rt (.int r) H') :
    wB X [.Assign [(.Name "great" q0)] (.Subscript (.Name "pot" q1) (.Constant (.str "great") 0 q2) q3) q4,
   .If (.Compare (.Name "great" q5) [.NotEq] [(.List [] q6)] q7) [.Assign [(.Name "cell" q8)] (.Call (.Attribute (.Name "great" q9) "pop" q10) [] [] q11) q12, .If (.Compare (.Name "cell" q13) [.GtE] [(.Name "many" q14)] q15) [.Expr (.Call (.Attribute (.Name "great" q16) "append" q17) [(.BinOp (.Name "cell" q18) .FloorDiv (.Name "many" q19) q20)] [] q21) q22] [] q23, .Return (some (.BinOp (.Call (.Name "int" q24) [(.Name "cell" q25)] [] q26) .Mod (.Name "many" q27) q28)) q29] [] q30,
   .Assign [(.Subscript (.Name "pot" q31) (.Constant (.str "turn") 0 q32) q33)] (.BinOp (.Subscript (.Name "pot" q34) (.Constant (.str "turn") 0 q35) q36) .Add (.Constant (.int 1) 0 q37) q38) q39,
   .Assign [(.Name "own" q40)] (.BinOp (.Call (.Name "int" q41) [(.BinOp (.BinOp (.BinOp (.Subscript (.Name "pot" q42) (.Constant (.str "seal") 0 q43) q44) .Mult (.Constant (.int 69621) 0 q45) q46) .Add (.BinOp (.Subscript (.Name "pot" q47) (.Constant (.str "turn") 0 q48) q49) .Mult (.Constant (.int 40503) 0 q50) q51) q52) .Add (.Constant (.int 29) 0 q53) q54)] [] q55) .Mod (.Constant (.int 4294967279) 0 q56) q57) q58,
   .Assign [(.Name "own" q59)] (.BinOp (.Call (.Name "int" q60) [(.BinOp (.BinOp (.Name "own" q61) .Mult (.Name "own" q62) q63) .Add (.BinOp (.Subscript (.Name "pot" q64) (.Constant (.str "seal") 0 q65) q66) .Mult (.Constant (.int 7) 0 q67) q68) q69)] [] q70) .Mod (.Constant (.int 4294967231) 0 q71) q72) q73,
   .Assign [(.Subscript (.Name "pot" q74) (.Constant (.str "seal") 0 q75) q76)] (.BinOp (.Call (.Name "int" q77) [(.BinOp (.BinOp (.Subscript (.Name "pot" q78) (.Constant (.str "seal") 0 q79) q80) .Mult (.Constant (.int 48271) 0 q81) q82) .Add (.Name "own" q83) q84)] [] q85) .Mod (.Constant (.int 4294967291) 0 q86) q87) q88,
   .Return (some (.BinOp (.Call (.Name "int" q89) [(.BinOp (.Name "own" q90) .FloorDiv (.Constant (.int 64) 0 q91) q92)] [] q93) .Mod (.Name "many" q94) q95)) q96] D [some (.ref p), some (.int m), none, none, none] H := by
  have nd : X.N.Nodup := by rw [S.n]; exact dn_nd
  obtain ⟨ns, sl, tn, hp, hg, hns, hl, h1, h2, h3⟩ := po
  have hp : H p = some (.dK (potKv g sl tn)) := hp
  refine wb_of (pss_cons (ps_set (i := 2) nd (by rw [S.n]; rfl) (.inl S.l2) (pot_get S) rfl (.inr S.l2)) pb_w) ?_
  refine ⟨_, rfl, p, V.ref g, rfl, ?_, ?_⟩
  · have := DGet.k (k := kGreat) hp; rw [val_g] at this; exact this
  show wB X _ D [some (.ref p), some (.int m), some (.ref g), none, none] H
  refine wb_of (pss_cons (ps_if (pt_cmpR (op_neD (by have := S.hu; omega)) (v2 S) (pe_lst pa_nil) rfl) pb_w pb_w) pb_w) ?_
  refine ⟨_, rfl, (by rw [sizeLine_eq]; exact Nat.zero_le _), fun q hq => ?_⟩
  have qp : p ≠ q := fun z => by subst z; rw [hq] at hp; cases hp
  have qg : g ≠ q := fun z => by subst z; rw [hq] at hg; cases hg
  generalize hH1 : upd H q (.lst []) = H1
  have hp1 : H1 p = some (.dK (potKv g sl tn)) := by rw [← hH1, upd_ne qp]; exact hp
  have hg1 : H1 g = some (.lst (ns.map V.int)) := by rw [← hH1, upd_ne qg]; exact hg
  have hq1 : H1 q = some (.lst []) := by rw [← hH1]; exact upd_same
  have k1 : ∀ a o, H a = some o → H1 a = some o := fun a o e => by
    rw [← hH1, upd_ne (fun z => by subst z; rw [hq] at e; cases e)]; exact e
  refine ⟨.list (ns.map .int), .list [], .lst (SqL.of hg1) (RepAll.dp (F := fun _ => False) _ _ (RepAll.ofInts ns)), .lst (SqL.of hq1) .nil, PySem.W.shaped_ints ns, rfl, _, rfl, ?_⟩
  have after : ∀ {H2 : Hp}, AfterDraw p g H1 H2 → AfterDraw p g H H2 := fun {H2} a => ⟨a.ok, fun b o e n1 n2 => a.keep b o (k1 b o e) n1 n2, fun b o e => a.live b o (k1 b o e)⟩
  cases ns using List.rec with
  | nil =>
    refine iteF ?_
    refine wb_of pss_nil ?_
    exact draw_tail S hp1 hg1 hne hns hl h1 h2 h3 hm hm2 fun r H' a r1 r2 => hQ r H' (after a) r1 r2
  | cons n0 nr _ =>
    refine iteT ?_
    obtain ⟨ms, c, em⟩ : ∃ ms c, n0 :: nr = ms ++ [c] := ⟨(n0 :: nr).dropLast, (n0 :: nr).getLast (by simp), (List.dropLast_concat_getLast (by simp)).symm⟩
    rw [em] at hg1 hns hl
    rw [List.map_append] at hg1
    have hc : 0 ≤ c := hns c (by simp)
    refine wb_of (pss_cons (ps_set (i := 3) nd (by rw [S.n]; rfl) (.inl S.l3) (pe_bm0 PySem.F.plainAttrs_list PySem.F.slot_list_pop PySem.F.type_list_pop mt_pop (v2 S) rfl hl1) rfl (.inr S.l3)) pb_w) ?_
    refine ⟨_, rfl, .inl ⟨rfl, _, SqL.of hg1⟩, g, _, V.int c, rfl, rfl, hg1, by simp, ?_⟩
    have e1 : (List.map V.int ms ++ List.map V.int [c]).dropLast = ms.map V.int := by
      show (List.map V.int ms ++ [V.int c]).dropLast = _
      rw [List.dropLast_concat]
    rw [e1]
    generalize hH2 : upd H1 g (.lst (ms.map V.int)) = H2
    have hp2 : H2 p = some (.dK (potKv g sl tn)) := by rw [← hH2, upd_ne hne]; exact hp1
    have hg2 : H2 g = some (.lst (ms.map V.int)) := by rw [← hH2]; exact upd_same
    have hms : ∀ n ∈ ms, 0 ≤ n := fun n h => hns n (List.mem_append_left _ h)
    have hlm : ms.length ≤ 61 := by simp at hl; omega
    have last : ∀ {D' : Ends} {H3 : Hp} {ns' : List Int}, D'.rt = D.rt → H3 p = some (.dK (potKv g sl tn)) → H3 g = some (.lst (ns'.map V.int)) → (∀ n ∈ ns', 0 ≤ n) → ns'.length ≤ 62 → (∀ a, a ≠ g → H3 a = H1 a) →
        wB X [.Return (some (.BinOp (.Call (.Name "int" q24) [(.Name "cell" q25)] [] q26) .Mod (.Name "many" q27) q28)) q29] D' [some (.ref p), some (.int m), some (.ref g), some (.int c), none] H3 := fun {D' H3 ns'} a0 a1 a2 a3 a4 a5 => by
      refine wb_of (pss_one (ps_ret (pe_op op_mod (pe_ty1 S (v3 S) rfl) (v1 S)))) ?_
      refine ⟨_, rfl, .inl ⟨_, rfl, _, rfl, _, _, rfl, rfl, hm, ?_⟩⟩
      have b := lt0 hm c
      show D'.rt (.int (c % m)) H3
      rw [a0]
      refine hQ _ H3 ⟨⟨ns', sl, tn, a1, a2, a3, a4, h1, h2, h3⟩, fun a o e n1 n2 => by rw [a5 a n2]; exact k1 a o e, fun a o e => ?_⟩ b.1 b.2
      by_cases z : a = g
      · subst z; exact ⟨_, a2⟩
      · exact ⟨o, by rw [a5 a z]; exact k1 a o e⟩
    show wB X _ _ [some (.ref p), some (.int m), some (.ref g), some (.int c), none] H2
    refine wb_of (pss_cons (ps_if (pt_cmpR op_ge (v3 S) (v1 S) rfl) pb_w pb_w) pb_w) ?_
    refine ⟨_, rfl, _, rfl, c, m, rfl, rfl, _, rfl, ?_⟩
    by_cases hcm : m ≤ c
    · rw [decide_eq_true hcm]
      refine iteT ?_
      refine wb_of (pss_one (ps_expr (pe_bm PySem.F.plainAttrs_list PySem.F.slot_list_append PySem.F.type_list_append mt_append (v2 S) (pa_cons (pe_op op_fdiv (v3 S) (v1 S)) pa_nil rfl) rfl (few1 rfl) hl2 rfl rfl) rfl)) ?_
      refine ⟨_, rfl, .inl ⟨rfl, _, SqL.of hg2⟩, _, rfl, _, rfl, c, m, rfl, rfl, ⟨hm, hm2⟩, g, _, V.int (c / m), rfl, rfl, hg2, by rw [List.length_map, sizeLine_eq]; omega, ?_⟩
      have e2 : List.map V.int ms ++ [V.int (c / m)] = (ms ++ [c / m]).map V.int := by simp
      rw [e2]
      refine last rfl (by rw [upd_ne hne]; exact hp2) upd_same (fun n h => ?_) (by simp; omega) fun a z => by rw [upd_ne z, ← hH2, upd_ne z]
      rcases List.mem_append.mp h with h | h
      · exact hms n h
      · rw [List.mem_singleton.mp h]; exact Int.ediv_nonneg hc (by omega)
    · rw [decide_eq_false hcm]
      refine iteF ?_
      refine wb_of pss_nil ?_
      exact last rfl hp2 hg2 hms (by omega) fun a z => by rw [← hH2, upd_ne z]
end
end Ev
set_option Elab.async false
set_option linter.all false
set_option maxRecDepth 100000
/-! Ev14: reckoning with readings. -/
namespace Ev
open PySem PySem.Spec PyProof.Rows L2

abbrev I (i : Int) : PyData := .int i
abbrev T (xs : List PyData) : PyData := .tuple xs
/-- a tuple of ints -/
abbrev TI (xs : List Int) : PyData := .tuple (xs.map .int)

@[simp] theorem get_v {env : Env} {x : Val} : Rv.get env (.v x) = some x := rfl
@[simp] theorem get_si {env : Env} {i : Nat} : Rv.get env (.s i) = (match env[i]? with
    | some (some x) => some x
    | _ => none) := rfl
@[simp] theorem sh_own {xs : List PyData} {env : Env} {Φ} : shR (.v (.own xs)) env Φ = Φ (.d (.list xs)) env := rfl
@[simp] theorem sh_d {x : PyData} {env : Env} {Φ} : shR (.v (.d x)) env Φ = Φ (.d x) env := rfl
@[simp] theorem sh_pot {env : Env} {Φ} : shR (.v .pot) env Φ = Φ .pot env := rfl
@[simp] theorem sh_s {i : Nat} {env : Env} {Φ} : shR (.s i) env Φ = (match env[i]? with
  | some (some (.own xs)) => Φ (.d (.list xs)) (env.set i (some (.d (.list xs))))
  | some (some (.d x)) => Φ (.d x) env
  | some (some .pot) => Φ .pot env
  | _ => False) := rfl
@[simp] theorem toI_i {i : Int} : toI (.d (.int i)) = some i := rfl
@[simp] theorem toI_t {xs} : toI (.d (.tuple xs)) = none := rfl
@[simp] theorem toI_l {xs} : toI (.d (.list xs)) = none := rfl
@[simp] theorem toI_o {xs} : toI (.own xs) = none := rfl
@[simp] theorem toI_s {xs} : toI (.d (.str xs)) = none := rfl
@[simp] theorem toB_b {b : Bool} : toB (.d (.bool b)) = some b := rfl
@[simp] theorem toL_o {xs} : toL (.own xs) = some xs := rfl
@[simp] theorem toL_l {xs} : toL (.d (.list xs)) = some xs := rfl
@[simp] theorem toL_t {xs} : toL (.d (.tuple xs)) = none := rfl
@[simp] theorem toL_i {i} : toL (.d (.int i)) = none := rfl
@[simp] theorem toL_s {i} : toL (.d (.str i)) = none := rfl
@[simp] theorem toT_t {xs} : toT (.d (.tuple xs)) = some xs := rfl
@[simp] theorem toT_o {xs} : toT (.own xs) = none := rfl
@[simp] theorem toT_l {xs} : toT (.d (.list xs)) = none := rfl
@[simp] theorem toT_i {i} : toT (.d (.int i)) = none := rfl
@[simp] theorem toT_s {i} : toT (.d (.str i)) = none := rfl
@[simp] theorem toS_t {xs} : toS (.d (.tuple xs)) = some xs := rfl
@[simp] theorem toS_o {xs} : toS (.own xs) = some xs := rfl
@[simp] theorem toS_l {xs} : toS (.d (.list xs)) = some xs := rfl
@[simp] theorem toS_i {i} : toS (.d (.int i)) = none := rfl
@[simp] theorem toD_d {x} : toD (.d x) = some x := rfl
@[simp] theorem toD_o {x} : toD (.own x) = some (.list x) := rfl
@[simp] theorem datas_nil : datas [] = some [] := rfl
@[simp] theorem datas_cons {x r} : datas (.d x :: r) = (datas r).map fun t => x :: t := rfl
@[simp] theorem isn_none : isNone (.d .none) = true := rfl
@[simp] theorem isn_t {xs} : isNone (.d (.tuple xs)) = false := rfl
@[simp] theorem isn_s {xs} : isNone (.d (.str xs)) = false := rfl
@[simp] theorem isn_b {xs} : isNone (.d (.bool xs)) = false := rfl
@[simp] theorem isn_i {xs} : isNone (.d (.int xs)) = false := rfl
@[simp] theorem truth_b {b} : truth (.d (.bool b)) = some b := rfl
@[simp] theorem truth_i {b} : truth (.d (.int b)) = some (b != 0) := rfl
@[simp] theorem truth_t {b} : truth (.d (.tuple b)) = some (!b.isEmpty) := rfl
@[simp] theorem truth_l {b} : truth (.d (.list b)) = some (!b.isEmpty) := rfl
@[simp] theorem truth_o {b} : truth (.own b) = some (!b.isEmpty) := rfl
/-! operators on known kinds -/
@[simp] theorem add_i {a b : Int} {Φ} : oAdd (.d (.int a)) (.d (.int b)) Φ ↔ Φ (.d (.int (a + b))) := by simp [oAdd, oCatT, oCatL, oCatS]
@[simp] theorem add_t {a b} {Φ} : oAdd (.d (.tuple a)) (.d (.tuple b)) Φ ↔ a.length + b.length ≤ 16777216 ∧ Φ (.d (.tuple (a ++ b))) := by simp [oAdd, oCatT, oCatL, oCatS]
@[simp] theorem add_oo {a b} {Φ} : oAdd (.own a) (.own b) Φ ↔ a.length + b.length ≤ 16777216 ∧ Φ (.own (a ++ b)) := by simp [oAdd, oCatT, oCatL, oCatS]
@[simp] theorem add_ol {a b} {Φ} : oAdd (.own a) (.d (.list b)) Φ ↔ a.length + b.length ≤ 16777216 ∧ Φ (.own (a ++ b)) := by simp [oAdd, oCatT, oCatL, oCatS]
@[simp] theorem add_lo {a b} {Φ} : oAdd (.d (.list a)) (.own b) Φ ↔ a.length + b.length ≤ 16777216 ∧ Φ (.own (a ++ b)) := by simp [oAdd, oCatT, oCatL, oCatS]
@[simp] theorem add_ll {a b} {Φ} : oAdd (.d (.list a)) (.d (.list b)) Φ ↔ a.length + b.length ≤ 16777216 ∧ Φ (.own (a ++ b)) := by simp [oAdd, oCatT, oCatL, oCatS]
@[simp] theorem mul_i {a b : Int} {Φ} : oMul (.d (.int a)) (.d (.int b)) Φ ↔ CM a b ∧ Φ (.d (.int (a * b))) := by simp [oMul, oRepL, oRepT, oRepF]
theorem flat_one (n : Nat) (x : PyData) : (List.replicate n [x]).flatten = List.replicate n x := by
  induction n with
  | zero => rfl
  | succ n ih => rw [List.replicate_succ, List.flatten_cons, ih]; rfl
/-- (x,) * n -/
theorem mul_one {x : PyData} {n : Nat} {Φ : Val → Prop} (hn : n ≤ 1000) (h : Φ (.d (.tuple (List.replicate n x)))) : oMul (.d (.tuple [x])) (.d (.int n)) Φ := by
  rcases Nat.lt_or_ge n 2 with h2 | h2
  · refine .inr (.inr (.inr ⟨[x], n, rfl, rfl, ?_⟩))
    rcases (show n = 0 ∨ n = 1 by omega) with rfl | rfl
    · exact .inr ⟨by omega, by omega, by simp, h⟩
    · exact .inl ⟨rfl, h⟩
  · refine .inr (.inr (.inl ⟨[x], n, rfl, rfl, by simp, by omega, by omega, by simp, ?_⟩))
    rw [Int.toNat_natCast, flat_one]
    exact h
/-- [x] * n -/
theorem mul_oneL {x : PyData} {n : Nat} {Φ : Val → Prop} (hn : n ≤ 16777216) (h : Φ (.own (List.replicate n x))) : oMul (.own [x]) (.d (.int n)) Φ := by
  refine .inr (.inl ⟨[x], n, rfl, rfl, by omega, by omega, by simp; omega, ?_⟩)
  rw [Int.toNat_natCast, flat_one]
  exact h
@[simp] theorem div_i {a b : Int} {Φ} : oDiv (.d (.int a)) (.d (.int b)) Φ ↔ CDiv a b ∧ Φ (.d (.int (a / b))) := by simp [oDiv]
@[simp] theorem is_none {v} {Φ} : oIs v (.d .none) Φ ↔ Φ (.d (.bool (isNone v))) := by simp [oIs]
@[simp] theorem isnot_none {v} {Φ} : oIsNot v (.d .none) Φ ↔ Φ (.d (.bool (!isNone v))) := by simp [oIsNot]
@[simp] theorem is_bool {a b} {Φ} : oIs (.d (.bool a)) (.d (.bool b)) Φ ↔ Φ (.d (.bool (decide (a = b)))) := by simp [oIs]
@[simp] theorem isnot_bool {a b} {Φ} : oIsNot (.d (.bool a)) (.d (.bool b)) Φ ↔ Φ (.d (.bool (!decide (a = b)))) := by simp [oIsNot]
@[simp] theorem sl_t {xs lo hi} {Φ} : oSl (.d (.tuple xs)) lo hi Φ ↔ Φ (.d (.tuple (cutD xs lo hi))) := by simp [oSl]
@[simp] theorem sl_l {xs lo hi} {Φ} : oSl (.d (.list xs)) lo hi Φ ↔ Φ (.own (cutD xs lo hi)) := by simp [oSl]
@[simp] theorem sl_o {xs lo hi} {Φ} : oSl (.own xs) lo hi Φ ↔ Φ (.own (cutD xs lo hi)) := by simp [oSl]
theorem cm_small {a b : Int} (h : -(2 ^ 64) < a ∧ a < 2 ^ 64) : CM a b := .inl (.inl h)
theorem cm_small' {a b : Int} (h : -(2 ^ 64) < b ∧ b < 2 ^ 64) : CM a b := .inl (.inr h)

/-! ### loops -/
theorem forW_inv {dt : DT} {b : DS} {K : KE} (J : List PyData → Env → Prop) (hnil : ∀ env, J [] env → K.nx env)
    (hstep : ∀ x xs env, J (x :: xs) env → ∀ N : Env → Prop, (∀ e, J xs e → N e) → dt x env fun e1 => b { nx := N, ct := N, bk := K.nx, rt := K.rt } e1) :
    ∀ (l : List PyData) (env : Env), J l env → forW dt b K l env
  | [], env, h => hnil env h
  | x :: xs, env, h => hstep x xs env h _ fun e he => forW_inv J hnil hstep xs e he
/-- over items that are f of something; the state is told by what is left -/
theorem forW_map {α : Type} {dt : DT} {b : DS} {K : KE} (f : α → PyData) (J : List α → Env → Prop) (hnil : ∀ env, J [] env → K.nx env)
    (hstep : ∀ x xs env, J (x :: xs) env → ∀ N : Env → Prop, (∀ e, J xs e → N e) → dt (f x) env fun e1 => b { nx := N, ct := N, bk := K.nx, rt := K.rt } e1) :
    ∀ (l : List α) (env : Env), J l env → forW dt b K (l.map f) env
  | [], env, h => hnil env h
  | x :: xs, env, h => hstep x xs env h _ fun e he => forW_map f J hnil hstep xs e he
theorem forW_range' {dt : DT} {b : DS} {K : KE} (f : Nat → PyData) (n : Nat) (J : Nat → Env → Prop) (hnil : ∀ env, J n env → K.nx env)
    (hstep : ∀ i, i < n → ∀ env, J i env → ∀ N : Env → Prop, (∀ e, J (i + 1) e → N e) → dt (f i) env fun e1 => b { nx := N, ct := N, bk := K.nx, rt := K.rt } e1) :
    ∀ (m i : Nat) (env : Env), i + m = n → J i env → forW dt b K ((List.range' i m).map f) env
  | 0, i, env, e, h => hnil env (by rw [← e]; exact h)
  | m + 1, i, env, e, h => by
    rw [List.range'_succ]
    exact hstep i (by omega) env h _ fun e' he => forW_range' f n J hnil hstep m (i + 1) e' (by omega) he
theorem forW_range {dt : DT} {b : DS} {K : KE} (f : Nat → PyData) (n : Nat) (J : Nat → Env → Prop) (hnil : ∀ env, J n env → K.nx env)
    (hstep : ∀ i, i < n → ∀ env, J i env → ∀ N : Env → Prop, (∀ e, J (i + 1) e → N e) → dt (f i) env fun e1 => b { nx := N, ct := N, bk := K.nx, rt := K.rt } e1) (env : Env) (h : J 0 env) :
    forW dt b K ((List.range n).map f) env := by
  rw [List.range_eq_range']
  exact forW_range' f n J hnil hstep n 0 env (by omega) h
theorem ix_nat {n i : Nat} (h : i < n) : ixN n (i : Int) = some i := by
  unfold ixN
  rw [if_pos (by omega), if_pos (by omega)]
  simp
theorem at_nat {α : Type} {xs : List α} {i : Nat} {x : α} (h : xs[i]? = some x) : atI xs (i : Int) = some x := by
  unfold atI
  rw [ix_nat (List.getElem?_eq_some_iff.mp h).1]
  exact h
/-- a comprehension that leaves the names as they are -/
theorem compW_map {α : Type} {dt : DT} {dc : DB} {de : DO} {vs : List Nat} {Φ : List PyData → Env → Prop} {env : Env} (f : α → PyData) (p : α → Bool) (g : α → PyData) :
    ∀ (l : List α) (acc : List PyData), acc.length + l.length ≤ 16777216 →
    (∀ x ∈ l, ∀ (N : PyData → Env → Prop) (S : Env → Prop), (p x = true → N (g x) env) → (p x = false → S env) →
      dt (f x) env fun e1 => dc e1 fun k e2 => (k = true → de e2 fun r e3 => shR r e3 fun v e4 => ∃ d, v = .d d ∧ N d (wipeE e4 vs)) ∧ (k = false → S (wipeE e2 vs))) →
    Φ (acc ++ (l.filter p).map g) env → compW dt dc de vs (l.map f) env acc Φ
  | [], acc, _, _, h => by simpa [compW] using h
  | x :: xs, acc, hl, hs, h => by
    have hl' : acc.length + (xs.length + 1) ≤ 16777216 := by simpa using hl
    have := hs x (List.mem_cons_self ..) (fun d e => acc.length < 16777216 ∧ compW dt dc de vs (xs.map f) e (acc ++ [d]) Φ) (fun e => compW dt dc de vs (xs.map f) e acc Φ)
      (fun hp => ⟨by omega, compW_map f p g xs (acc ++ [g x]) (by simp; omega) (fun y hy => hs y (List.mem_cons_of_mem _ hy)) (by simpa [List.filter_cons, hp] using h)⟩)
      (fun hp => compW_map f p g xs acc (by omega) (fun y hy => hs y (List.mem_cons_of_mem _ hy)) (by simpa [List.filter_cons, hp] using h))
    exact this
/-- without a test -/
theorem compW_all {α : Type} {dt : DT} {de : DO} {vs : List Nat} {Φ : List PyData → Env → Prop} {env : Env} (f : α → PyData) (g : α → PyData) (l : List α) (hl : l.length ≤ 16777216)
    (hs : ∀ x ∈ l, ∀ (N : PyData → Env → Prop), N (g x) env → dt (f x) env fun e1 => de e1 fun r e3 => shR r e3 fun v e4 => ∃ d, v = .d d ∧ N d (wipeE e4 vs))
    (h : Φ (l.map g) env) : compW dt dYes de vs (l.map f) env [] Φ :=
  compW_map f (fun _ => true) g l [] (by simpa using hl) (fun x hx N S hN hS => by simpa using hs x hx N (hN rfl)) (by
    have e : l.filter (fun _ => true) = l := List.filter_eq_self.mpr fun _ _ => rfl
    rw [e]; exact h)
end Ev
set_option Elab.async false
set_option linter.all false
set_option maxRecDepth 100000
/-! V1: rows of bits. -/
namespace Ev
open PySem PySem.Spec PyProof.Rows L2

/-! ### items of known kinds -/
theorem zip_ints (xs ys : List Int) : zipD (xs.map .int) (ys.map .int) = (xs.zip ys).map fun p => PyData.tuple [.int p.1, .int p.2] := by
  unfold zipD
  rw [List.zip_map, List.map_map]; rfl
def Bits (xs : List Int) : Prop := ∀ b ∈ xs, b = 0 ∨ b = 1
theorem Bits.nil : Bits [] := fun _ h => by cases h
theorem Bits.app {xs ys : List Int} (h : Bits xs) (h' : Bits ys) : Bits (xs ++ ys) := fun b hb => (List.mem_append.mp hb).elim (h b) (h' b)
theorem Bits.head {x : Int} {xs : List Int} (h : Bits (x :: xs)) : x = 0 ∨ x = 1 := h x (List.mem_cons_self ..)
theorem Bits.tail {x : Int} {xs : List Int} (h : Bits (x :: xs)) : Bits xs := fun b hb => h b (List.mem_cons_of_mem _ hb)

/-! ### row_place -/
def placeF (a : Int) (xs : List Int) : Int := xs.foldl (fun a b => 2 * a + b) a
def sp_row_place : FSpec := fun args Φ => ∃ xs : List Int, args = [.d (TI xs)] ∧ Φ (.d (.int (placeF 0 xs)))
def D_row_place : DS := (dSeq (dSet 1 (dC (.int 0))) (dSeq (dFor (dSeqI (dVar 0)) (tName 2) (dSeq (dSet 1 (dBin oAdd (dBin oMul (dC (.int 2)) (dVar 1)) (dVar 2))) dNext)) (dSeq (dRet (dVar 1)) dNext)))
theorem v_row_place (args : List Val) (Φ : Val → Prop) (h : sp_row_place args Φ) : D_row_place (kRet Φ) (envS ["row", "found", "bit"] args) := by
  obtain ⟨xs, rfl, hΦ⟩ := h
  simp [D_row_place, envS]
  refine forW_map PyData.int (fun r e => ∃ a z, e = [some (.d (TI xs)), some (.d (.int a)), z] ∧ placeF a r = placeF 0 xs) ?_ ?_ xs _ ⟨0, none, rfl, rfl⟩
  · rintro e ⟨a, z, rfl, h⟩
    have h : a = placeF 0 xs := h
    simpa [h] using hΦ
  · rintro x r e ⟨a, z, rfl, h⟩ N hN
    simp
    exact ⟨cm_small (by omega), hN _ ⟨_, _, rfl, h⟩⟩

/-! ### row_at -/
def rowAt : Nat → Int → List Int
  | 0, _ => []
  | n + 1, p => rowAt n (p / 2) ++ [p % 2]
theorem rowAt_length : ∀ (n : Nat) (p : Int), (rowAt n p).length = n
  | 0, _ => rfl
  | n + 1, p => by simp [rowAt, rowAt_length n]
def sp_row_at : FSpec := fun args Φ => ∃ (n : Nat) (p : Int), args = [.d (.int n), .d (.int p)] ∧ n ≤ 1000 ∧ Φ (.d (TI (rowAt n p)))
def D_row_at : DS := (dSeq (dSet 2 (dLst dNil)) (dSeq (dFor (dRng1 (dCons (dVar 0) dNil)) (tName 3) (dSeq (dExpr (dApp 2 (dBin oMod (dVar 1) (dC (.int 2))))) (dSeq (dSet 1 (dBin oDiv (dVar 1) (dC (.int 2)))) dNext))) (dSeq (dRet (dUn oTuple (dUn oRev (dVar 2)))) dNext)))
theorem v_row_at (args : List Val) (Φ : Val → Prop) (h : sp_row_at args Φ) : D_row_at (kRet Φ) (envS ["n", "place", "found", "step"] args) := by
  obtain ⟨n, p, rfl, hn, hΦ⟩ := h
  simp [D_row_at, envS]
  refine ⟨by omega, ?_⟩
  refine forW_map (fun i : Nat => PyData.int i) (fun r e => ∃ (q : Int) (ds : List Int) (z : Option Val), e = [some (.d (.int n)), some (.d (.int q)), some (.own (ds.map .int)), z] ∧ ds.length + r.length = n ∧ rowAt r.length q ++ ds.reverse = rowAt n p) ?_ ?_ (List.range n) _ ⟨p, [], none, rfl, by simp, by simp⟩
  · rintro e ⟨q, ds, z, rfl, h1, h2⟩
    have h2 : ds.reverse = rowAt n p := h2
    simp
    rw [← List.map_reverse, h2]
    exact hΦ
  · rintro x r e ⟨q, ds, z, rfl, h1, h2⟩ N hN
    simp at h1 ⊢
    refine ⟨by omega, ⟨by decide, by decide⟩, hN _ ⟨q / 2, ds ++ [q % 2], _, by simp; rfl, by simp; omega, ?_⟩⟩
    rw [← h2]
    simp [rowAt]

/-! ### rows_added, rows_product -/
def addR (xs ys : List Int) : List Int := (xs.zip ys).map fun p => (p.1 + p.2) % 2
def sp_rows_added : FSpec := fun args Φ => ∃ xs ys : List Int, args = [.d (TI xs), .d (TI ys)] ∧ xs.length ≤ 1000 ∧ Φ (.d (TI (addR xs ys)))
def D_rows_added : DS := (dSeq (dRet (dUn oTuple (dLc [2, 3] (dZip (dCons (dVar 0) (dCons (dVar 1) dNil))) (tTup 2 (tCons (tName 2) (tCons (tName 3) tNil))) dYes (dBin oMod (dBin oAdd (dVar 2) (dVar 3)) (dC (.int 2)))))) dNext)
theorem v_rows_added (args : List Val) (Φ : Val → Prop) (h : sp_rows_added args Φ) : D_rows_added (kRet Φ) (envS ["one", "other", "a", "b"] args) := by
  obtain ⟨xs, ys, rfl, hl, hΦ⟩ := h
  simp [D_rows_added, envS, and_assoc]
  rw [zip_ints]
  refine compW_all _ (fun p : Int × Int => .int ((p.1 + p.2) % 2)) _ (by simp; omega) (fun x hx N hN => ?_) ?_
  · simpa [wipeE, and_assoc] using hN
  · simp only [TI, addR, List.map_map] at hΦ
    exact hΦ
def prodR (xs ys : List Int) : Int := ((xs.zip ys).map fun p => p.1 * p.2).sum % 2
def sp_rows_product : FSpec := fun args Φ => ∃ xs ys : List Int, args = [.d (TI xs), .d (TI ys)] ∧ xs.length ≤ 1000 ∧ Bits xs ∧ Φ (.d (.int (prodR xs ys)))
def D_rows_product : DS := (dSeq (dRet (dBin oMod (dUn oSum (dLc [2, 3] (dZip (dCons (dVar 0) (dCons (dVar 1) dNil))) (tTup 2 (tCons (tName 2) (tCons (tName 3) tNil))) dYes (dBin oMul (dVar 2) (dVar 3)))) (dC (.int 2)))) dNext)
theorem v_rows_product (args : List Val) (Φ : Val → Prop) (h : sp_rows_product args Φ) : D_rows_product (kRet Φ) (envS ["one", "other", "a", "b"] args) := by
  obtain ⟨xs, ys, rfl, hl, hb, hΦ⟩ := h
  simp [D_rows_product, envS, and_assoc]
  rw [zip_ints]
  refine compW_all _ (fun p : Int × Int => .int (p.1 * p.2)) _ (by simp; omega) (fun x hx N hN => ?_) ?_
  · simp [wipeE, and_assoc]
    refine ⟨cm_small ?_, hN⟩
    rcases hb x.1 (List.of_mem_zip hx).1 with h | h <;> rw [h] <;> omega
  · simp [backE, oSum]
    refine ⟨(xs.zip ys).map fun p => p.1 * p.2, by simp, ?_⟩
    simpa [prodR] using hΦ

/-! ### all_rows -/
def rowsN : Nat → List (List Int)
  | 0 => [[]]
  | n + 1 => (rowsN n).flatMap fun r => [r ++ [0], r ++ [1]]
theorem rowsN_length : ∀ n, (rowsN n).length = 2 ^ n
  | 0 => rfl
  | n + 1 => by
    have e : ∀ l : List (List Int), (l.flatMap fun r => [r ++ [(0 : Int)], r ++ [1]]).length = 2 * l.length := fun l => by
      induction l with
      | nil => rfl
      | cons x l ih => simp [List.flatMap_cons, ih]; omega
    rw [rowsN, e, rowsN_length n, Nat.pow_succ]; omega
theorem rowsN_row : ∀ {n : Nat} {r : List Int}, r ∈ rowsN n → r.length = n ∧ Bits r
  | 0, r, h => by simp [rowsN] at h; subst h; exact ⟨rfl, .nil⟩
  | n + 1, r, h => by
    simp [rowsN] at h
    obtain ⟨q, hq, h⟩ := h
    obtain ⟨h1, h2⟩ := rowsN_row hq
    rcases h with rfl | rfl
    · exact ⟨by simp [h1], h2.app fun b hb => by simp at hb; exact .inl hb⟩
    · exact ⟨by simp [h1], h2.app fun b hb => by simp at hb; exact .inr hb⟩
def grow1 (rs : List (List Int)) : List (List Int) := rs.flatMap fun r => [r ++ [0], r ++ [1]]
def sp_all_rows : FSpec := fun args Φ => ∃ n : Nat, args = [.d (.int n)] ∧ n ≤ 12 ∧ Φ (.d (T ((rowsN n).map TI)))
def D_all_rows : DS := (dSeq (dSet 1 (dLst (dCons (dTup dNil) dNil))) (dSeq (dFor (dRng1 (dCons (dVar 0) dNil)) (tName 2) (dSeq (dSet 3 (dLst dNil)) (dSeq (dFor (dSeqI (dVar 1)) (tName 4) (dSeq (dExpr (dExt 3 (dLst (dCons (dBin oAdd (dVar 4) (dTup (dCons (dC (.int 0)) dNil))) (dCons (dBin oAdd (dVar 4) (dTup (dCons (dC (.int 1)) dNil))) dNil))))) dNext)) (dSeq (dSet 1 (dVar 3)) dNext)))) (dSeq (dRet (dUn oTuple (dVar 1))) dNext)))
/-- the inner loop over rows -/
theorem rows_inner {K : KE} {n : Val} {st : Option Val} {k : Nat} (hk : k ≤ 12) (rs : List (List Int)) (hr : rs = rowsN k) (h : ∀ z, K.nx [some n, some (.d (.list (rs.map TI))), st, some (.own ((rowsN (k + 1)).map TI)), z]) (z0 : Option Val) :
    forW (tName 4) (dSeq (dExpr (dExt 3 (dLst (dCons (dBin oAdd (dVar 4) (dTup (dCons (dC (.int 0)) dNil))) (dCons (dBin oAdd (dVar 4) (dTup (dCons (dC (.int 1)) dNil))) dNil))))) dNext) K (rs.map TI) [some n, some (.d (.list (rs.map TI))), st, some (.own []), z0] := by
  have len : (rowsN k).length ≤ 4096 := by rw [rowsN_length]; exact Nat.pow_le_pow_right (by decide) hk
  refine forW_map TI (fun r e => ∃ (done : List (List Int)) (z : Option Val), e = [some n, some (.d (.list (rs.map TI))), st, some (.own ((grow1 done).map TI)), z] ∧ done ++ r = rs) ?_ ?_ rs _ ⟨[], z0, rfl, rfl⟩
  · rintro e ⟨done, z, rfl, h2⟩
    simp at h2
    have := h z
    rw [rowsN, ← hr, ← h2] at this
    rw [h2] at this ⊢
    exact this
  · rintro x r e ⟨done, z, rfl, h2⟩ N hN
    have hx : x ∈ rowsN k := by rw [← hr, ← h2]; simp
    have hx1 := (rowsN_row hx).1
    have hd : done.length ≤ 4096 := by
      have : done.length ≤ rs.length := by rw [← h2]; simp
      rw [hr] at this; omega
    have hg : (grow1 done).length ≤ 8192 := by
      have e : ∀ l : List (List Int), (grow1 l).length = 2 * l.length := fun l => by
        induction l with
        | nil => rfl
        | cons x l ih => simp [grow1, List.flatMap_cons] at ih ⊢; omega
      rw [e]; omega
    simp
    refine ⟨by omega, by omega, ?_⟩
    refine hN _ ⟨done ++ [x], some (.d (TI x)), ?_, by simpa using h2⟩
    simp [grow1]
theorem v_all_rows (args : List Val) (Φ : Val → Prop) (h : sp_all_rows args Φ) : D_all_rows (kRet Φ) (envS ["n", "found", "step", "longer", "row"] args) := by
  obtain ⟨n, rfl, hn, hΦ⟩ := h
  simp [D_all_rows, envS]
  refine ⟨by omega, ?_⟩
  refine forW_map (fun i : Nat => PyData.int i) (fun r e => ∃ (k : Nat) (v : Val) (z1 z2 z3 : Option Val), e = [some (.d (.int n)), some v, z1, z2, z3] ∧ toL v = some ((rowsN k).map TI) ∧ toS v = some ((rowsN k).map TI) ∧ k + r.length = n) ?_ ?_ (List.range n) _ ⟨0, _, none, none, none, rfl, rfl, rfl, by simp⟩
  · rintro e ⟨k, v, z1, z2, z3, rfl, h1, h2, h3⟩
    simp at h3
    subst h3
    simp [h2]
    exact hΦ
  · rintro x r e ⟨k, v, z1, z2, z3, rfl, h1, h2, h3⟩ N hN
    simp at h3
    cases v with
    | own xs =>
      cases h1
      simp
      exact rows_inner (by omega) _ rfl (fun z => by simp; exact hN _ ⟨k + 1, _, _, _, _, rfl, rfl, rfl, by omega⟩) z3
    | d d =>
      cases d with
      | list xs =>
        cases h1
        simp
        exact rows_inner (by omega) _ rfl (fun z => by simp; exact hN _ ⟨k + 1, _, _, _, _, rfl, rfl, rfl, by omega⟩) z3
      | _ => cases h1
    | _ => cases h1
end Ev
set_option Elab.async false
set_option linter.all false
set_option maxRecDepth 100000
/-! M1: sums over all rows, spectra, shifts: plain. -/
namespace Ev

/-! ### sums -/
def sumN : Nat → (Nat → Int) → Int
  | 0, _ => 0
  | n + 1, f => sumN n f + f n
theorem sumN_congr {f g : Nat → Int} : ∀ {n : Nat}, (∀ i, i < n → f i = g i) → sumN n f = sumN n g
  | 0, _ => rfl
  | n + 1, h => by rw [sumN, sumN, sumN_congr (n := n) fun i hi => h i (by omega), h n (by omega)]
theorem sumN_add (a : Nat) (f : Nat → Int) : ∀ b, sumN (a + b) f = sumN a f + sumN b fun i => f (a + i)
  | 0 => by simp [sumN]
  | b + 1 => by rw [← Nat.add_assoc, sumN, sumN, sumN_add a f b]; omega
theorem sumN_plus (f g : Nat → Int) : ∀ n, (sumN n fun i => f i + g i) = sumN n f + sumN n g
  | 0 => rfl
  | n + 1 => by simp only [sumN]; rw [sumN_plus f g n]; omega
theorem sumN_minus (f g : Nat → Int) : ∀ n, (sumN n fun i => f i - g i) = sumN n f - sumN n g
  | 0 => rfl
  | n + 1 => by simp only [sumN]; rw [sumN_minus f g n]; omega
theorem sumN_mul (c : Int) (f : Nat → Int) : ∀ n, (sumN n fun i => c * f i) = c * sumN n f
  | 0 => by simp [sumN]
  | n + 1 => by simp only [sumN]; rw [sumN_mul c f n, Int.mul_add]
theorem sumN_const (c : Int) : ∀ n, (sumN n fun _ => c) = n * c
  | 0 => by simp [sumN]
  | n + 1 => by simp only [sumN]; rw [sumN_const c n]; push_cast; rw [Int.add_mul]; omega
theorem sumN_list (f : Nat → Int) : ∀ n, ((List.range n).map f).sum = sumN n f
  | 0 => rfl
  | n + 1 => by rw [List.range_succ, List.map_append, List.sum_append, sumN_list f n]; simp [sumN]
theorem sumN_two (n : Nat) (f : Nat → Int) : sumN (2 ^ (n + 1)) f = sumN (2 ^ n) f + sumN (2 ^ n) fun i => f (i + 2 ^ n) := by
  have e : 2 ^ (n + 1) = 2 ^ n + 2 ^ n := by rw [Nat.pow_succ]; omega
  rw [e, sumN_add]
  congr 1
  exact sumN_congr fun i _ => by rw [Nat.add_comm]
def tab (n : Nat) (f : Nat → Int) : List Int := (List.range n).map f
theorem tab_length (n : Nat) (f : Nat → Int) : (tab n f).length = n := by simp [tab]
theorem tab_congr {n : Nat} {f g : Nat → Int} (h : ∀ i, i < n → f i = g i) : tab n f = tab n g := by
  unfold tab
  exact List.map_congr_left fun i hi => h i (List.mem_range.mp hi)
theorem tab_get {n : Nat} {f : Nat → Int} {i : Nat} (h : i < n) : (tab n f)[i]? = some (f i) := by
  simp [tab, h]
theorem tab_sum (n : Nat) (f : Nat → Int) : (tab n f).sum = sumN n f := sumN_list f n
theorem tab_of (l : List Int) : l = tab l.length fun i => l.getD i 0 := by
  apply List.ext_getElem?
  intro i
  by_cases h : i < l.length
  · rw [tab_get h]; simp [List.getD, h]
  · rw [List.getElem?_eq_none (by omega), List.getElem?_eq_none (by rw [tab_length]; omega)]
theorem tab_set {n : Nat} {f : Nat → Int} {p : Nat} {x : Int} : (tab n f).set p x = tab n fun i => if i = p then x else f i := by
  apply List.ext_getElem?
  intro i
  rw [List.getElem?_set]
  by_cases h : i < n
  · rw [tab_get h, tab_length]
    by_cases e : p = i
    · subst e; rw [tab_get h]; simp [h]
    · rw [if_neg e, tab_get h, if_neg (Ne.symm e)]
  · rw [tab_length]
    rw [List.getElem?_eq_none (l := tab n _) (by rw [tab_length]; omega), List.getElem?_eq_none (l := tab n _) (by rw [tab_length]; omega)]
    split <;> simp_all
theorem tab_map {n : Nat} {f : Nat → Int} {g : Int → Int} : (tab n f).map g = tab n fun i => g (f i) := by
  simp [tab]
theorem tab_zip {n : Nat} {f g : Nat → Int} {h : Int × Int → Int} : ((tab n f).zip (tab n g)).map h = tab n fun i => h (f i, g i) := by
  simp [tab, List.zip_map']

/-! ### bits of places -/
theorem tb_low {k b j m : Nat} (hj : j < 2 ^ k) : (j + b * 2 ^ k).testBit m = if m < k then j.testBit m else b.testBit (m - k) := by
  rw [show j + b * 2 ^ k = 2 ^ k * b + j by rw [Nat.mul_comm b]; omega, Nat.testBit_two_pow_mul_add _ hj]
/-- a place with its bit k turned -/
theorem xor_up {k b j : Nat} (hj : j < 2 ^ k) : (j + (2 * b) * 2 ^ k) ^^^ 2 ^ k = j + (2 * b + 1) * 2 ^ k := by
  apply Nat.eq_of_testBit_eq
  intro m
  rw [Nat.testBit_xor, tb_low hj, tb_low hj, Nat.testBit_two_pow]
  by_cases h : m < k
  · simp [h, show ¬ k = m by omega]
  · simp only [h, if_false]
    by_cases e : k = m
    · subst e; simp
    · obtain ⟨t, ht⟩ : ∃ t, m - k = t + 1 := ⟨m - k - 1, by omega⟩
      rw [ht]
      simp [e, Nat.testBit_succ]
      congr 1
      omega
theorem xor_down {k b j : Nat} (hj : j < 2 ^ k) : (j + (2 * b + 1) * 2 ^ k) ^^^ 2 ^ k = j + (2 * b) * 2 ^ k := by
  rw [← xor_up hj, Nat.xor_assoc, Nat.xor_self, Nat.xor_zero]
theorem split_bit (k i : Nat) : ∃ j b, j < 2 ^ k ∧ (i = j + (2 * b) * 2 ^ k ∧ i.testBit k = false ∨ i = j + (2 * b + 1) * 2 ^ k ∧ i.testBit k = true) := by
  have hp : 0 < 2 ^ k := Nat.two_pow_pos k
  have hj : i % 2 ^ k < 2 ^ k := Nat.mod_lt _ hp
  have hi : i = i % 2 ^ k + (i / 2 ^ k) * 2 ^ k := by
    have := Nat.div_add_mod i (2 ^ k)
    rw [Nat.mul_comm] at this
    omega
  refine ⟨i % 2 ^ k, i / 2 ^ k / 2, hj, ?_⟩
  have tb : i.testBit k = (i / 2 ^ k).testBit 0 := by
    have := tb_low (b := i / 2 ^ k) (m := k) hj
    rw [← hi] at this
    simpa using this
  rcases Nat.mod_two_eq_zero_or_one (i / 2 ^ k) with h | h
  · refine .inl ⟨?_, by rw [tb]; simp [Nat.testBit_zero, h]⟩
    rw [show 2 * (i / 2 ^ k / 2) = i / 2 ^ k by omega]; exact hi
  · refine .inr ⟨?_, by rw [tb]; simp [Nat.testBit_zero, h]⟩
    rw [show 2 * (i / 2 ^ k / 2) + 1 = i / 2 ^ k by omega]; exact hi
theorem xor_add_top {n x d : Nat} (hx : x < 2 ^ n) (hd : d < 2 ^ n) : (x + 2 ^ n) ^^^ d = (x ^^^ d) + 2 ^ n ∧ x ^^^ (d + 2 ^ n) = (x ^^^ d) + 2 ^ n ∧ (x + 2 ^ n) ^^^ (d + 2 ^ n) = x ^^^ d := by
  have hxd : x ^^^ d < 2 ^ n := Nat.xor_lt_two_pow hx hd
  have e : ∀ y, y + 2 ^ n = y + 1 * 2 ^ n := fun y => by omega
  have z : ∀ {y m}, y < 2 ^ n → ¬ m < n → y.testBit m = false := fun hy hm => Nat.testBit_lt_two_pow (Nat.lt_of_lt_of_le hy (Nat.pow_le_pow_right (by decide) (by omega)))
  refine ⟨?_, ?_, ?_⟩ <;> (apply Nat.eq_of_testBit_eq; intro m; simp only [e, Nat.testBit_xor, tb_low hx, tb_low hd, tb_low hxd]; by_cases h : m < n)
  all_goals simp [h]
  all_goals (have a1 := z hd h; have a2 := z hx h; simp_all)

/-! ### the step of one letter -/
def stepB (k : Nat) (f : Nat → Int) : Nat → Int := fun i => if i.testBit k = true then f (i ^^^ 2 ^ k) - f i else f i + f (i ^^^ 2 ^ k)
theorem stepB_comm (k l : Nat) (f : Nat → Int) : stepB k (stepB l f) = stepB l (stepB k f) := by
  by_cases e : k = l
  · subst e; rfl
  funext i
  have h1 : (i ^^^ 2 ^ k).testBit l = i.testBit l := by rw [Nat.testBit_xor, Nat.testBit_two_pow]; simp [e]
  have h2 : (i ^^^ 2 ^ l).testBit k = i.testBit k := by rw [Nat.testBit_xor, Nat.testBit_two_pow]; simp [Ne.symm e]
  have h3 : i ^^^ 2 ^ k ^^^ 2 ^ l = i ^^^ 2 ^ l ^^^ 2 ^ k := by rw [Nat.xor_assoc, Nat.xor_comm (2 ^ k), ← Nat.xor_assoc]
  simp only [stepB, h1, h2, h3]
  cases i.testBit k <;> cases i.testBit l <;> simp <;> omega
theorem stepB_lo {k b j : Nat} (hj : j < 2 ^ k) (f : Nat → Int) : stepB k f (j + (2 * b) * 2 ^ k) = f (j + (2 * b) * 2 ^ k) + f (j + (2 * b + 1) * 2 ^ k) := by
  have h : (j + (2 * b) * 2 ^ k).testBit k = false := by rw [tb_low hj]; simp
  unfold stepB
  rw [h, xor_up hj]; rfl
theorem stepB_hi {k b j : Nat} (hj : j < 2 ^ k) (f : Nat → Int) : stepB k f (j + (2 * b + 1) * 2 ^ k) = f (j + (2 * b) * 2 ^ k) - f (j + (2 * b + 1) * 2 ^ k) := by
  have h : (j + (2 * b + 1) * 2 ^ k).testBit k = true := by rw [tb_low hj]; simp
  unfold stepB
  rw [h, xor_down hj]; rfl

/-! ### spectra -/
def hat : Nat → (Nat → Int) → Nat → Int
  | 0, f, _ => f 0
  | n + 1, f, s => if s.testBit n = true then hat n (fun x => f x - f (x + 2 ^ n)) s else hat n (fun x => f x + f (x + 2 ^ n)) s
theorem hat_congr : ∀ {n : Nat} {f g : Nat → Int} {s : Nat}, (∀ x, x < 2 ^ n → f x = g x) → hat n f s = hat n g s
  | 0, f, g, s, h => h 0 (by decide)
  | n + 1, f, g, s, h => by
    have p : 2 ^ (n + 1) = 2 ^ n + 2 ^ n := by rw [Nat.pow_succ]; omega
    simp only [hat]
    rw [hat_congr (n := n) (f := fun x => f x - f (x + 2 ^ n)) (g := fun x => g x - g (x + 2 ^ n)) fun x hx => by rw [h x (by omega), h (x + 2 ^ n) (by omega)],
      hat_congr (n := n) (f := fun x => f x + f (x + 2 ^ n)) (g := fun x => g x + g (x + 2 ^ n)) fun x hx => by rw [h x (by omega), h (x + 2 ^ n) (by omega)]]
theorem hat_low : ∀ {n : Nat} {f : Nat → Int} {s t : Nat}, (∀ k, k < n → s.testBit k = t.testBit k) → hat n f s = hat n f t
  | 0, f, s, t, h => rfl
  | n + 1, f, s, t, h => by
    simp only [hat]
    rw [h n (by omega), hat_low (n := n) (s := s) (t := t) fun k hk => h k (by omega), hat_low (n := n) (s := s) (t := t) fun k hk => h k (by omega)]
theorem hat_plus : ∀ (n : Nat) (f g : Nat → Int) (s : Nat), hat n (fun x => f x + g x) s = hat n f s + hat n g s
  | 0, f, g, s => rfl
  | n + 1, f, g, s => by
    by_cases hb : s.testBit n = true
    · simp only [hat, hb, if_true]
      rw [← hat_plus n]; exact hat_congr fun x _ => by omega
    · simp only [hat, hb, if_false, Bool.false_eq_true]
      rw [← hat_plus n]; exact hat_congr fun x _ => by omega
theorem hat_mul : ∀ (n : Nat) (c : Int) (f : Nat → Int) (s : Nat), hat n (fun x => c * f x) s = c * hat n f s
  | 0, c, f, s => rfl
  | n + 1, c, f, s => by
    simp only [hat]
    split
    · rw [← hat_mul n]; exact hat_congr fun x _ => by rw [Int.mul_sub]
    · rw [← hat_mul n]; exact hat_congr fun x _ => by rw [Int.mul_add]
theorem hat_neg (n : Nat) (f : Nat → Int) (s : Nat) : hat n (fun x => -f x) s = -hat n f s := by
  rw [show (fun x => -f x) = fun x => (-1) * f x by funext x; omega, hat_mul]; omega
theorem hat_minus (n : Nat) (f g : Nat → Int) (s : Nat) : hat n (fun x => f x - g x) s = hat n f s - hat n g s := by
  rw [show (fun x => f x - g x) = fun x => f x + (fun y => -g y) x by funext x; show f x - g x = f x + -g x; omega, hat_plus, hat_neg]; omega
/-- all letters, from the first -/
def stepsB : Nat → (Nat → Int) → (Nat → Int)
  | 0, f => f
  | n + 1, f => stepsB n (stepB n f)
theorem stepsB_hat : ∀ (n : Nat) (f : Nat → Int) (c s : Nat), s < 2 ^ n → stepsB n f (s + c * 2 ^ n) = hat n (fun x => f (x + c * 2 ^ n)) s
  | 0, f, c, s, h => by
    have : s = 0 := by simp at h; exact h
    subst this; simp [stepsB, hat]
  | n + 1, f, c, s, h => by
    have p : 2 ^ (n + 1) = 2 ^ n + 2 ^ n := by rw [Nat.pow_succ]; omega
    have q : ∀ x, x * 2 ^ (n + 1) = (2 * x) * 2 ^ n := fun x => by rw [Nat.pow_succ, Nat.mul_comm 2 x, Nat.mul_assoc, Nat.mul_comm 2]
    simp only [stepsB]
    by_cases hs : s < 2 ^ n
    · rw [q, stepsB_hat n _ (2 * c) s hs]
      have tb : s.testBit n = false := Nat.testBit_lt_two_pow hs
      simp only [hat, tb, Bool.false_eq_true, if_false]
      refine hat_congr fun x hx => ?_
      rw [stepB_lo hx, show x + 2 ^ n + 2 * c * 2 ^ n = x + (2 * c + 1) * 2 ^ n by rw [Nat.add_mul]; omega]
    · obtain ⟨t, rfl⟩ : ∃ t, s = t + 2 ^ n := ⟨s - 2 ^ n, by omega⟩
      have ht : t < 2 ^ n := by omega
      rw [q, show t + 2 ^ n + 2 * c * 2 ^ n = t + (2 * c + 1) * 2 ^ n by rw [Nat.add_mul]; omega, stepsB_hat n _ (2 * c + 1) t ht]
      have tb : (t + 2 ^ n).testBit n = true := by
        have := tb_low (b := 1) (m := n) ht
        rw [Nat.one_mul] at this
        rw [this]; simp
      simp only [hat, tb, if_true]
      rw [hat_low (n := n) (s := t + 2 ^ n) (t := t) fun k hk => by
        have := tb_low (b := 1) (m := k) ht
        rw [Nat.one_mul] at this
        rw [this, if_pos hk]]
      refine hat_congr fun x hx => ?_
      rw [stepB_hi hx, show x + 2 ^ n + 2 * c * 2 ^ n = x + (2 * c + 1) * 2 ^ n by rw [Nat.add_mul]; omega]
theorem stepsB_eq {n : Nat} {f : Nat → Int} {s : Nat} (h : s < 2 ^ n) : stepsB n f s = hat n f s := by
  have := stepsB_hat n f 0 s h
  simpa using this
theorem hat_top {n : Nat} {f : Nat → Int} {s : Nat} (h : s < 2 ^ n) : hat (n + 1) f s = hat n (fun x => f x + f (x + 2 ^ n)) s ∧ hat (n + 1) f (s + 2 ^ n) = hat n (fun x => f x - f (x + 2 ^ n)) s := by
  have tb0 : s.testBit n = false := Nat.testBit_lt_two_pow h
  have tb : ∀ m, (s + 2 ^ n).testBit m = if m < n then s.testBit m else (1 : Nat).testBit (m - n) := fun m => by
    have := tb_low (b := 1) (m := m) h
    rwa [Nat.one_mul] at this
  constructor
  · simp only [hat, tb0, Bool.false_eq_true, if_false]
  · have tb1 : (s + 2 ^ n).testBit n = true := by rw [tb]; simp
    simp only [hat, tb1, if_true]
    exact hat_low fun k hk => by rw [tb, if_pos hk]
/-- the sums of shifts, by spectra -/
theorem hat_conv : ∀ (n : Nat) (f g : Nat → Int) (d : Nat), d < 2 ^ n → hat n (fun s => hat n f s * hat n g s) d = 2 ^ n * sumN (2 ^ n) fun x => f x * g (x ^^^ d)
  | 0, f, g, d, h => by
    have : d = 0 := by simp at h; exact h
    subst this; simp [hat, sumN]
  | n + 1, f, g, d, h => by
    have p : 2 ^ (n + 1) = 2 ^ n + 2 ^ n := by rw [Nat.pow_succ]; omega
    have ih := fun f g d h => hat_conv n f g d h
    have pw : (2 : Int) ^ (n + 1) = 2 * 2 ^ n := by rw [Int.pow_succ]; omega
    by_cases hs : d < 2 ^ n
    · rw [(hat_top hs).1, sumN_two]
      rw [hat_congr (g := fun s => 2 * (hat n f s * hat n g s + hat n (fun x => f (x + 2 ^ n)) s * hat n (fun x => g (x + 2 ^ n)) s)) fun s hs' => by
        rw [(hat_top hs').1, (hat_top hs').2, (hat_top hs').1, (hat_top hs').2, hat_plus, hat_minus, hat_plus, hat_minus]
        grind]
      rw [hat_mul, hat_plus, ih _ _ d hs, ih _ _ d hs, pw]
      rw [sumN_congr (f := fun i => f (i + 2 ^ n) * g ((i + 2 ^ n) ^^^ d)) (g := fun i => f (i + 2 ^ n) * g ((i ^^^ d) + 2 ^ n)) fun i hi => by rw [(xor_add_top hi hs).1]]
      grind
    · obtain ⟨t, rfl⟩ : ∃ t, d = t + 2 ^ n := ⟨d - 2 ^ n, by omega⟩
      have ht : t < 2 ^ n := by omega
      rw [(hat_top ht).2, sumN_two]
      rw [hat_congr (g := fun s => 2 * (hat n f s * hat n (fun x => g (x + 2 ^ n)) s + hat n (fun x => f (x + 2 ^ n)) s * hat n g s)) fun s hs' => by
        rw [(hat_top hs').1, (hat_top hs').2, (hat_top hs').1, (hat_top hs').2, hat_plus, hat_minus, hat_plus, hat_minus]
        grind]
      rw [hat_mul, hat_plus, ih _ _ t ht, ih _ _ t ht, pw]
      rw [sumN_congr (f := fun i => f (i + 2 ^ n) * g ((i + 2 ^ n) ^^^ (t + 2 ^ n))) (g := fun i => f (i + 2 ^ n) * g (i ^^^ t)) fun i hi => by rw [(xor_add_top hi ht).2.2]]
      rw [sumN_congr (f := fun i => f i * g (i ^^^ (t + 2 ^ n))) (g := fun i => f i * g ((i ^^^ t) + 2 ^ n)) fun i hi => by rw [(xor_add_top hi ht).2.1]]
      grind
end Ev
set_option Elab.async false
set_option linter.all false
set_option maxRecDepth 100000
/-! V2: spectra. -/
namespace Ev
open PySem PySem.Spec PyProof.Rows L2

theorem isi_i {i : Int} : isi "int" (.d (.int i)) = some true := rfl
theorem isi_ib {i : Int} : isi "bool" (.d (.int i)) = some false := by simp [isi, tyName]
theorem isi_t {xs} : isi "tuple" (.d (.tuple xs)) = some true := rfl
theorem isi_lt {xs} : isi "tuple" (.d (.list xs)) = some false := by simp [isi, tyName]
theorem isi_ot {xs} : isi "tuple" (.own xs) = some false := by simp [isi, tyName]
def sp_is_integer : FSpec := fun args Φ => ∃ i : Int, args = [.d (.int i)] ∧ Φ (.d (.bool true))
def D_is_integer : DS := (dSeq (dRet (dAndV (dUn (oIsi "int") (dVar 0)) (dNotV (dUn (oIsi "bool") (dVar 0))))) dNext)
theorem v_is_integer (args : List Val) (Φ : Val → Prop) (h : sp_is_integer args Φ) : D_is_integer (kRet Φ) (envS ["value"] args) := by
  obtain ⟨i, rfl, hΦ⟩ := h
  simp [D_is_integer, envS, oIsi, isi_i, isi_ib, hΦ]
theorem seq_ints (xs : List Int) : seqD (TI xs) = some (xs.map .int) := rfl
theorem truIs_trues : ∀ n, truIs (List.replicate n (.bool true)) = some (List.replicate n true)
  | 0 => rfl
  | n + 1 => by
    show (truI (.bool true)).bind (fun b => (truIs (List.replicate n (.bool true))).map fun r => b :: r) = _
    rw [truIs_trues n]; rfl
theorem all_trues : ∀ n, (List.replicate n true).all id = true
  | 0 => rfl
  | n + 1 => by simp
theorem oEq_int {a b : Int} {Φ} : oEq (.d (.int a)) (.d (.int b)) Φ ↔ Φ (.d (.bool (decide (a = b)))) := by
  simp [oEq, oEqD, oEqS, PyData.eqv]
  have h : ∀ i, SeqAt.shaped (.int i) = true := fun i => rfl
  simp [h]
  by_cases e : a = b
  · simp [e]
  · have e2 : (a == b) = false := by simp [e]
    simp [e, e2]
theorem oNe_int {a b : Int} {Φ} : oNe (.d (.int a)) (.d (.int b)) Φ ↔ Φ (.d (.bool (!decide (a = b)))) := by
  simp [oNe, oNeD, oNeS, PyData.eqv]
  have h : ∀ i, SeqAt.shaped (.int i) = true := fun i => rfl
  simp [h]
  by_cases e : a = b
  · simp [e]
  · have e2 : (a == b) = false := by simp [e]
    simp [e, e2]
def sp_are_integers : FSpec := fun args Φ => ∃ (xs : List Int) (m : Int), args = [.d (TI xs), .d (.int m)] ∧ xs.length ≤ 16777216 ∧ Φ (.d (.bool (decide ((xs.length : Int) = m))))
def D_are_integers : DS := (dSeq (dRet (dAndV (dUn (oIsi "tuple") (dVar 0)) (dAndV (dBin oEq (dUn oLen (dVar 0)) (dVar 1)) (dUn oAll (dLc [2] (dSeqI (dVar 0)) (tName 2) dYes (dCall 1 sp_is_integer (dCons (dVar 2) dNil))))))) dNext)
theorem v_are_integers (args : List Val) (Φ : Val → Prop) (h : sp_are_integers args Φ) : D_are_integers (kRet Φ) (envS ["value", "many", "item"] args) := by
  obtain ⟨xs, m, rfl, hl, hΦ⟩ := h
  by_cases e : (xs.length : Int) = m
  · simp [D_are_integers, envS, oIsi, isi_t, oEq_int, e]
    refine compW_all PyData.int (fun _ => .bool true) xs hl (fun x hx N hN => ?_) ?_
    · simpa [wipeE, sp_is_integer] using hN
    · simp [oAll]
      rw [List.map_const']
      refine ⟨_, truIs_trues _, ?_⟩
      rw [decide_eq_true e] at hΦ
      simpa [all_trues] using hΦ
  · simp [D_are_integers, envS, oIsi, isi_t, oEq_int, e]
    rw [decide_eq_false e] at hΦ
    exact hΦ
def sp_signs_of : FSpec := fun args Φ => ∃ xs : List Int, args = [.d (TI xs)] ∧ xs.length ≤ 16777216 ∧ Φ (.d (TI (xs.map fun b => 1 - 2 * b)))
def D_signs_of : DS := (dSeq (dRet (dUn oTuple (dLc [1] (dSeqI (dVar 0)) (tName 1) dYes (dBin oSub (dC (.int 1)) (dBin oMul (dC (.int 2)) (dVar 1)))))) dNext)
theorem v_signs_of (args : List Val) (Φ : Val → Prop) (h : sp_signs_of args Φ) : D_signs_of (kRet Φ) (envS ["table", "bit"] args) := by
  obtain ⟨xs, rfl, hl, hΦ⟩ := h
  simp [D_signs_of, envS]
  refine compW_all PyData.int (fun b => .int (1 - 2 * b)) xs hl (fun x hx N hN => ?_) ?_
  · simp [wipeE]
    exact ⟨cm_small (by omega), hN⟩
  · simp only [TI, List.map_map] at hΦ
    exact hΦ

/-! ### the step of a letter -/
theorem stepped_get {N : Nat} {f : Nat → Int} {i : Nat} (h : i < N) : atI ((tab N f).map PyData.int) (i : Int) = some (.int (f i)) :=
  at_nat (by rw [List.getElem?_map, tab_get h]; rfl)
theorem rgC_step {s q : Nat} (hs : 0 < s) (hn : q * s ≤ 16777216) (hq : 0 < q) : RgC 0 ((q * s : Nat) : Int) (s : Int) q := by
  have h1 : s ≤ q * s := Nat.le_mul_of_pos_left s hq
  have e0 : q * s = (s - 1) + s * (q - 1) + 1 := by
    rw [Nat.mul_sub, Nat.mul_one, Nat.mul_comm q s]
    have : s ≤ s * q := by rw [Nat.mul_comm]; exact h1
    omega
  generalize q * s = M at *
  have q1 : q ≤ M := by
    have : q - 1 ≤ s * (q - 1) := Nat.le_mul_of_pos_left _ hs
    omega
  have sz : Builtin.Range.rangeSize 0 (M : Int) (s : Int) = q := by
    unfold Builtin.Range.rangeSize
    rw [if_pos (by omega), if_pos (by omega)]
    have e : (M : Int) - 0 - 1 = ((s - 1 : Nat) : Int) + (s : Int) * ((q - 1 : Nat) : Int) := by
      have : (M : Int) = ((s - 1 + s * (q - 1) + 1 : Nat) : Int) := by rw [← e0]
      rw [this]; push_cast; omega
    rw [e, Int.add_mul_ediv_left _ _ (by omega), Int.ediv_eq_zero_of_lt (by omega) (by omega)]
    omega
  refine ⟨by omega, by omega, ?_, sz⟩
  unfold Builtin.Range.small
  simp [sz, Builtin.Range.rangeFitsLong, hs]
  omega
def sp_stepped : FSpec := fun args Φ => ∃ (k q s N : Nat) (f : Nat → Int), args = [.d (TI (tab N f)), .d (.int s)] ∧ s = 2 ^ k ∧ N = q * (2 * s) ∧ N ≤ 16777216 ∧ 0 < q ∧ Φ (.d (TI (tab N (stepB k f))))
def D_stepped : DS := (dSeq (dSet 2 (dUn oList (dVar 0))) (dSeq (dFor (dRng3 (dCons (dC (.int 0)) (dCons (dUn oLen (dVar 0)) (dCons (dBin oMul (dC (.int 2)) (dVar 1)) dNil)))) (tName 3) (dSeq (dFor (dRng2 (dCons (dVar 3) (dCons (dBin oAdd (dVar 3) (dVar 1)) dNil))) (tName 4) (dSeq (dPar2 5 6 (dBin oIxS (dVar 0) (dVar 4)) (dBin oIxS (dVar 0) (dBin oAdd (dVar 4) (dVar 1)))) (dSeq (dAsg (tTup 2 (tCons (tSub 2 (dVar 4)) (tCons (tSub 2 (dBin oAdd (dVar 4) (dVar 1))) tNil))) (dTup (dCons (dBin oAdd (dVar 5) (dVar 6)) (dCons (dBin oSub (dVar 5) (dVar 6)) dNil)))) dNext))) dNext)) (dSeq (dRet (dUn oTuple (dVar 2))) dNext)))
def mixB (k s b j : Nat) (f : Nat → Int) : Nat → Int := fun i => if i < b * (2 * s) + j ∨ (b * (2 * s) + s ≤ i ∧ i < b * (2 * s) + s + j) then stepB k f i else f i
theorem v_stepped (args : List Val) (Φ : Val → Prop) (h : sp_stepped args Φ) : D_stepped (kRet Φ) (envS ["values", "stride", "found", "begin", "place", "one", "other"] args) := by
  obtain ⟨k, q, s, N, f, rfl, hs, hN, hl, hq, hΦ⟩ := h
  have s0 : 0 < s := by rw [hs]; exact Nat.two_pow_pos k
  simp [D_stepped, envS, and_assoc]
  refine ⟨cm_small (by omega), q, ?_, ?_⟩
  · have := rgC_step (s := 2 * s) (q := q) (by omega) (by rw [← hN]; exact hl) hq
    rw [← hN] at this
    rw [tab_length]
    simpa using this
  refine forW_range _ q (fun b e => ∃ z3 z4 z5 z6, e = [some (.d (TI (tab N f))), some (.d (.int s)), some (.own ((tab N (mixB k s b 0 f)).map .int)), z3, z4, z5, z6]) ?_ ?_ _ ⟨none, none, none, none, ?_⟩
  · rintro e ⟨z3, z4, z5, z6, rfl⟩
    simp
    have : tab N (mixB k s q 0 f) = tab N (stepB k f) := tab_congr fun i hi => by
      unfold mixB
      rw [if_pos (.inl (by omega))]
    rw [this]
    exact hΦ
  · rintro b hb e ⟨z3, z4, z5, z6, rfl⟩ Nx hNx
    simp [and_assoc]
    have hbs : b * (2 * s) + 2 * s ≤ N := by
      rw [hN]
      have := Nat.mul_le_mul_right (2 * s) (show b + 1 ≤ q by omega)
      rw [Nat.add_mul] at this; omega
    have eb : (b : Int) * (2 * (s : Int)) = ((b * (2 * s) : Nat) : Int) := by push_cast; rfl
    rw [eb]
    generalize hB : b * (2 * s) = B at *
    refine ⟨by omega, by omega, by omega, by omega, ?_⟩
    rw [show ((B : Int) + s - B).toNat = s by omega]
    refine forW_range _ s (fun j e => ∃ z4 z5 z6, e = [some (.d (TI (tab N f))), some (.d (.int s)), some (.own ((tab N (mixB k s b j f)).map .int)), some (.d (.int B)), z4, z5, z6]) ?_ ?_ _ ⟨_, _, _, rfl⟩
    · rintro e ⟨z4, z5, z6, rfl⟩
      refine hNx _ ⟨some (.d (.int B)), z4, z5, z6, ?_⟩
      have : tab N (mixB k s b s f) = tab N (mixB k s (b + 1) 0 f) := tab_congr fun i hi => by
        unfold mixB
        have : (b + 1) * (2 * s) = B + 2 * s := by rw [Nat.add_mul, hB]; omega
        rw [this, hB]
        by_cases h : i < B + s ∨ (B + s ≤ i ∧ i < B + s + s)
        · rw [if_pos h, if_pos (by omega)]
        · rw [if_neg h, if_neg (by omega)]
      rw [this]
    · rintro j hj e ⟨z4, z5, z6, rfl⟩ Ny hNy
      have g1 : atI ((tab N f).map PyData.int) ((B : Int) + j) = some (.int (f (B + j))) := by
        have := stepped_get (N := N) (f := f) (i := B + j) (by omega); push_cast at this; exact this
      have g2 : atI ((tab N f).map PyData.int) ((B : Int) + j + s) = some (.int (f (B + j + s))) := by
        have := stepped_get (N := N) (f := f) (i := B + j + s) (by omega); push_cast at this; exact this
      have i1 : ixN N ((B : Int) + j) = some (B + j) := by
        have := ix_nat (n := N) (i := B + j) (by omega); push_cast at this; exact this
      have i2 : ixN N ((B : Int) + j + s) = some (B + j + s) := by
        have := ix_nat (n := N) (i := B + j + s) (by omega); push_cast at this; exact this
      simp [and_assoc, g1, g2, tab_length, i1, i2]
      have key : ((List.map PyData.int (tab N (mixB k s b j f))).set (B + j) (PyData.int (f (B + j) + f (B + j + s)))).set (B + j + s) (PyData.int (f (B + j) - f (B + j + s))) = (tab N (mixB k s b (j + 1) f)).map PyData.int := by
        rw [← List.map_set, ← List.map_set, tab_set, tab_set]
        congr 1
        refine tab_congr fun i hi => ?_
        have pB : B = (2 * b) * 2 ^ k := by rw [← hB, ← hs, ← Nat.mul_assoc, Nat.mul_comm b 2]
        have pS : B + j + s = j + (2 * b + 1) * 2 ^ k := by rw [Nat.add_mul, Nat.one_mul, ← hs, pB, ← hs]; omega
        have pJ : B + j = j + (2 * b) * 2 ^ k := by rw [pB]; omega
        have lo := stepB_lo (k := k) (b := b) (j := j) (by omega) f
        have hi2 := stepB_hi (k := k) (b := b) (j := j) (by omega) f
        rw [← pJ, ← pS] at lo hi2
        unfold mixB
        rw [hB]
        by_cases c1 : i = B + j + s
        · rw [if_pos c1, if_pos (by omega), c1, hi2]
        · rw [if_neg c1]
          by_cases c2 : i = B + j
          · rw [if_pos c2, if_pos (by omega), c2, lo]
          · rw [if_neg c2]
            by_cases c3 : i < B + j ∨ (B + s ≤ i ∧ i < B + s + j)
            · rw [if_pos c3, if_pos (by omega)]
            · rw [if_neg c3, if_neg (by omega)]
      rw [key]
      exact hNy _ ⟨_, _, _, rfl⟩
  · have : tab N (mixB k s 0 0 f) = tab N f := tab_congr fun i hi => by
      unfold mixB
      rw [if_neg (by omega)]
    rw [this]
end Ev
set_option Elab.async false
set_option linter.all false
set_option maxRecDepth 100000
/-! V3: spectra, shifts. -/
namespace Ev
open PySem PySem.Spec PyProof.Rows L2

theorem two_cast (n : Nat) : ((2 ^ n : Nat) : Int) = (2 : Int) ^ n := by push_cast; rfl
theorem two_le {a b : Nat} (h : a ≤ b) : 2 ^ a ≤ 2 ^ b := Nat.pow_le_pow_right (by decide) h
theorem half_pow (n : Nat) : 2 ^ (n + 1) / 2 = 2 ^ n := by rw [Nat.pow_succ]; omega
theorem cdiv2 : ∀ {a : Int}, CDiv a 2 := fun {a} => ⟨by decide, by decide⟩
theorem cdivN {a : Int} {n : Nat} (h : n ≤ 20) : CDiv a ((2 ^ n : Nat) : Int) := by
  have h1 : 2 ^ n ≤ 2 ^ 20 := two_le h
  have h2 : 0 < 2 ^ n := Nat.two_pow_pos n
  exact ⟨by omega, by omega⟩
def sp_letter_step : FSpec := fun args Φ => ∃ (n i : Nat) (f : Nat → Int), args = [.d (TI (tab (2 ^ n) f)), .d (.int i)] ∧ n ≤ 20 ∧ i < n ∧ Φ (.d (TI (tab (2 ^ n) (stepB (n - 1 - i) f))))
def D_letter_step : DS := (dSeq (dSet 2 (dUn oLen (dVar 0))) (dSeq (dFor (dRng1 (dCons (dBin oAdd (dVar 1) (dC (.int 1))) dNil)) (tName 3) (dSeq (dSet 2 (dBin oDiv (dVar 2) (dC (.int 2)))) dNext)) (dSeq (dRet (dCall 2 sp_stepped (dCons (dVar 0) (dCons (dVar 2) dNil)))) dNext)))
theorem v_letter_step (args : List Val) (Φ : Val → Prop) (h : sp_letter_step args Φ) : D_letter_step (kRet Φ) (envS ["values", "i", "stride", "step"] args) := by
  obtain ⟨n, i, f, rfl, hn, hi, hΦ⟩ := h
  simp [D_letter_step, envS, and_assoc, tab_length]
  refine ⟨by omega, by omega, ?_⟩
  refine forW_range _ (i + 1) (fun j e => ∃ z, e = [some (.d (TI (tab (2 ^ n) f))), some (.d (.int i)), some (.d (.int ((2 ^ (n - j) : Nat) : Int))), z]) ?_ ?_ _ ⟨none, by simp⟩
  · rintro e ⟨z, rfl⟩
    simp
    have q : 2 ^ n = 2 ^ i * (2 * 2 ^ (n - (i + 1))) := by
      rw [← Nat.pow_succ', ← Nat.pow_add]; congr 1; omega
    refine ⟨n - (i + 1), 2 ^ i, 2 ^ (n - (i + 1)), 2 ^ n, f, by simp, rfl, q, ?_, Nat.two_pow_pos _, ?_⟩
    · exact Nat.le_trans (two_le hn) (by decide)
    · rw [show n - (i + 1) = n - 1 - i by omega]; exact hΦ
  · rintro j hj e ⟨z, rfl⟩ N hN
    have e1 : ((2 ^ (n - j) : Nat) : Int) / 2 = ((2 ^ (n - (j + 1)) : Nat) : Int) := by
      rw [show n - j = n - (j + 1) + 1 by omega, Nat.pow_succ]; omega
    generalize ((2 ^ (n - j) : Nat) : Int) = a at *
    generalize ((2 ^ (n - (j + 1)) : Nat) : Int) = b at *
    simp
    rw [e1]
    exact ⟨cdiv2, hN _ ⟨_, rfl⟩⟩
def sp_led_through : FSpec := fun args Φ => ∃ (n : Nat) (f : Nat → Int), args = [.d (TI (tab (2 ^ n) f))] ∧ n ≤ 20 ∧ Φ (.d (TI (tab (2 ^ n) (hat n f))))
def D_led_through : DS := (dSeq (dSet 1 (dBin oDiv (dUn oLen (dVar 0)) (dC (.int 2)))) (dSeq (dWhile (dTst (dBin oGt (dVar 1) (dC (.int 0)))) (dSeq (dPar2 0 1 (dCall 2 sp_stepped (dCons (dVar 0) (dCons (dVar 1) dNil))) (dBin oDiv (dVar 1) (dC (.int 2)))) dNext)) (dSeq (dRet (dVar 0)) dNext)))
theorem led_loop {K : KE} {M : Nat} (hM : M ≤ 20) : ∀ (n : Nat) (f : Nat → Int), n ≤ M → (K.nx [some (.d (TI (tab (2 ^ M) (stepsB n f)))), some (.d (.int 0))]) →
    whileN (dTst (dBin oGt (dVar 1) (dC (.int 0)))) (dSeq (dPar2 0 1 (dCall 2 sp_stepped (dCons (dVar 0) (dCons (dVar 1) dNil))) (dBin oDiv (dVar 1) (dC (.int 2)))) dNext) K (n + 1) [some (.d (TI (tab (2 ^ M) f))), some (.d (.int ((2 ^ n / 2 : Nat) : Int)))]
  | 0, f, _, h => by simpa [whileN, stepsB] using h
  | n + 1, f, hn, h => by
    have ih := led_loop (K := K) hM n (stepB n f) (by omega) h
    rw [half_pow]
    have p : 0 < 2 ^ n := Nat.two_pow_pos n
    have e1 : ((2 ^ n : Nat) : Int) / 2 = ((2 ^ n / 2 : Nat) : Int) := by omega
    have q : 2 ^ M = 2 ^ (M - n - 1) * (2 * 2 ^ n) := by
      rw [← Nat.pow_succ', ← Nat.pow_add]; congr 1; omega
    have l : 2 ^ M ≤ 16777216 := Nat.le_trans (two_le hM) (by decide)
    have st : ∀ Ψ : Val → Prop, Ψ (.d (TI (tab (2 ^ M) (stepB n f)))) → sp_stepped [.d (TI (tab (2 ^ M) f)), .d (.int ((2 ^ n : Nat) : Int))] Ψ := fun Ψ hΨ => ⟨n, 2 ^ (M - n - 1), 2 ^ n, 2 ^ M, f, rfl, rfl, q, l, Nat.two_pow_pos _, hΨ⟩
    have gt : (0 : Int) < ((2 ^ n : Nat) : Int) := by omega
    generalize ((2 ^ n : Nat) : Int) = a at *
    generalize ((2 ^ n / 2 : Nat) : Int) = b at *
    rw [whileN]
    have ge : ¬ a ≤ 0 := by omega
    simp [gt, ge]
    refine st _ ?_
    rw [e1]
    exact ⟨cdiv2, ih⟩
theorem v_led_through (args : List Val) (Φ : Val → Prop) (h : sp_led_through args Φ) : D_led_through (kRet Φ) (envS ["values", "stride"] args) := by
  obtain ⟨n, f, rfl, hn, hΦ⟩ := h
  have e1 : ((2 ^ n : Nat) : Int) / 2 = ((2 ^ n / 2 : Nat) : Int) := by omega
  simp only [D_led_through, envS]
  have l := led_loop (K := { nx := fun e => dSeq (dRet (dVar 0)) dNext (kRet Φ) e, rt := Φ, bk := fun _ => False, ct := fun _ => False }) hn n f (Nat.le_refl _) (by
    simp
    rw [show tab (2 ^ n) (stepsB n f) = tab (2 ^ n) (hat n f) from tab_congr fun i hi => stepsB_eq hi]
    exact hΦ)
  have tl : ((tab (2 ^ n) f).length : Int) = ((2 ^ n : Nat) : Int) := by rw [tab_length]
  generalize ((2 ^ n : Nat) : Int) = a at *
  generalize ((2 ^ n / 2 : Nat) : Int) = b at *
  simp [tl, dWhile]
  rw [e1]
  exact ⟨cdiv2, n + 1, l⟩

/-! ### spectra of tables -/
def BitF (N : Nat) (t : Nat → Int) : Prop := ∀ i, i < N → t i = 0 ∨ t i = 1
def sg (t : Nat → Int) : Nat → Int := fun i => 1 - 2 * t i
def spec (n : Nat) (t : Nat → Int) : Nat → Int := hat n (sg t)
theorem hat_bound : ∀ {n : Nat} {f : Nat → Int} {c : Int} {s : Nat}, (∀ x, x < 2 ^ n → -c ≤ f x ∧ f x ≤ c) → -(2 ^ n * c) ≤ hat n f s ∧ hat n f s ≤ 2 ^ n * c
  | 0, f, c, s, h => by have := h 0 (by decide); simp [hat]; omega
  | n + 1, f, c, s, h => by
    have p : 2 ^ (n + 1) = 2 ^ n + 2 ^ n := by rw [Nat.pow_succ]; omega
    have pw : (2 : Int) ^ (n + 1) * c = 2 ^ n * (2 * c) := by rw [Int.pow_succ, Int.mul_assoc]
    rw [pw]
    simp only [hat]
    split
    · exact hat_bound fun x hx => by have a := h x (by omega); have b := h (x + 2 ^ n) (by omega); omega
    · exact hat_bound fun x hx => by have a := h x (by omega); have b := h (x + 2 ^ n) (by omega); omega
theorem spec_bound {n : Nat} {t : Nat → Int} {s : Nat} (h : BitF (2 ^ n) t) : -(2 ^ n) ≤ spec n t s ∧ spec n t s ≤ 2 ^ n := by
  have := hat_bound (n := n) (f := sg t) (c := 1) (s := s) fun x hx => by
    unfold sg
    rcases h x hx with e | e <;> rw [e] <;> omega
  simpa [spec] using this
theorem pow_lt64 {n : Nat} (h : n ≤ 20) : (2 : Int) ^ n ≤ 1048576 := by
  have := two_le h
  rw [← two_cast]
  have e : (2 : Nat) ^ 20 = 1048576 := by decide
  rw [e] at this
  omega
def sp_spectrum : FSpec := fun args Φ => ∃ (n : Nat) (t : Nat → Int), args = [.d (TI (tab (2 ^ n) t))] ∧ n ≤ 20 ∧ Φ (.d (TI (tab (2 ^ n) (spec n t))))
def D_spectrum : DS := (dSeq (dRet (dCall 1 sp_led_through (dCons (dCall 1 sp_signs_of (dCons (dVar 0) dNil)) dNil))) dNext)
theorem len20 {n : Nat} (h : n ≤ 20) : 2 ^ n ≤ 16777216 := Nat.le_trans (two_le h) (by decide)
theorem v_spectrum (args : List Val) (Φ : Val → Prop) (h : sp_spectrum args Φ) : D_spectrum (kRet Φ) (envS ["table"] args) := by
  obtain ⟨n, t, rfl, hn, hΦ⟩ := h
  simp [D_spectrum, envS]
  refine ⟨_, rfl, by rw [tab_length]; exact len20 hn, ?_⟩
  simp
  rw [tab_map]
  exact ⟨n, _, rfl, hn, hΦ⟩
def sp_spectrum_at : FSpec := fun args Φ => ∃ (n p : Nat) (t : Nat → Int) (xs : List Int), args = [.d (TI (tab (2 ^ n) t)), .d (TI xs)] ∧ n ≤ 20 ∧ placeF 0 xs = p ∧ p < 2 ^ n ∧ Φ (.d (.int (spec n t p)))
def D_spectrum_at : DS := (dSeq (dRet (dBin oIxS (dCall 1 sp_spectrum (dCons (dVar 0) dNil)) (dCall 1 sp_row_place (dCons (dVar 1) dNil)))) dNext)
theorem v_spectrum_at (args : List Val) (Φ : Val → Prop) (h : sp_spectrum_at args Φ) : D_spectrum_at (kRet Φ) (envS ["table", "s"] args) := by
  obtain ⟨n, p, t, xs, rfl, hn, hp, hp2, hΦ⟩ := h
  simp [D_spectrum_at, envS]
  refine ⟨n, t, rfl, hn, ?_⟩
  simp
  refine ⟨xs, rfl, ?_⟩
  simp [hp]
  exact ⟨_, stepped_get hp2, hΦ⟩

/-! ### the first place that is unlike -/
def sp_first_unlike : FSpec := fun args Φ => ∃ (N : Nat) (f g : Nat → Int), args = [.d (TI (tab N f)), .d (TI (tab N g))] ∧ ((∀ i, i < N → f i = g i) → Φ (.d .none)) ∧ ∀ p, p < N → (∀ i, i < p → f i = g i) → f p ≠ g p → Φ (.d (T [I p, I (g p)]))
def D_first_unlike : DS := (dSeq (dFor (dEnum (dCons (dVar 1) dNil)) (tTup 2 (tCons (tName 2) (tCons (tName 3) tNil))) (dSeq (dIfS (dTst (dBin oNe (dBin oIxS (dVar 0) (dVar 2)) (dVar 3))) (dSeq (dRet (dTup (dCons (dVar 2) (dCons (dVar 3) dNil)))) dNext) dNext) dNext)) (dSeq (dRet (dC .none)) dNext))
theorem enum_tab (N : Nat) (g : Nat → Int) : enumD ((tab N g).map .int) = (List.range N).map fun i => PyData.tuple [.int (i : Nat), .int (g i)] := by
  unfold enumD
  rw [List.length_map, tab_length]
  refine List.map_congr_left fun i hi => ?_
  have hi := List.mem_range.mp hi
  simp [List.getD, List.getElem?_map, tab_get hi]
theorem v_first_unlike (args : List Val) (Φ : Val → Prop) (h : sp_first_unlike args Φ) : D_first_unlike (kRet Φ) (envS ["value", "due", "place", "item"] args) := by
  obtain ⟨N, f, g, rfl, h1, h2⟩ := h
  simp [D_first_unlike, envS, enum_tab]
  refine forW_range _ N (fun j e => (∃ z1 z2, e = [some (.d (TI (tab N f))), some (.d (TI (tab N g))), z1, z2]) ∧ ∀ i, i < j → f i = g i) ?_ ?_ _ ⟨⟨_, _, rfl⟩, fun i hi => by omega⟩
  · rintro e ⟨⟨z1, z2, rfl⟩, hh⟩
    simp
    exact h1 hh
  · rintro j hj e ⟨⟨z1, z2, rfl⟩, hh⟩ M hM
    simp [and_assoc, stepped_get hj, oNe_int]
    by_cases c : f j = g j
    · simp [c]
      exact hM _ ⟨⟨_, _, rfl⟩, fun i hi => by
        by_cases e : i = j
        · rw [e]; exact c
        · exact hh i (by omega)⟩
    · simp [c]
      exact h2 j hj hh c
def placeErr (N : Nat) (f g : Nat → Int) (Φ : Val → Prop) : Prop := ((∀ i, i < N → f i = g i) → Φ (.d .none)) ∧ ∀ p, p < N → (∀ i, i < p → f i = g i) → f p ≠ g p → Φ (.d (T [.str "place", I p, I (g p)]))
def sp_spectrum_error : FSpec := fun args Φ => ∃ (n : Nat) (t v : Nat → Int), args = [.d (TI (tab (2 ^ n) t)), .d (TI (tab (2 ^ n) v))] ∧ n ≤ 20 ∧ placeErr (2 ^ n) v (spec n t) Φ
def D_spectrum_error : DS := (dSeq (dIfS (dNotT (dTru (dCall 2 sp_are_integers (dCons (dVar 1) (dCons (dUn oLen (dVar 0)) dNil))))) (dSeq (dRet (dC (.str "form"))) dNext) dNext) (dSeq (dSet 2 (dCall 2 sp_first_unlike (dCons (dVar 1) (dCons (dCall 1 sp_spectrum (dCons (dVar 0) dNil)) dNil)))) (dSeq (dRet (dIf (dTst (dBin oIsNot (dVar 2) (dC .none))) (dBin oAdd (dTup (dCons (dC (.str "place")) dNil)) (dVar 2)) (dC .none))) dNext)))
theorem v_spectrum_error (args : List Val) (Φ : Val → Prop) (h : sp_spectrum_error args Φ) : D_spectrum_error (kRet Φ) (envS ["table", "value", "fault"] args) := by
  obtain ⟨n, t, v, rfl, hn, h1, h2⟩ := h
  simp [D_spectrum_error, envS, tab_length]
  refine ⟨_, _, rfl, by rw [tab_length]; exact len20 hn, ?_⟩
  simp [tab_length]
  refine ⟨n, t, rfl, hn, ?_⟩
  simp
  refine ⟨_, _, _, rfl, fun hh => ?_, fun p hp hh hne => ?_⟩
  · simp
    exact h1 hh
  · simp
    exact h2 p hp hh hne
end Ev
set_option Elab.async false
set_option linter.all false
set_option maxRecDepth 100000
/-! M2: rows and places, products of rows, shifts and spectra: plain. -/
namespace Ev
open PySem

/-! ### rows -/
def rowN (k p : Nat) : List Int := rowAt k (p : Int)
theorem rowN_succ (k p : Nat) : rowN (k + 1) p = rowN k (p / 2) ++ [((p % 2 : Nat) : Int)] := by
  unfold rowN
  rw [rowAt]
  congr 1
theorem rowN_length (k p : Nat) : (rowN k p).length = k := rowAt_length k p
theorem rowN_bits : ∀ (k p : Nat), Bits (rowN k p)
  | 0, p => .nil
  | k + 1, p => by
    rw [rowN_succ]
    refine (rowN_bits k (p / 2)).app fun b hb => ?_
    simp at hb
    omega
theorem placeF_app (a : Int) (xs : List Int) (b : Int) : placeF a (xs ++ [b]) = 2 * placeF a xs + b := by
  simp [placeF]
theorem place_rowN : ∀ (k p : Nat), p < 2 ^ k → placeF 0 (rowN k p) = p
  | 0, p, h => by
    have : p = 0 := by simpa using h
    subst this; rfl
  | k + 1, p, h => by
    rw [rowN_succ, placeF_app, place_rowN k (p / 2) (by rw [Nat.pow_succ] at h; omega)]
    omega
theorem bits_rowN {xs : List Int} (h : Bits xs) : ∃ p, p < 2 ^ xs.length ∧ xs = rowN xs.length p := by
  have key : ∀ (n : Nat) (xs : List Int), xs.length = n → Bits xs → ∃ p, p < 2 ^ n ∧ xs = rowN n p := by
    intro n
    induction n with
    | zero => intro xs hl _; exact ⟨0, by decide, by rw [List.eq_nil_of_length_eq_zero hl]; rfl⟩
    | succ n ih =>
      intro xs hl hb
      have hne : xs ≠ [] := fun e => by rw [e] at hl; simp at hl
      have e := (List.dropLast_concat_getLast hne).symm
      generalize xs.dropLast = ys at e
      generalize xs.getLast hne = b at e
      subst e
      have hl' : ys.length = n := by simp at hl; omega
      obtain ⟨p, hp, rfl⟩ := ih ys hl' fun x hx => hb x (by simp [hx])
      rcases hb b (by simp) with rfl | rfl
      · refine ⟨2 * p, by rw [Nat.pow_succ]; omega, ?_⟩
        rw [rowN_succ, show 2 * p / 2 = p by omega, show 2 * p % 2 = 0 by omega]; rfl
      · refine ⟨2 * p + 1, by rw [Nat.pow_succ]; omega, ?_⟩
        rw [rowN_succ, show (2 * p + 1) / 2 = p by omega, show (2 * p + 1) % 2 = 1 by omega]; rfl
  exact key _ xs rfl h
theorem rowN_wrap : ∀ (k p c : Nat), rowN k (p + c * 2 ^ k) = rowN k p
  | 0, _, _ => rfl
  | k + 1, p, c => by
    rw [rowN_succ, rowN_succ]
    have e : c * 2 ^ (k + 1) = 2 * (c * 2 ^ k) := by rw [Nat.pow_succ, Nat.mul_comm 2, Nat.mul_assoc]
    rw [e, show (p + 2 * (c * 2 ^ k)) / 2 = p / 2 + c * 2 ^ k by omega, show (p + 2 * (c * 2 ^ k)) % 2 = p % 2 by omega, rowN_wrap k]
theorem rowN_cons : ∀ (k p : Nat), rowN (k + 1) p = ((p / 2 ^ k % 2 : Nat) : Int) :: rowN k p
  | 0, p => by rw [rowN_succ]; simp [rowN, rowAt]
  | k + 1, p => by
    rw [rowN_succ, rowN_cons k (p / 2), rowN_succ k p, Nat.pow_succ, Nat.mul_comm, Nat.div_div_eq_div_mul]; rfl
theorem rowN_lo {k x : Nat} (h : x < 2 ^ k) : rowN (k + 1) x = 0 :: rowN k x := by
  rw [rowN_cons, Nat.div_eq_of_lt h]; rfl
theorem rowN_hi {k x : Nat} (h : x < 2 ^ k) : rowN (k + 1) (x + 2 ^ k) = 1 :: rowN k x := by
  have e : (x + 2 ^ k) / 2 ^ k = 1 := by
    rw [Nat.add_div_right _ (Nat.two_pow_pos k), Nat.div_eq_of_lt h]
  rw [rowN_cons, e]
  have := rowN_wrap k x 1
  rw [Nat.one_mul] at this
  rw [this]; rfl
theorem rowsN_tab : ∀ n, rowsN n = (List.range (2 ^ n)).map (rowN n)
  | 0 => rfl
  | n + 1 => by
    rw [rowsN, rowsN_tab n]
    have key : ∀ m, ((List.range m).map (rowN n)).flatMap (fun r => [r ++ [(0 : Int)], r ++ [1]]) = (List.range (2 * m)).map (rowN (n + 1)) := by
      intro m
      induction m with
      | zero => rfl
      | succ m ih =>
        rw [List.range_succ, List.map_append, List.flatMap_append, ih, show 2 * (m + 1) = 2 * m + 1 + 1 by omega, List.range_succ, List.range_succ]
        simp only [List.map_append, List.append_assoc]
        congr 1
        simp only [List.map_cons, List.map_nil, List.flatMap_cons, List.flatMap_nil, List.append_nil, List.cons_append, List.nil_append]
        rw [rowN_succ n (2 * m), rowN_succ n (2 * m + 1), show 2 * m / 2 = m by omega, show 2 * m % 2 = 0 by omega, show (2 * m + 1) / 2 = m by omega, show (2 * m + 1) % 2 = 1 by omega]
        rfl
    rw [key, Nat.pow_succ, Nat.mul_comm]

/-! ### products of rows -/
def par (k p x : Nat) : Int := prodR (rowN k p) (rowN k x)
theorem prodR_cons (a b : Int) (xs ys : List Int) : prodR (a :: xs) (b :: ys) = (a * b + prodR xs ys) % 2 := by
  unfold prodR
  simp
theorem prodR_bit (xs ys : List Int) : prodR xs ys = 0 ∨ prodR xs ys = 1 := by
  unfold prodR; omega
theorem hat_sum : ∀ (k p : Nat) (F : Nat → Int), p < 2 ^ k → (sumN (2 ^ k) fun x => (1 - 2 * par k p x) * F x) = hat k F p
  | 0, p, F, h => by
    have : p = 0 := by simpa using h
    subst this
    simp [sumN, hat, par, prodR, rowN, rowAt]
  | k + 1, p, F, h => by
    have P : 2 ^ (k + 1) = 2 ^ k + 2 ^ k := by rw [Nat.pow_succ]; omega
    have b := fun x => prodR_bit (rowN k p) (rowN k x)
    rw [sumN_two]
    by_cases hp : p < 2 ^ k
    · rw [(hat_top hp).1, ← hat_sum k p _ hp, ← sumN_plus]
      refine sumN_congr fun x hx => ?_
      unfold par
      rw [rowN_lo hp, rowN_lo hx, rowN_hi hx, prodR_cons, prodR_cons]
      rcases prodR_bit (rowN k p) (rowN k x) with e | e <;> rw [e] <;> grind
    · obtain ⟨q, rfl⟩ : ∃ q, p = q + 2 ^ k := ⟨p - 2 ^ k, by omega⟩
      have hq : q < 2 ^ k := by omega
      rw [(hat_top hq).2, ← hat_sum k q _ hq, ← sumN_plus]
      refine sumN_congr fun x hx => ?_
      unfold par
      rw [rowN_hi hq, rowN_lo hx, rowN_hi hx, prodR_cons, prodR_cons]
      rcases prodR_bit (rowN k q) (rowN k x) with e | e <;> rw [e] <;> grind

/-! ### sums of spectra -/
theorem hat_all : ∀ (m : Nat) (c : Nat → Int), (sumN (2 ^ m) fun j => hat m c j) = 2 ^ m * c 0
  | 0, c => by simp [sumN, hat]
  | m + 1, c => by
    rw [sumN_two, ← sumN_plus]
    rw [sumN_congr (g := fun j => hat m (fun x => 2 * c x) j) fun j hj => by
      rw [(hat_top hj).1, (hat_top hj).2, hat_plus, hat_minus, hat_mul]; omega]
    rw [hat_all m, Int.pow_succ]
    grind
theorem hat_part : ∀ (k m : Nat) (c : Nat → Int) (p : Nat), p < 2 ^ k → (sumN (2 ^ m) fun j => hat (k + m) c (p * 2 ^ m + j)) = 2 ^ m * hat k (fun y => c (y * 2 ^ m)) p
  | 0, m, c, p, h => by
    have : p = 0 := by simpa using h
    subst this
    simp only [Nat.zero_add, Nat.zero_mul, hat]
    exact hat_all m c
  | k + 1, m, c, p, h => by
    have P : 2 ^ (k + 1) = 2 ^ k + 2 ^ k := by rw [Nat.pow_succ]; omega
    have Q : 2 ^ (k + m) = 2 ^ k * 2 ^ m := Nat.pow_add ..
    have up : ∀ {p j}, p < 2 ^ k → j < 2 ^ m → p * 2 ^ m + j < 2 ^ (k + m) := fun {p j} hp hj => by
      have := Nat.mul_le_mul_right (2 ^ m) (show p + 1 ≤ 2 ^ k by omega)
      rw [Nat.add_mul, Nat.one_mul] at this
      rw [Q]; omega
    by_cases hp : p < 2 ^ k
    · rw [(hat_top hp).1]
      rw [show k + 1 + m = k + m + 1 by omega]
      rw [sumN_congr (g := fun j => hat (k + m) (fun x => c x + c (x + 2 ^ (k + m))) (p * 2 ^ m + j)) fun j hj => (hat_top (up hp hj)).1]
      rw [hat_part k m _ p hp]
      congr 1
      refine hat_congr fun y hy => ?_
      rw [Nat.add_mul, ← Q]
    · obtain ⟨q, rfl⟩ : ∃ q, p = q + 2 ^ k := ⟨p - 2 ^ k, by omega⟩
      have hq : q < 2 ^ k := by omega
      rw [(hat_top hq).2]
      rw [show k + 1 + m = k + m + 1 by omega]
      rw [sumN_congr (g := fun j => hat (k + m) (fun x => c x - c (x + 2 ^ (k + m))) (q * 2 ^ m + j)) fun j hj => by
        rw [← (hat_top (up hq hj)).2, Nat.add_mul, ← Q]; congr 1; omega]
      rw [hat_part k m _ q hq]
      congr 1
      refine hat_congr fun y hy => ?_
      rw [Nat.add_mul, ← Q]
def conv (n : Nat) (f g : Nat → Int) (d : Nat) : Int := sumN (2 ^ n) fun x => f x * g (x ^^^ d)
theorem hat_of_conv : ∀ (n : Nat) (f g : Nat → Int) (s : Nat), s < 2 ^ n → hat n (conv n f g) s = hat n f s * hat n g s
  | 0, f, g, s, h => by simp [hat, conv, sumN]
  | n + 1, f, g, s, h => by
    have P : 2 ^ (n + 1) = 2 ^ n + 2 ^ n := by rw [Nat.pow_succ]; omega
    have lo : ∀ d, d < 2 ^ n → conv (n + 1) f g d = conv n f g d + conv n (fun x => f (x + 2 ^ n)) (fun x => g (x + 2 ^ n)) d := fun d hd => by
      unfold conv
      rw [sumN_two]
      congr 1
      exact sumN_congr fun i hi => by rw [(xor_add_top hi hd).1]
    have hi : ∀ d, d < 2 ^ n → conv (n + 1) f g (d + 2 ^ n) = conv n f (fun x => g (x + 2 ^ n)) d + conv n (fun x => f (x + 2 ^ n)) g d := fun d hd => by
      unfold conv
      rw [sumN_two]
      congr 1
      · exact sumN_congr fun i hi => by rw [(xor_add_top hi hd).2.1]
      · exact sumN_congr fun i hi => by rw [(xor_add_top hi hd).2.2]
    by_cases hs : s < 2 ^ n
    · rw [(hat_top hs).1, (hat_top hs).1, (hat_top hs).1]
      rw [hat_congr (g := fun d => (conv n f g d + conv n (fun x => f (x + 2 ^ n)) (fun x => g (x + 2 ^ n)) d) + (conv n f (fun x => g (x + 2 ^ n)) d + conv n (fun x => f (x + 2 ^ n)) g d)) fun d hd => by rw [lo d hd, hi d hd]]
      rw [hat_plus, hat_plus, hat_plus, hat_plus, hat_plus]
      have e1 := hat_of_conv n f g s hs
      have e2 := hat_of_conv n (fun x => f (x + 2 ^ n)) (fun x => g (x + 2 ^ n)) s hs
      have e3 := hat_of_conv n f (fun x => g (x + 2 ^ n)) s hs
      have e4 := hat_of_conv n (fun x => f (x + 2 ^ n)) g s hs
      grind
    · obtain ⟨t, rfl⟩ : ∃ t, s = t + 2 ^ n := ⟨s - 2 ^ n, by omega⟩
      have ht : t < 2 ^ n := by omega
      rw [(hat_top ht).2, (hat_top ht).2, (hat_top ht).2]
      rw [hat_congr (g := fun d => (conv n f g d + conv n (fun x => f (x + 2 ^ n)) (fun x => g (x + 2 ^ n)) d) - (conv n f (fun x => g (x + 2 ^ n)) d + conv n (fun x => f (x + 2 ^ n)) g d)) fun d hd => by rw [lo d hd, hi d hd]]
      rw [hat_minus, hat_plus, hat_plus, hat_minus, hat_minus]
      have e1 := hat_of_conv n f g t ht
      have e2 := hat_of_conv n (fun x => f (x + 2 ^ n)) (fun x => g (x + 2 ^ n)) t ht
      have e3 := hat_of_conv n f (fun x => g (x + 2 ^ n)) t ht
      have e4 := hat_of_conv n (fun x => f (x + 2 ^ n)) g t ht
      grind

/-! ### bits -/
theorem and_bit {a b : Int} (ha : a = 0 ∨ a = 1) (hb : b = 0 ∨ b = 1) : Builtin.bitAnd a b = a * b := by
  rcases ha with rfl | rfl <;> rcases hb with rfl | rfl <;> decide
theorem xor_bit {a b : Int} (ha : a = 0 ∨ a = 1) (hb : b = 0 ∨ b = 1) : Builtin.bitXor a b = (a + b) % 2 := by
  rcases ha with rfl | rfl <;> rcases hb with rfl | rfl <;> decide
theorem nat_xor : ∀ (n a b : Nat), a < 2 ^ n → b < 2 ^ n → (a ^^^ b) + 2 * (a &&& b) = a + b
  | 0, a, b, ha, hb => by
    have h1 : a = 0 := by simpa using ha
    have h2 : b = 0 := by simpa using hb
    subst h1 h2; rfl
  | n + 1, a, b, ha, hb => by
    have ih := nat_xor n (a / 2) (b / 2) (by rw [Nat.pow_succ] at ha; omega) (by rw [Nat.pow_succ] at hb; omega)
    have x1 : (a ^^^ b) / 2 = a / 2 ^^^ b / 2 := Nat.xor_div_two
    have x2 : (a &&& b) / 2 = a / 2 &&& b / 2 := Nat.and_div_two
    have m1 : (a ^^^ b) % 2 = (a % 2 + b % 2) % 2 := by
      have e0 : ∀ x : Nat, x % 2 = (x.testBit 0).toNat := fun x => by rw [Nat.testBit_zero]; rcases Nat.mod_two_eq_zero_or_one x with e | e <;> simp [e]
      rw [e0 (a ^^^ b), e0 a, e0 b, Nat.testBit_xor]
      cases a.testBit 0 <;> cases b.testBit 0 <;> rfl
    have m2 : (a &&& b) % 2 = (a % 2) * (b % 2) := by
      rw [Nat.and_mod_two_pow (n := 1)]
      rcases Nat.mod_two_eq_zero_or_one a with e | e <;> rcases Nat.mod_two_eq_zero_or_one b with e' | e' <;> simp [e, e']
    rw [← x1, ← x2] at ih
    rcases Nat.mod_two_eq_zero_or_one a with e | e <;> rcases Nat.mod_two_eq_zero_or_one b with e' | e' <;> rw [e, e'] at m1 m2 <;> omega
theorem xor_nat (a b : Nat) : Builtin.bitXor (a : Int) (b : Int) = ((a ^^^ b : Nat) : Int) := by
  rw [PyProof.Rows.bitXor_and, PySem.W.os_band]
  have h : ∀ x : Nat, x < 2 ^ x := fun x => Nat.lt_two_pow_self
  have := nat_xor (max a b) a b (Nat.lt_of_lt_of_le (h a) (two_le (Nat.le_max_left a b))) (Nat.lt_of_lt_of_le (h b) (two_le (Nat.le_max_right a b)))
  omega
theorem and_one (a : Int) : Builtin.bitAnd a 1 = a % 2 := PyProof.Rows.bitAnd_m1 a
theorem bits_pow (n : Nat) : Builtin.Int.intBits ((2 ^ n : Nat) : Int) = n + 1 := by
  have p := Nat.two_pow_pos n
  have l : (2 ^ n).log2 = n := Nat.log2_two_pow
  generalize 2 ^ n = M at *
  unfold Builtin.Int.intBits
  have z : ((M : Int) == 0) = false := by simp; omega
  rw [z, Int.natAbs_natCast, l]
  rfl
end Ev
set_option Elab.async false
set_option linter.all false
set_option maxRecDepth 100000
/-! V4: shift sums, weights. -/
namespace Ev
open PySem PySem.Spec PyProof.Rows L2

theorem zip_tabs (n : Nat) (f g : Nat → Int) : zipD ((tab n f).map .int) ((tab n g).map .int) = (List.range n).map fun i => PyData.tuple [.int (f i), .int (g i)] := by
  rw [zip_ints]
  simp [tab, List.zip_map', List.map_map]
/-- items by place -/
theorem compW_tab {dt : DT} {de : DO} {vs : List Nat} {Φ : List PyData → Env → Prop} {env : Env} {N : Nat} (f : Nat → PyData) (g : Nat → PyData) (hl : N ≤ 16777216)
    (hs : ∀ i, i < N → ∀ (M : PyData → Env → Prop), M (g i) env → dt (f i) env fun e1 => de e1 fun r e3 => shR r e3 fun v e4 => ∃ d, v = .d d ∧ M d (wipeE e4 vs))
    (h : Φ ((List.range N).map g) env) : compW dt dYes de vs ((List.range N).map f) env [] Φ :=
  compW_all f g (List.range N) (by simpa using hl) (fun i hi M hM => hs i (List.mem_range.mp hi) M hM) h
theorem compW_ints {dt : DT} {de : DO} {vs : List Nat} {Φ : List PyData → Env → Prop} {env : Env} {N : Nat} {f : Nat → Int} (g : Nat → PyData) (hl : N ≤ 16777216)
    (hs : ∀ i, i < N → ∀ (M : PyData → Env → Prop), M (g i) env → dt (.int (f i)) env fun e1 => de e1 fun r e3 => shR r e3 fun v e4 => ∃ d, v = .d d ∧ M d (wipeE e4 vs))
    (h : Φ ((List.range N).map g) env) : compW dt dYes de vs ((tab N f).map .int) env [] Φ := by
  unfold tab
  rw [List.map_map]
  exact compW_tab (fun i => .int (f i)) g hl hs h
theorem TI_tab (n : Nat) (f : Nat → Int) : TI (tab n f) = .tuple ((List.range n).map fun i => PyData.int (f i)) := by
  simp [TI, tab, List.map_map]
theorem ints_tab (n : Nat) (f : Nat → Int) : ((List.range n).map fun i => PyData.int (f i)) = (tab n f).map .int := by
  simp [tab, List.map_map]
/-- sums of reckoned lists -/
theorem sum_tab {n : Nat} {f : Nat → Int} {Φ : Val → Prop} (h : Φ (.d (.int (sumN n f)))) : oSum (.own ((List.range n).map fun i => PyData.int (f i))) Φ := by
  refine ⟨tab n f, ?_, by rw [tab_sum]; exact h⟩
  rw [← ints_tab]; rfl
theorem BitF.sg {n : Nat} {t : Nat → Int} (h : BitF n t) (i : Nat) (hi : i < n) : -1 ≤ sg t i ∧ sg t i ≤ 1 := by
  unfold Ev.sg
  rcases h i hi with e | e <;> rw [e] <;> omega

def sp_crossed_sums : FSpec := fun args Φ => ∃ (n : Nat) (t u : Nat → Int), args = [.d (TI (tab (2 ^ n) t)), .d (TI (tab (2 ^ n) u))] ∧ n ≤ 20 ∧ BitF (2 ^ n) t ∧ BitF (2 ^ n) u ∧ Φ (.d (TI (tab (2 ^ n) (conv n (sg t) (sg u)))))
def D_crossed_sums : DS := (dSeq (dSet 2 (dUn oTuple (dLc [3, 4] (dZip (dCons (dCall 1 sp_spectrum (dCons (dVar 0) dNil)) (dCons (dCall 1 sp_spectrum (dCons (dVar 1) dNil)) dNil))) (tTup 2 (tCons (tName 3) (tCons (tName 4) tNil))) dYes (dBin oMul (dVar 3) (dVar 4))))) (dSeq (dRet (dUn oTuple (dLc [5] (dSeqI (dCall 1 sp_led_through (dCons (dVar 2) dNil))) (tName 5) dYes (dBin oDiv (dVar 5) (dUn oLen (dVar 0)))))) dNext))
theorem v_crossed_sums (args : List Val) (Φ : Val → Prop) (h : sp_crossed_sums args Φ) : D_crossed_sums (kRet Φ) (envS ["one", "other", "products", "a", "b", "item"] args) := by
  obtain ⟨n, t, u, rfl, hn, ht, hu, hΦ⟩ := h
  simp [D_crossed_sums, envS, and_assoc]
  refine ⟨n, t, rfl, hn, ?_⟩
  simp
  refine ⟨n, u, rfl, hn, ?_⟩
  simp [and_assoc, zip_tabs]
  refine compW_tab _ (fun i => .int (spec n t i * spec n u i)) (len20 hn) (fun i hi M hM => ?_) ?_
  · simp [and_assoc]
    have b := spec_bound (s := i) ht
    have p := pow_lt64 hn
    exact ⟨cm_small (by omega), hM⟩
  · simp [tab_length]
    rw [ints_tab]
    refine ⟨n, _, rfl, hn, ?_⟩
    simp
    refine compW_ints (fun i => .int (conv n (sg t) (sg u) i)) (len20 hn) (fun i hi M hM => ?_) ?_
    · have e : hat n (fun i => spec n t i * spec n u i) i / ((2 ^ n : Nat) : Int) = conv n (sg t) (sg u) i := by
        have c := hat_conv n (sg t) (sg u) i hi
        unfold spec
        rw [c, two_cast, Int.mul_ediv_cancel_left _ (by have := Int.pow_pos (n := 2) (m := n) (by decide); omega)]
        rfl
      have tl : ((tab (2 ^ n) t).length : Int) = ((2 ^ n : Nat) : Int) := by rw [tab_length]
      have cd := cdivN (a := hat n (fun i => spec n t i * spec n u i) i) hn
      generalize ((2 ^ n : Nat) : Int) = a at *
      simp [tl, e]
      exact ⟨cd, hM⟩
    · rw [TI_tab] at hΦ
      exact hΦ
def shifts (n : Nat) (t : Nat → Int) : Nat → Int := conv n (sg t) (sg t)
def sp_shift_sums : FSpec := fun args Φ => ∃ (n : Nat) (t : Nat → Int), args = [.d (TI (tab (2 ^ n) t))] ∧ n ≤ 20 ∧ BitF (2 ^ n) t ∧ Φ (.d (TI (tab (2 ^ n) (shifts n t))))
def D_shift_sums : DS := (dSeq (dRet (dCall 2 sp_crossed_sums (dCons (dVar 0) (dCons (dVar 0) dNil)))) dNext)
theorem v_shift_sums (args : List Val) (Φ : Val → Prop) (h : sp_shift_sums args Φ) : D_shift_sums (kRet Φ) (envS ["table"] args) := by
  obtain ⟨n, t, rfl, hn, ht, hΦ⟩ := h
  simp [D_shift_sums, envS]
  exact ⟨n, t, t, rfl, hn, ht, ht, hΦ⟩
def sp_shift_sum : FSpec := fun args Φ => ∃ (n p : Nat) (t : Nat → Int) (xs : List Int), args = [.d (TI (tab (2 ^ n) t)), .d (TI xs)] ∧ n ≤ 20 ∧ BitF (2 ^ n) t ∧ placeF 0 xs = p ∧ p < 2 ^ n ∧ Φ (.d (.int (shifts n t p)))
def D_shift_sum : DS := (dSeq (dRet (dBin oIxS (dCall 1 sp_shift_sums (dCons (dVar 0) dNil)) (dCall 1 sp_row_place (dCons (dVar 1) dNil)))) dNext)
theorem v_shift_sum (args : List Val) (Φ : Val → Prop) (h : sp_shift_sum args Φ) : D_shift_sum (kRet Φ) (envS ["table", "d"] args) := by
  obtain ⟨n, p, t, xs, rfl, hn, ht, hp, hp2, hΦ⟩ := h
  simp [D_shift_sum, envS]
  refine ⟨n, t, rfl, hn, ht, ?_⟩
  simp
  refine ⟨xs, rfl, ?_⟩
  simp [hp]
  exact ⟨_, stepped_get hp2, hΦ⟩
def sp_shift_paper_error : FSpec := fun args Φ => ∃ (n : Nat) (t v : Nat → Int), args = [.d (TI (tab (2 ^ n) t)), .d (TI (tab (2 ^ n) v))] ∧ n ≤ 20 ∧ BitF (2 ^ n) t ∧ placeErr (2 ^ n) v (shifts n t) Φ
def D_shift_paper_error : DS := (dSeq (dIfS (dNotT (dTru (dCall 2 sp_are_integers (dCons (dVar 1) (dCons (dUn oLen (dVar 0)) dNil))))) (dSeq (dRet (dC (.str "form"))) dNext) dNext) (dSeq (dSet 2 (dCall 2 sp_first_unlike (dCons (dVar 1) (dCons (dCall 1 sp_shift_sums (dCons (dVar 0) dNil)) dNil)))) (dSeq (dRet (dIf (dTst (dBin oIsNot (dVar 2) (dC .none))) (dBin oAdd (dTup (dCons (dC (.str "place")) dNil)) (dVar 2)) (dC .none))) dNext)))
theorem v_shift_paper_error (args : List Val) (Φ : Val → Prop) (h : sp_shift_paper_error args Φ) : D_shift_paper_error (kRet Φ) (envS ["table", "value", "fault"] args) := by
  obtain ⟨n, t, v, rfl, hn, ht, h1, h2⟩ := h
  simp [D_shift_paper_error, envS, tab_length]
  refine ⟨_, _, rfl, by rw [tab_length]; exact len20 hn, ?_⟩
  simp [tab_length]
  refine ⟨n, t, rfl, hn, ht, ?_⟩
  simp
  refine ⟨_, _, _, rfl, fun hh => ?_, fun p hp hh hne => ?_⟩
  · simp
    exact h1 hh
  · simp
    exact h2 p hp hh hne

/-! ### powers, letters -/
def sp_power_of_two : FSpec := fun args Φ => ∃ n : Nat, args = [.d (.int n)] ∧ n ≤ 60 ∧ Φ (.d (.int ((2 ^ n : Nat) : Int)))
def D_power_of_two : DS := (dSeq (dSet 1 (dC (.int 1))) (dSeq (dFor (dRng1 (dCons (dVar 0) dNil)) (tName 2) (dSeq (dSet 1 (dBin oMul (dC (.int 2)) (dVar 1))) dNext)) (dSeq (dRet (dVar 1)) dNext)))
theorem v_power (nm : List Str) (hnm : nm.length = 3) (args : List Val) (Φ : Val → Prop) (h : sp_power_of_two args Φ) : D_power_of_two (kRet Φ) (envS nm args) := by
  obtain ⟨n, rfl, hn, hΦ⟩ := h
  simp [D_power_of_two, envS, hnm]
  refine ⟨by omega, ?_⟩
  refine forW_range _ n (fun j e => ∃ z, e = [some (.d (.int n)), some (.d (.int ((2 ^ j : Nat) : Int))), z]) ?_ ?_ _ ⟨none, by simp⟩
  · rintro e ⟨z, rfl⟩
    generalize ((2 ^ n : Nat) : Int) = a at *
    simpa using hΦ
  · rintro j hj e ⟨z, rfl⟩ M hM
    have e1 : 2 * ((2 ^ j : Nat) : Int) = ((2 ^ (j + 1) : Nat) : Int) := by rw [Nat.pow_succ]; omega
    generalize ((2 ^ j : Nat) : Int) = a at *
    generalize ((2 ^ (j + 1) : Nat) : Int) = b at *
    simp
    rw [e1]
    exact ⟨cm_small (by omega), hM _ ⟨_, rfl⟩⟩
def sp_table_letters : FSpec := fun args Φ => ∃ (n : Nat) (t : Nat → Int), args = [.d (TI (tab (2 ^ n) t))] ∧ n ≤ 20 ∧ Φ (.d (.int n))
def D_table_letters : DS := (dSeq (dSet 1 (dC (.int 0))) (dSeq (dWhile (dTst (dBin oLt (dBin oShl (dC (.int 1)) (dVar 1)) (dUn oLen (dVar 0)))) (dSeq (dSet 1 (dBin oAdd (dVar 1) (dC (.int 1)))) dNext)) (dSeq (dRet (dVar 1)) dNext)))
theorem letters_loop {K : KE} {n : Nat} {t : Nat → Int} (hn : n ≤ 20) : ∀ (m k : Nat), k + m = n → K.nx [some (.d (TI (tab (2 ^ n) t))), some (.d (.int n))] →
    whileN (dTst (dBin oLt (dBin oShl (dC (.int 1)) (dVar 1)) (dUn oLen (dVar 0)))) (dSeq (dSet 1 (dBin oAdd (dVar 1) (dC (.int 1)))) dNext) K (m + 1) [some (.d (TI (tab (2 ^ n) t))), some (.d (.int k))]
  | 0, k, e, h => by
    have : k = n := by omega
    subst this
    rw [whileN]
    have a1 : ((1 : Int) * 2 ^ (k : Int).toNat < ((2 ^ k : Nat) : Int)) = False := by rw [Int.toNat_natCast, ← two_cast]; simp
    have a2 : (((2 ^ k : Nat) : Int) ≤ (1 : Int) * 2 ^ (k : Int).toNat) = True := by rw [Int.toNat_natCast, ← two_cast]; simp
    have a3 : CPow 1 (k : Int) := ⟨by omega, by omega, by decide⟩
    have tl : ((tab (2 ^ k) t).length : Int) = ((2 ^ k : Nat) : Int) := by rw [tab_length]
    simp only [dTst, dBin, dUn, dVar, dC]
    generalize ((2 ^ k : Nat) : Int) = a at *
    simp [tl]
    simp at a1 a2
    exact ⟨a3, .inl ⟨by omega, h⟩⟩
  | m + 1, k, e, h => by
    have ih := letters_loop (K := K) (t := t) hn m (k + 1) (by omega) h
    rw [whileN]
    have p : 2 ^ (k + 1) ≤ 2 ^ n := two_le (by omega)
    have a1 : (2 : Int) ^ k < ((2 ^ n : Nat) : Int) := by rw [← two_cast]; rw [Nat.pow_succ] at p; have := Nat.two_pow_pos k; omega
    have a3 : CPow 1 (k : Int) := ⟨by omega, by omega, by decide⟩
    have tl : ((tab (2 ^ n) t).length : Int) = ((2 ^ n : Nat) : Int) := by rw [tab_length]
    generalize ((2 ^ n : Nat) : Int) = a at *
    simp [tl]
    refine ⟨a3, .inr ⟨a1, ?_⟩⟩
    simpa using ih
theorem v_table_letters (args : List Val) (Φ : Val → Prop) (h : sp_table_letters args Φ) : D_table_letters (kRet Φ) (envS ["table", "n"] args) := by
  obtain ⟨n, t, rfl, hn, hΦ⟩ := h
  simp only [D_table_letters, envS]
  have l := letters_loop (t := t) (K := { nx := fun e => dSeq (dRet (dVar 1)) dNext (kRet Φ) e, rt := Φ, bk := fun _ => False, ct := fun _ => False }) hn n 0 (by omega) (by simpa using hΦ)
  simp [dWhile]
  exact ⟨n + 1, l⟩
end Ev
set_option Elab.async false
set_option linter.all false
set_option maxRecDepth 100000
/-! V5: weights, trees. -/
namespace Ev
open PySem PySem.Spec PyProof.Rows L2

/-! ### slices of tables -/
theorem cut_nat {xs : List PyData} {a b : Nat} (h : a + b ≤ xs.length) : cutD xs (some (a : Int)) (some ((a : Int) + (b : Int))) = (xs.drop a).take b := by
  unfold cutD
  rw [show (a : Int) + (b : Int) = ((a + b : Nat) : Int) by omega, HT.sIx_nat, HT.sIx_nat, Nat.min_eq_left h, Nat.min_eq_left (show a ≤ xs.length by omega)]
  congr 1
  omega
theorem cut_to {xs : List PyData} {b : Nat} (h : b ≤ xs.length) : cutD xs none (some (b : Int)) = xs.take b := by
  unfold cutD
  rw [HT.sIx_none, HT.sIx_nat, Nat.min_eq_left h]
  simp
theorem cut_from {xs : List PyData} {a : Nat} (h : a ≤ xs.length) : cutD xs (some (a : Int)) none = xs.drop a := by
  unfold cutD
  rw [HT.sIx_none, HT.sIx_nat, Nat.min_eq_left h]
  rw [List.take_of_length_le]
  simp
theorem tab_cut {n a b : Nat} {f : Nat → Int} (h : a + b ≤ n) : ((tab n f).drop a).take b = tab b fun i => f (a + i) := by
  apply List.ext_getElem?
  intro i
  rw [List.getElem?_take]
  by_cases hi : i < b
  · rw [if_pos hi, List.getElem?_drop, tab_get (by omega), tab_get hi]
  · rw [if_neg hi, List.getElem?_eq_none (by rw [tab_length]; omega)]
theorem cut_tab {n a b : Nat} {f : Nat → Int} (h : a + b ≤ n) : cutD ((tab n f).map .int) (some (a : Int)) (some ((a : Int) + (b : Int))) = (tab b fun i => f (a + i)).map .int := by
  rw [cut_nat (by rw [List.length_map, tab_length]; exact h), ← List.map_drop, ← List.map_take, tab_cut h]

/-! ### weights -/
def Lim (N : Nat) (v : Nat → Int) : Prop := ∀ i, i < N → -1048576 ≤ v i ∧ v i ≤ 1048576
theorem spec_lim {n : Nat} {t : Nat → Int} (hn : n ≤ 20) (ht : BitF (2 ^ n) t) : Lim (2 ^ n) (spec n t) := fun i _ => by
  have := spec_bound (s := i) ht
  have := pow_lt64 hn
  omega
/-- the weight of the beginning p of k letters -/
def wt (n : Nat) (v : Nat → Int) (k p : Nat) : Int := sumN (2 ^ (n - k)) fun j => v (p * 2 ^ (n - k) + j) * v (p * 2 ^ (n - k) + j)
theorem part_le {n k p : Nat} (hk : k ≤ n) (hp : p < 2 ^ k) : p * 2 ^ (n - k) + 2 ^ (n - k) ≤ 2 ^ n := by
  have e : 2 ^ n = 2 ^ k * 2 ^ (n - k) := by rw [← Nat.pow_add]; congr 1; omega
  have := Nat.mul_le_mul_right (2 ^ (n - k)) (show p + 1 ≤ 2 ^ k by omega)
  rw [Nat.add_mul, Nat.one_mul] at this
  omega
def sp_weight_in : FSpec := fun args Φ => ∃ (n k p : Nat) (v : Nat → Int), args = [.d (TI (tab (2 ^ n) v)), .d (.int n), .d (TI (rowN k p))] ∧ n ≤ 20 ∧ k ≤ n ∧ p < 2 ^ k ∧ Lim (2 ^ n) v ∧ Φ (.d (.int (wt n v k p)))
def D_weight_in : DS := (dSeq (dSet 3 (dCall 1 sp_power_of_two (dCons (dBin oSub (dVar 1) (dUn oLen (dVar 2))) dNil))) (dSeq (dSet 4 (dBin oMul (dCall 1 sp_row_place (dCons (dVar 2) dNil)) (dVar 3))) (dSeq (dRet (dUn oSum (dLc [5] (dSeqI (dSl (dVar 0) (dSomeP (dVar 4)) (dSomeP (dBin oAdd (dVar 4) (dVar 3))))) (tName 5) dYes (dBin oMul (dVar 5) (dVar 5))))) dNext)))
theorem v_weight_in (args : List Val) (Φ : Val → Prop) (h : sp_weight_in args Φ) : D_weight_in (kRet Φ) (envS ["values", "n", "begin", "many", "first", "value"] args) := by
  obtain ⟨n, k, p, v, rfl, hn, hk, hp, hv, hΦ⟩ := h
  simp [D_weight_in, envS, rowN_length]
  refine ⟨n - k, by rw [show ((n - k : Nat) : Int) = (n : Int) - k by omega], by omega, ?_⟩
  have le := part_le hk hp
  have l20 := len20 hn
  have pm : 2 ^ (n - k) ≤ 2 ^ n := two_le (by omega)
  have p0 := Nat.two_pow_pos (n - k)
  unfold wt at hΦ
  generalize hm : 2 ^ (n - k) = m at *
  simp
  refine ⟨rowN k p, rfl, ?_⟩
  rw [place_rowN k p hp]
  simp
  refine ⟨cm_small' (by omega), ?_⟩
  rw [show (p : Int) * (m : Int) = ((p * m : Nat) : Int) by push_cast; rfl]
  rw [cut_tab le]
  refine compW_ints (fun i => .int (v (p * m + i) * v (p * m + i))) (by omega) (fun i hi M hM => ?_) ?_
  · have b := hv (p * m + i) (by omega)
    simp
    exact ⟨cm_small (by omega), hM⟩
  · exact sum_tab (by simpa using hΦ)
def sp_begin_weight : FSpec := fun args Φ => ∃ (n k p : Nat) (t : Nat → Int), args = [.d (TI (tab (2 ^ n) t)), .d (TI (rowN k p))] ∧ n ≤ 20 ∧ k ≤ n ∧ p < 2 ^ k ∧ BitF (2 ^ n) t ∧ Φ (.d (.int (wt n (spec n t) k p)))
def D_begin_weight : DS := (dSeq (dRet (dCall 3 sp_weight_in (dCons (dCall 1 sp_spectrum (dCons (dVar 0) dNil)) (dCons (dCall 1 sp_table_letters (dCons (dVar 0) dNil)) (dCons (dVar 1) dNil))))) dNext)
theorem v_begin_weight (args : List Val) (Φ : Val → Prop) (h : sp_begin_weight args Φ) : D_begin_weight (kRet Φ) (envS ["table", "begin"] args) := by
  obtain ⟨n, k, p, t, rfl, hn, hk, hp, ht, hΦ⟩ := h
  simp [D_begin_weight, envS]
  refine ⟨n, t, rfl, hn, ?_⟩
  simp
  refine ⟨n, t, rfl, hn, ?_⟩
  simp
  exact ⟨n, k, p, _, rfl, hn, hk, hp, spec_lim hn ht, by simpa using hΦ⟩
/-- weights by shifts alone -/
theorem wt_shifts {n k p : Nat} {t : Nat → Int} (hk : k ≤ n) (hp : p < 2 ^ k) : (sumN (2 ^ k) fun y => (1 - 2 * par k p y) * shifts n t (y * 2 ^ (n - k))) * 2 ^ (n - k) = wt n (spec n t) k p := by
  rw [hat_sum k p (fun y => shifts n t (y * 2 ^ (n - k))) hp, Int.mul_comm, ← hat_part k (n - k) (shifts n t) p hp]
  unfold wt
  have e : k + (n - k) = n := by omega
  have le := part_le hk hp
  refine sumN_congr fun j hj => ?_
  rw [e]
  exact hat_of_conv n (sg t) (sg t) _ (by omega)
def sp_weight_by_shifts : FSpec := fun args Φ => ∃ (n k p : Nat) (t : Nat → Int), args = [.d (TI (tab (2 ^ n) t)), .d (TI (rowN k p))] ∧ n ≤ 20 ∧ k ≤ n ∧ p < 2 ^ k ∧ BitF (2 ^ n) t ∧ Φ (.d (.int (wt n (spec n t) k p)))
def D_weight_by_shifts : DS := (dSeq (dPar3 2 3 4 (dCall 1 sp_table_letters (dCons (dVar 0) dNil)) (dUn oLen (dVar 1)) (dCall 1 sp_shift_sums (dCons (dVar 0) dNil))) (dSeq (dPar2 5 6 (dCall 1 sp_power_of_two (dCons (dBin oSub (dVar 2) (dVar 3)) dNil)) (dC (.int 0))) (dSeq (dFor (dRng1 (dCons (dCall 1 sp_power_of_two (dCons (dVar 3) dNil)) dNil)) (tName 7) (dSeq (dSet 8 (dBin oSub (dC (.int 1)) (dBin oMul (dC (.int 2)) (dCall 2 sp_rows_product (dCons (dVar 1) (dCons (dCall 2 sp_row_at (dCons (dVar 3) (dCons (dVar 7) dNil))) dNil)))))) (dSeq (dSet 6 (dBin oAdd (dVar 6) (dBin oMul (dVar 8) (dBin oIxS (dVar 4) (dBin oMul (dVar 7) (dVar 5)))))) dNext))) (dSeq (dRet (dBin oMul (dVar 6) (dVar 5))) dNext))))
theorem v_weight_by_shifts (args : List Val) (Φ : Val → Prop) (h : sp_weight_by_shifts args Φ) : D_weight_by_shifts (kRet Φ) (envS ["table", "begin", "n", "k", "sums", "many", "found", "place", "sign"] args) := by
  obtain ⟨n, k, p, t, rfl, hn, hk, hp, ht, hΦ⟩ := h
  simp [D_weight_by_shifts, envS, rowN_length]
  refine ⟨n, t, rfl, hn, ?_⟩
  simp [rowN_length]
  refine ⟨n, t, rfl, hn, ht, ?_⟩
  simp
  refine ⟨n - k, by rw [show ((n - k : Nat) : Int) = (n : Int) - k by omega], by omega, ?_⟩
  have le := part_le hk hp
  have l20 := len20 hn
  have pm : 2 ^ (n - k) ≤ 2 ^ n := two_le (by omega)
  have pk : 2 ^ k ≤ 2 ^ n := two_le hk
  have p0 := Nat.two_pow_pos (n - k)
  have key := wt_shifts (t := t) hk hp
  rw [← two_cast] at key
  have bnd : ∀ y, y < 2 ^ k → y * 2 ^ (n - k) < 2 ^ n := fun y hy => by have := part_le hk hy; omega
  generalize hm : 2 ^ (n - k) = m at *
  simp
  refine ⟨k, rfl, by omega, ?_⟩
  generalize hK : 2 ^ k = K at *
  simp
  refine ⟨by omega, ?_⟩
  refine forW_range _ K (fun j e => ∃ z7 z8, e = [some (.d (TI (tab (2 ^ n) t))), some (.d (TI (rowN k p))), some (.d (.int n)), some (.d (.int k)), some (.d (TI (tab (2 ^ n) (shifts n t)))), some (.d (.int m)), some (.d (.int (sumN j fun y => (1 - 2 * par k p y) * shifts n t (y * m)))), z7, z8]) ?_ ?_ _ ⟨none, none, rfl⟩
  · rintro e ⟨z7, z8, rfl⟩
    simp
    refine ⟨cm_small' (by omega), ?_⟩
    rw [key]
    exact hΦ
  · rintro j hj e ⟨z7, z8, rfl⟩ N hN
    simp
    refine ⟨k, j, rfl, by omega, ?_⟩
    simp
    refine ⟨rowN k p, rowN k j, rfl, by rw [rowN_length]; omega, rowN_bits k p, ?_⟩
    simp
    have b := prodR_bit (rowN k p) (rowN k j)
    refine ⟨cm_small (by omega), cm_small' (by omega), ?_⟩
    rw [show (j : Int) * (m : Int) = ((j * m : Nat) : Int) by push_cast; rfl]
    refine ⟨_, stepped_get (bnd j hj), ?_⟩
    simp
    refine ⟨cm_small (by rcases b with e | e <;> rw [e] <;> omega), hN _ ⟨_, _, rfl⟩⟩
def sp_weights_below : FSpec := fun args Φ => ∃ (n k p : Nat) (t : Nat → Int), args = [.d (TI (tab (2 ^ n) t)), .d (TI (rowN k p))] ∧ n ≤ 20 ∧ k < n ∧ p < 2 ^ k ∧ BitF (2 ^ n) t ∧ Φ (.d (TI [wt n (spec n t) (k + 1) (2 * p), wt n (spec n t) (k + 1) (2 * p + 1)]))
def D_weights_below : DS := (dSeq (dPar2 2 3 (dCall 1 sp_spectrum (dCons (dVar 0) dNil)) (dCall 1 sp_table_letters (dCons (dVar 0) dNil))) (dSeq (dRet (dTup (dCons (dCall 3 sp_weight_in (dCons (dVar 2) (dCons (dVar 3) (dCons (dBin oAdd (dVar 1) (dTup (dCons (dC (.int 0)) dNil))) dNil)))) (dCons (dCall 3 sp_weight_in (dCons (dVar 2) (dCons (dVar 3) (dCons (dBin oAdd (dVar 1) (dTup (dCons (dC (.int 1)) dNil))) dNil)))) dNil)))) dNext))
theorem row_0 (k p : Nat) : (rowN k p).map PyData.int ++ [.int 0] = (rowN (k + 1) (2 * p)).map .int := by
  rw [rowN_succ, show 2 * p / 2 = p by omega, show 2 * p % 2 = 0 by omega]; simp
theorem row_1 (k p : Nat) : (rowN k p).map PyData.int ++ [.int 1] = (rowN (k + 1) (2 * p + 1)).map .int := by
  rw [rowN_succ, show (2 * p + 1) / 2 = p by omega, show (2 * p + 1) % 2 = 1 by omega]; simp
theorem v_weights_below (args : List Val) (Φ : Val → Prop) (h : sp_weights_below args Φ) : D_weights_below (kRet Φ) (envS ["table", "begin", "values", "n"] args) := by
  obtain ⟨n, k, p, t, rfl, hn, hk, hp, ht, hΦ⟩ := h
  simp [D_weights_below, envS]
  refine ⟨n, t, rfl, hn, ?_⟩
  simp
  refine ⟨n, t, rfl, hn, ?_⟩
  simp [rowN_length]
  rw [row_0]
  have q : 2 ^ (k + 1) = 2 * 2 ^ k := by rw [Nat.pow_succ]; omega
  refine ⟨by omega, n, k + 1, 2 * p, _, rfl, hn, hk, by omega, spec_lim hn ht, ?_⟩
  simp [rowN_length]
  rw [row_1]
  exact ⟨by omega, n, k + 1, 2 * p + 1, _, rfl, hn, hk, by omega, spec_lim hn ht, by simp; exact hΦ⟩
end Ev
set_option Elab.async false
set_option linter.all false
set_option maxRecDepth 100000
/-! V6: trees. -/
namespace Ev
open PySem PySem.Spec PyProof.Rows L2

/-- the places of the rows of k letters in the tree -/
def lvl (n : Nat) (v : Nat → Int) (c : Int) : Nat → List Nat
  | 0 => [0]
  | k + 1 => (lvl n v c k).flatMap fun p => if c * c ≤ wt n v k p then [2 * p, 2 * p + 1] else []
theorem lvl_lt {n : Nat} {v : Nat → Int} {c : Int} : ∀ {k p : Nat}, p ∈ lvl n v c k → p < 2 ^ k
  | 0, p, h => by simp [lvl] at h; subst h; decide
  | k + 1, p, h => by
    simp only [lvl, List.mem_flatMap] at h
    obtain ⟨q, hq, h⟩ := h
    have := lvl_lt hq
    have e : 2 ^ (k + 1) = 2 * 2 ^ k := by rw [Nat.pow_succ]; omega
    split at h
    · simp at h; omega
    · simp at h
theorem grow_len {α : Type} (f : α → List Nat) (h : ∀ a, (f a).length ≤ 2) : ∀ l : List α, (l.flatMap f).length ≤ 2 * l.length
  | [] => by simp
  | a :: l => by
    have := grow_len f h l
    have := h a
    simp only [List.flatMap_cons, List.length_append, List.length_cons]; omega
theorem lvl_len {n : Nat} {v : Nat → Int} {c : Int} : ∀ k, (lvl n v c k).length ≤ 2 ^ k
  | 0 => by simp [lvl]
  | k + 1 => by
    have := lvl_len (n := n) (v := v) (c := c) k
    have := grow_len (fun p => if c * c ≤ wt n v k p then [2 * p, 2 * p + 1] else []) (fun a => by split <;> simp) (lvl n v c k)
    rw [Nat.pow_succ]
    simp only [lvl]; omega
def itm (n : Nat) (v : Nat → Int) (k p : Nat) : PyData := T [TI (rowN k p), I (wt n v k p)]
def lvD (n : Nat) (v : Nat → Int) (c : Int) (k : Nat) : List PyData := (lvl n v c k).map (itm n v k)
theorem lvD_len {n : Nat} {v : Nat → Int} {c : Int} {k : Nat} : (lvD n v c k).length ≤ 2 ^ k := by unfold lvD; rw [List.length_map]; exact lvl_len k
def sp_tree_levels : FSpec := fun args Φ => ∃ (n c : Nat) (t : Nat → Int), args = [.d (TI (tab (2 ^ n) t)), .d (.int c)] ∧ n ≤ 12 ∧ c ≤ 1048576 ∧ BitF (2 ^ n) t ∧ Φ (.own ((List.range (n + 1)).map fun k => .list (lvD n (spec n t) c k)))
def D_tree_levels : DS := (dSeq (dPar2 2 3 (dCall 1 sp_spectrum (dCons (dVar 0) dNil)) (dCall 1 sp_table_letters (dCons (dVar 0) dNil))) (dSeq (dPar2 4 5 (dLst dNil) (dLst (dCons (dTup (dCons (dTup dNil) (dCons (dCall 3 sp_weight_in (dCons (dVar 2) (dCons (dVar 3) (dCons (dTup dNil) dNil)))) dNil))) dNil))) (dSeq (dWhile (dTru (dC (.bool true))) (dSeq (dExpr (dApp 4 (dVar 5))) (dSeq (dIfS (dTst (dBin oGt (dUn oLen (dVar 4)) (dVar 3))) (dSeq (dRet (dVar 4)) dNext) dNext) (dSeq (dSet 6 (dLst dNil)) (dSeq (dFor (dSeqI (dVar 5)) (tTup 2 (tCons (tName 7) (tCons (tName 8) tNil))) (dSeq (dIfS (dTst (dBin oGe (dVar 8) (dBin oMul (dVar 1) (dVar 1)))) (dSeq (dSet 9 (dLst (dCons (dBin oAdd (dVar 7) (dTup (dCons (dC (.int 0)) dNil))) (dCons (dBin oAdd (dVar 7) (dTup (dCons (dC (.int 1)) dNil))) dNil)))) (dSeq (dExpr (dExt 6 (dLc [10] (dSeqI (dVar 9)) (tName 10) dYes (dTup (dCons (dVar 10) (dCons (dCall 3 sp_weight_in (dCons (dVar 2) (dCons (dVar 3) (dCons (dVar 10) dNil)))) dNil)))))) dNext)) dNext) dNext)) (dSeq (dSet 5 (dVar 6)) dNext)))))) dNext)))
abbrev B_tree_in : DS := (dSeq (dIfS (dTst (dBin oGe (dVar 8) (dBin oMul (dVar 1) (dVar 1)))) (dSeq (dSet 9 (dLst (dCons (dBin oAdd (dVar 7) (dTup (dCons (dC (.int 0)) dNil))) (dCons (dBin oAdd (dVar 7) (dTup (dCons (dC (.int 1)) dNil))) dNil)))) (dSeq (dExpr (dExt 6 (dLc [10] (dSeqI (dVar 9)) (tName 10) dYes (dTup (dCons (dVar 10) (dCons (dCall 3 sp_weight_in (dCons (dVar 2) (dCons (dVar 3) (dCons (dVar 10) dNil)))) dNil)))))) dNext)) dNext) dNext)
abbrev B_tree : DS := (dSeq (dExpr (dApp 4 (dVar 5))) (dSeq (dIfS (dTst (dBin oGt (dUn oLen (dVar 4)) (dVar 3))) (dSeq (dRet (dVar 4)) dNext) dNext) (dSeq (dSet 6 (dLst dNil)) (dSeq (dFor (dSeqI (dVar 5)) (tTup 2 (tCons (tName 7) (tCons (tName 8) tNil))) B_tree_in) (dSeq (dSet 5 (dVar 6)) dNext)))))
theorem tree_in {K : KE} {n c k : Nat} {v : Nat → Int} {e0 e4 e5 : Val} (hn : n ≤ 12) (hc : c ≤ 1048576) (hk : k < n) (hv : Lim (2 ^ n) v)
    (h : ∀ z7 z8 z9, K.nx [some e0, some (.d (.int c)), some (.d (TI (tab (2 ^ n) v))), some (.d (.int n)), some e4, some e5, some (.own (lvD n v c (k + 1))), z7, z8, z9, none]) (z7 z8 z9 : Option Val) :
    forW (tTup 2 (tCons (tName 7) (tCons (tName 8) tNil))) B_tree_in K (lvD n v c k) [some e0, some (.d (.int c)), some (.d (TI (tab (2 ^ n) v))), some (.d (.int n)), some e4, some e5, some (.own []), z7, z8, z9, none] := by
  have p12 : 2 ^ k ≤ 4096 := by have := two_le (show k ≤ 12 by omega); simpa using this
  have ll := lvl_len (n := n) (v := v) (c := (c : Int)) k
  refine forW_map (itm n v k) (fun r e => ∃ (done : List Nat) (z7 z8 z9 : Option Val), e = [some e0, some (.d (.int c)), some (.d (TI (tab (2 ^ n) v))), some (.d (.int n)), some e4, some e5, some (.own ((done.flatMap fun p => if (c : Int) * c ≤ wt n v k p then [2 * p, 2 * p + 1] else []).map (itm n v (k + 1)))), z7, z8, z9, none] ∧ done ++ r = lvl n v c k) ?_ ?_ (lvl n v c k) _ ⟨[], z7, z8, z9, rfl, rfl⟩
  · rintro e ⟨done, y7, y8, y9, rfl, h2⟩
    rw [List.append_nil] at h2
    subst h2
    exact h y7 y8 y9
  · rintro p r e ⟨done, y7, y8, y9, rfl, h2⟩ N hN
    have hp : p < 2 ^ k := lvl_lt (n := n) (v := v) (c := c) (by rw [← h2]; simp)
    have hd : done.length ≤ 4096 := by
      have : done.length ≤ (lvl n v c k).length := by rw [← h2]; simp
      omega
    have gl := grow_len (fun p => if (c : Int) * c ≤ wt n v k p then [2 * p, 2 * p + 1] else []) (fun a => by split <;> simp) done
    have q : 2 ^ (k + 1) = 2 * 2 ^ k := by rw [Nat.pow_succ]; omega
    by_cases hw : (c : Int) * c ≤ wt n v k p
    · have hw2 : ¬ wt n v k p < (c : Int) * c := by omega
      simp [itm, and_assoc, hw, hw2, rowN_length]
      rw [row_0, row_1]
      refine ⟨cm_small (by omega), by omega, ?_⟩
      refine compW_all (fun q => TI (rowN (k + 1) q)) (itm n v (k + 1)) [2 * p, 2 * p + 1] (by simp) (fun q hq M hM => ?_) ?_
      · simp
        refine ⟨n, k + 1, q, v, rfl, by omega, by omega, ?_, hv, ?_⟩
        · simp at hq; omega
        · simpa [itm] using hM
      · rw [List.length_flatMap] at gl
        simp
        refine ⟨by omega, hN _ ⟨done ++ [p], some (.d (TI (rowN k p))), some (.d (.int (wt n v k p))), some (.d (.list [TI (rowN (k + 1) (2 * p)), TI (rowN (k + 1) (2 * p + 1))])), ?_, by simpa using h2⟩⟩
        simp [hw]
    · have hw2 : wt n v k p < (c : Int) * c := by omega
      simp [itm, and_assoc, hw, hw2]
      refine ⟨cm_small (by omega), hN _ ⟨done ++ [p], some (.d (TI (rowN k p))), some (.d (.int (wt n v k p))), y9, ?_, by simpa using h2⟩⟩
      simp [hw]
theorem tree_loop {Φ : Val → Prop} {n c : Nat} {v : Nat → Int} {e0 : Val} (hn : n ≤ 12) (hc : c ≤ 1048576) (hv : Lim (2 ^ n) v)
    (h : Φ (.own ((List.range (n + 1)).map fun k => .list (lvD n v c k)))) : ∀ (m k : Nat) (e5 : Val) (z6 z7 z8 z9 : Option Val), k + m = n → toL e5 = some (lvD n v c k) → toD e5 = some (.list (lvD n v c k)) →
    whileN (dTru (dC (.bool true))) B_tree { nx := fun e => dNext (kRet Φ) e, rt := Φ, bk := fun _ => False, ct := fun _ => False } (m + 1) [some e0, some (.d (.int c)), some (.d (TI (tab (2 ^ n) v))), some (.d (.int n)), some (.own ((List.range k).map fun k => .list (lvD n v c k))), some e5, z6, z7, z8, z9, none]
  | 0, k, e5, z6, z7, z8, z9, e, h1, h2 => by
    have : k = n := by omega
    subst this
    rw [whileN]
    simp [List.range_succ] at h ⊢
    cases e5 with
    | own xs => cases h1; simp; exact ⟨by omega, .inr h⟩
    | d d => cases d with
      | list xs => cases h1; simp; exact ⟨by omega, .inr h⟩
      | _ => cases h1
    | _ => cases h1
  | m + 1, k, e5, z6, z7, z8, z9, e, h1, h2 => by
    have ih := tree_loop (e0 := e0) hn hc hv h m (k + 1)
    have go := fun z7 z8 z9 => tree_in (K := { nx := fun e => dSeq (dSet 5 (dVar 6)) dNext { nx := whileN (dTru (dC (.bool true))) B_tree { nx := fun e => dNext (kRet Φ) e, rt := Φ, bk := fun _ => False, ct := fun _ => False } (m + 1), ct := whileN (dTru (dC (.bool true))) B_tree { nx := fun e => dNext (kRet Φ) e, rt := Φ, bk := fun _ => False, ct := fun _ => False } (m + 1), bk := fun e => dNext (kRet Φ) e, rt := Φ } e, rt := Φ, bk := fun e => dNext (kRet Φ) e, ct := whileN (dTru (dC (.bool true))) B_tree { nx := fun e => dNext (kRet Φ) e, rt := Φ, bk := fun _ => False, ct := fun _ => False } (m + 1) })
      (e0 := e0) (e4 := .own ((List.range (k + 1)).map fun k => .list (lvD n v c k))) (e5 := .d (.list (lvD n v c k))) hn hc (show k < n by omega) hv (fun z7 z8 z9 => by
        simp
        exact ih _ _ z7 z8 z9 (by omega) rfl rfl) z7 z8 z9
    rw [List.range_succ, List.map_append] at go
    rw [whileN]
    cases e5 with
    | own xs => cases h1; simp; exact ⟨by omega, .inl ⟨by omega, go z7 z8 z9⟩⟩
    | d d => cases d with
      | list xs => cases h1; simp; exact ⟨by omega, .inl ⟨by omega, go z7 z8 z9⟩⟩
      | _ => cases h1
    | _ => cases h1
theorem v_tree_levels (args : List Val) (Φ : Val → Prop) (h : sp_tree_levels args Φ) : D_tree_levels (kRet Φ) (envS ["table", "least", "values", "n", "found", "here", "below", "begin", "weight", "further", "own"] args) := by
  obtain ⟨n, c, t, rfl, hn, hc, ht, hΦ⟩ := h
  have lp := fun e0 => tree_loop (e0 := e0) hn hc (spec_lim (by omega) ht) hΦ n 0 (.own (lvD n (spec n t) c 0)) none none none none (by omega) rfl rfl
  simp [D_tree_levels, envS]
  refine ⟨n, t, rfl, by omega, ?_⟩
  simp
  refine ⟨n, t, rfl, by omega, ?_⟩
  simp
  refine ⟨n, 0, 0, _, rfl, by omega, by omega, by decide, spec_lim (by omega) ht, ?_⟩
  simp [dWhile]
  exact ⟨n + 1, lp _⟩
end Ev
set_option Elab.async false
set_option linter.all false
set_option maxRecDepth 100000
/-! V7: equal data; papers of trees. -/
namespace Ev
open PySem PySem.Spec PyProof.Rows L2

/-! ### what may be compared -/
structure Lay (m : Nat) (d : PyData) : Prop where
  ok : d.canLay0 = true
  dp : d.depth ≤ m
theorem Lay.mono {m k : Nat} {d : PyData} (h : Lay m d) (l : m ≤ k) : Lay k d := ⟨h.ok, Nat.le_trans h.dp l⟩
theorem lay_i (i : Int) : Lay 0 (.int i) := ⟨by simp [PyData.canLay0], by simp [PyData.depth]⟩
theorem lay_n : Lay 0 .none := ⟨by simp [PyData.canLay0], by simp [PyData.depth]⟩
theorem lay_b (b : Bool) : Lay 0 (.bool b) := ⟨by simp [PyData.canLay0], by simp [PyData.depth]⟩
theorem lay_all {m : Nat} : ∀ {xs : List PyData}, (∀ x ∈ xs, Lay m x) → PyData.canLayAll0 xs = true ∧ PyData.depthAll xs ≤ m
  | [], _ => ⟨by simp [PyData.canLayAll0], by simp [PyData.depthAll]⟩
  | x :: xs, h => by
    have a := h x (List.mem_cons_self ..)
    obtain ⟨b, c⟩ := lay_all fun y hy => h y (List.mem_cons_of_mem _ hy)
    exact ⟨by simp [PyData.canLayAll0, a.ok, b], by have d := a.dp; simp only [PyData.depthAll]; omega⟩
theorem lay_t {m : Nat} {xs : List PyData} (h : ∀ x ∈ xs, Lay m x) : Lay (m + 1) (.tuple xs) := by
  obtain ⟨a, b⟩ := lay_all h
  exact ⟨by simpa [PyData.canLay0] using a, by simp only [PyData.depth]; omega⟩
theorem lay_l {m : Nat} {xs : List PyData} (h : ∀ x ∈ xs, Lay m x) : Lay (m + 1) (.list xs) := by
  obtain ⟨a, b⟩ := lay_all h
  exact ⟨by simpa [PyData.canLay0] using a, by simp only [PyData.depth]; omega⟩
theorem lay_TI (xs : List Int) : Lay 1 (TI xs) := lay_t fun x hx => by
  obtain ⟨i, _, rfl⟩ := List.mem_map.mp hx
  exact lay_i i
theorem Lay.shaped {m : Nat} {d : PyData} (h : Lay m d) (hm : m ≤ 64) : SeqAt.shaped d = true := by
  unfold SeqAt.shaped
  rw [h.ok, decide_eq_true (Nat.le_trans h.dp hm)]; rfl
theorem ne_same {m : Nat} {d : PyData} {Φ} (h : Lay m d) (hm : m ≤ 64) : oNe (.d d) (.d d) Φ ↔ Φ (.d (.bool false)) := by
  constructor
  · rintro (⟨a, b, h1, h2, _, _, q⟩ | ⟨a, b, h1, h2, q⟩)
    · cases h1; cases h2
      rw [SeqAt.eqv_refl d h.ok] at q; exact q
    · cases h1; cases h2
      simpa using q
  · intro q
    exact .inl ⟨d, d, rfl, rfl, h.shaped hm, h.shaped hm, by rw [SeqAt.eqv_refl d h.ok]; exact q⟩
theorem eq_same {m : Nat} {d : PyData} {Φ} (h : Lay m d) (hm : m ≤ 64) : oEq (.d d) (.d d) Φ ↔ Φ (.d (.bool true)) := by
  constructor
  · rintro (⟨a, b, h1, h2, _, _, q⟩ | ⟨a, b, h1, h2, q⟩)
    · cases h1; cases h2
      rw [SeqAt.eqv_refl d h.ok] at q; exact q
    · cases h1; cases h2
      simpa using q
  · intro q
    exact .inl ⟨d, d, rfl, rfl, h.shaped hm, h.shaped hm, by rw [SeqAt.eqv_refl d h.ok]; exact q⟩
theorem ne_diff {m : Nat} {d e : PyData} {Φ} (h : Lay m d) (h' : Lay m e) (hm : m ≤ 64) (hd : PyData.eqv d e = false) (q : Φ (.d (.bool true))) : oNe (.d d) (.d e) Φ :=
  .inl ⟨d, e, rfl, rfl, h.shaped hm, h'.shaped hm, by rw [hd]; exact q⟩
theorem eq_str {x : Str} {Φ} : oEq (.d (.str x)) (.d (.str x)) Φ ↔ Φ (.d (.bool true)) := by
  constructor
  · rintro (⟨a, b, h1, h2, s1, _, q⟩ | ⟨a, b, h1, h2, q⟩)
    · cases h1; cases h2
      rw [SeqAt.eqv_refl _ (Bool.and_eq_true_iff.mp s1).1] at q; exact q
    · cases h1; cases h2
      simpa using q
  · intro q
    exact .inr ⟨x, x, rfl, rfl, by simpa using q⟩
theorem eqvAll_ints : ∀ (xs ys : List Int), PyData.eqvAll (xs.map .int) (ys.map .int) = decide (xs = ys)
  | [], [] => by simp [PyData.eqvAll]
  | [], y :: ys => by simp [PyData.eqvAll]
  | x :: xs, [] => by simp [PyData.eqvAll]
  | x :: xs, y :: ys => by
    simp [PyData.eqvAll, PyData.eqv, eqvAll_ints xs ys]
    by_cases e : x = y <;> simp [e]
theorem ne_TI {xs ys : List Int} {Φ} : oNe (.d (TI xs)) (.d (TI ys)) Φ ↔ Φ (.d (.bool (!decide (xs = ys)))) := by
  simp [oNe, oNeD, oNeS, (lay_TI xs).shaped (by decide), (lay_TI ys).shaped (by decide)]
  simp [PyData.eqv, eqvAll_ints]
theorem eq_TI {xs ys : List Int} {Φ} : oEq (.d (TI xs)) (.d (TI ys)) Φ ↔ Φ (.d (.bool (decide (xs = ys)))) := by
  simp [oEq, oEqD, oEqS, (lay_TI xs).shaped (by decide), (lay_TI ys).shaped (by decide)]
  simp [PyData.eqv, eqvAll_ints]

/-! ### the whole tree -/
def treeP (n : Nat) (v : Nat → Int) (c : Int) : List (Nat × Nat) := (List.range (n + 1)).flatMap fun k => (lvl n v c k).map fun p => (k, p)
def treeD (n : Nat) (v : Nat → Int) (c : Int) : List PyData := (List.range (n + 1)).flatMap fun k => lvD n v c k
theorem treeD_eq (n : Nat) (v : Nat → Int) (c : Int) : treeD n v c = (treeP n v c).map fun q => itm n v q.1 q.2 := by
  unfold treeD treeP
  rw [List.map_flatMap]
  congr 1
  funext k
  simp [lvD, List.map_map, Function.comp_def]
theorem treeP_mem {n : Nat} {v : Nat → Int} {c : Int} {q : Nat × Nat} (h : q ∈ treeP n v c) : q.1 ≤ n ∧ q.2 < 2 ^ q.1 := by
  simp only [treeP, List.mem_flatMap, List.mem_range, List.mem_map] at h
  obtain ⟨k, hk, p, hp, rfl⟩ := h
  exact ⟨by omega, lvl_lt hp⟩
theorem flat_len {f : Nat → List PyData} (h : ∀ k, (f k).length ≤ 2 ^ k) : ∀ n, ((List.range n).flatMap f).length + 1 ≤ 2 ^ n
  | 0 => by simp
  | n + 1 => by
    have := flat_len h n
    have := h n
    rw [List.range_succ, List.flatMap_append, List.length_append, Nat.pow_succ]
    simp only [List.flatMap_cons, List.flatMap_nil, List.append_nil]
    omega
theorem treeD_len (n : Nat) (v : Nat → Int) (c : Int) : (treeD n v c).length + 1 ≤ 2 ^ (n + 1) := flat_len (fun k => lvD_len) (n + 1)
theorem treeP_len (n : Nat) (v : Nat → Int) (c : Int) : (treeP n v c).length = (treeD n v c).length := by rw [treeD_eq, List.length_map]
def sp_tree_paper : FSpec := fun args Φ => ∃ (n c : Nat) (t : Nat → Int), args = [.d (TI (tab (2 ^ n) t)), .d (.int c)] ∧ n ≤ 7 ∧ c ≤ 1048576 ∧ BitF (2 ^ n) t ∧ Φ (.d (T (treeD n (spec n t) c)))
def D_tree_paper : DS := (dSeq (dSet 2 (dLst dNil)) (dSeq (dFor (dSeqI (dCall 2 sp_tree_levels (dCons (dVar 0) (dCons (dVar 1) dNil)))) (tName 3) (dSeq (dExpr (dExt 2 (dVar 3))) dNext)) (dSeq (dIfS (dTst (dBin oGt (dUn oLen (dVar 2)) (dC (.int 500)))) (dSeq dNever dNext) dNext) (dSeq (dRet (dUn oTuple (dVar 2))) dNext))))
theorem v_tree_paper (args : List Val) (Φ : Val → Prop) (h : sp_tree_paper args Φ) : D_tree_paper (kRet Φ) (envS ["table", "least", "found", "level"] args) := by
  obtain ⟨n, c, t, rfl, hn, hc, ht, hΦ⟩ := h
  have tl := treeD_len n (spec n t) c
  have p8 : 2 ^ (n + 1) ≤ 256 := by have := two_le (show n + 1 ≤ 8 by omega); simpa using this
  simp [D_tree_paper, envS]
  refine ⟨n, c, t, rfl, by omega, hc, ht, ?_⟩
  simp
  refine forW_range _ (n + 1) (fun j e => ∃ z, e = [some (.d (TI (tab (2 ^ n) t))), some (.d (.int c)), some (.own ((List.range j).flatMap fun k => lvD n (spec n t) c k)), z]) ?_ ?_ _ ⟨none, rfl⟩
  · rintro e ⟨z, rfl⟩
    have e1 : ((((List.range (n + 1)).flatMap fun k => lvD n (spec n t) c k).length : Nat) : Int) ≤ 500 := by
      show (((treeD n (spec n t) c).length : Nat) : Int) ≤ 500
      omega
    have e2 : ¬ (500 : Int) < ((((List.range (n + 1)).flatMap fun k => lvD n (spec n t) c k).length : Nat) : Int) := by omega
    unfold treeD at hΦ
    generalize ((List.range (n + 1)).flatMap fun k => lvD n (spec n t) c k) = L at *
    simp [e2]
    exact ⟨by omega, hΦ⟩
  · rintro j hj e ⟨z, rfl⟩ N hN
    have b1 := flat_len (f := fun k => lvD n (spec n t) c k) (fun k => lvD_len) j
    have b2 := lvD_len (n := n) (v := spec n t) (c := c) (k := j)
    have b3 : 2 ^ j ≤ 2 ^ (n + 1) := two_le (by omega)
    have rs : ((List.range (j + 1)).flatMap fun k => lvD n (spec n t) c k) = ((List.range j).flatMap fun k => lvD n (spec n t) c k) ++ lvD n (spec n t) c j := by
      rw [List.range_succ, List.flatMap_append]; simp
    rw [rs] at hN
    generalize ((List.range j).flatMap fun k => lvD n (spec n t) c k) = L at *
    simp
    exact ⟨by omega, hN _ ⟨_, rfl⟩⟩
def sp_tree_widths : FSpec := fun args Φ => ∃ (n c : Nat) (t : Nat → Int), args = [.d (TI (tab (2 ^ n) t)), .d (.int c)] ∧ n ≤ 12 ∧ c ≤ 1048576 ∧ BitF (2 ^ n) t ∧ Φ (.d (TI (tab (n + 1) fun k => ((lvl n (spec n t) c k).length : Int))))
def D_tree_widths : DS := (dSeq (dRet (dUn oTuple (dLc [2] (dSeqI (dCall 2 sp_tree_levels (dCons (dVar 0) (dCons (dVar 1) dNil)))) (tName 2) dYes (dUn oLen (dVar 2))))) dNext)
theorem v_tree_widths (args : List Val) (Φ : Val → Prop) (h : sp_tree_widths args Φ) : D_tree_widths (kRet Φ) (envS ["table", "least", "level"] args) := by
  obtain ⟨n, c, t, rfl, hn, hc, ht, hΦ⟩ := h
  simp [D_tree_widths, envS]
  refine ⟨n, c, t, rfl, by omega, hc, ht, ?_⟩
  simp
  refine compW_tab _ (fun k => .int ((lvl n (spec n t) c k).length : Nat)) (by omega) (fun i hi M hM => ?_) ?_
  · simpa [lvD] using hM
  · rw [TI_tab] at hΦ
    exact hΦ

/-! ### judging a tree -/
def sp_is_begin : FSpec := fun args Φ => ∃ (xs : List Int) (n : Nat), args = [.d (TI xs), .d (.int n)] ∧ xs.length ≤ n ∧ n ≤ 1000 ∧ Bits xs ∧ Φ (.d (.bool true))
def D_is_begin : DS := (dSeq (dIfS (dOrT (dNotT (dTru (dUn (oIsi "tuple") (dVar 0)))) (dTst (dBin oGt (dUn oLen (dVar 0)) (dVar 1)))) (dSeq (dRet (dC (.bool false))) dNext) dNext) (dSeq (dRet (dUn oAll (dLc [2] (dSeqI (dVar 0)) (tName 2) dYes (dAndV (dCall 1 sp_is_integer (dCons (dVar 2) dNil)) (dChain oLe oLe (dC (.int 0)) (dVar 2) (dC (.int 1))))))) dNext))
theorem all_true {xs : List PyData} {Φ : Val → Prop} (h : ∀ x ∈ xs, x = .bool true) (hΦ : Φ (.d (.bool true))) : oAll (.own xs) Φ := by
  have e : xs = List.replicate xs.length (.bool true) := List.eq_replicate_iff.mpr ⟨rfl, h⟩
  refine ⟨xs, List.replicate xs.length true, rfl, ?_, by rw [all_trues]; exact hΦ⟩
  rw [e, List.length_replicate]
  exact truIs_trues _
theorem v_is_begin (args : List Val) (Φ : Val → Prop) (h : sp_is_begin args Φ) : D_is_begin (kRet Φ) (envS ["value", "n", "bit"] args) := by
  obtain ⟨xs, n, rfl, hl, hn, hb, hΦ⟩ := h
  have e1 : ¬ n < xs.length := by omega
  simp [D_is_begin, envS, oIsi, isi_t, e1]
  refine ⟨hl, ?_⟩
  refine compW_all PyData.int (fun _ => .bool true) xs (by omega) (fun x hx N hN => ?_) ?_
  · simp
    refine ⟨x, rfl, ?_⟩
    rcases hb x hx with rfl | rfl <;> simpa using hN
  · exact all_true (by simp) hΦ
def sp_is_item : FSpec := fun args Φ => ∃ (xs : List Int) (w : Int) (n : Nat), args = [.d (T [TI xs, I w]), .d (.int n)] ∧ xs.length ≤ n ∧ n ≤ 1000 ∧ Bits xs ∧ Φ (.d (.bool true))
def D_is_item : DS := (dSeq (dIfS (dOrT (dNotT (dTru (dUn (oIsi "tuple") (dVar 0)))) (dTst (dBin oNe (dUn oLen (dVar 0)) (dC (.int 2))))) (dSeq (dRet (dC (.bool false))) dNext) dNext) (dSeq (dRet (dAndV (dCall 2 sp_is_begin (dCons (dBin oIxS (dVar 0) (dC (.int 0))) (dCons (dVar 1) dNil))) (dCall 1 sp_is_integer (dCons (dBin oIxS (dVar 0) (dC (.int 1))) dNil)))) dNext))
theorem at_0 {a b : PyData} : atI [a, b] (0 : Int) = some a := rfl
theorem at_1 {a b : PyData} : atI [a, b] (1 : Int) = some b := rfl
theorem v_is_item (args : List Val) (Φ : Val → Prop) (h : sp_is_item args Φ) : D_is_item (kRet Φ) (envS ["value", "n"] args) := by
  obtain ⟨xs, w, n, rfl, hl, hn, hb, hΦ⟩ := h
  simp [D_is_item, envS, oIsi, isi_t, oNe_int, at_0]
  refine ⟨xs, n, rfl, hl, hn, hb, ?_⟩
  simp [at_1]
  exact ⟨w, rfl, hΦ⟩
end Ev
set_option Elab.async false
set_option linter.all false
set_option maxRecDepth 100000
/-! V8: the judge of trees. -/
namespace Ev
open PySem PySem.Spec PyProof.Rows L2

theorem enum_map {α : Type} (g : α → PyData) (ws : List α) : enumD (ws.map g) = (List.range ws.length).map fun i => PyData.tuple [.int (i : Nat), (ws.map g).getD i .none] := by
  unfold enumD
  rw [List.length_map]
theorem getD_map {α : Type} {g : α → PyData} {ws : List α} {i : Nat} {q : α} (h : ws[i]? = some q) : (ws.map g).getD i .none = g q := by
  rw [List.getD, List.getElem?_map, h]; rfl
theorem get_lt {α : Type} {ws : List α} {i : Nat} (h : i < ws.length) : ∃ q, ws[i]? = some q := ⟨ws[i], List.getElem?_eq_getElem h⟩
abbrev W3 := Nat × Nat × Int
def itw (q : W3) : PyData := T [TI (rowN q.1 q.2.1), I q.2.2]
def rightW (n : Nat) (v : Nat → Int) (q : W3) : Prop := q.2.2 = wt n v q.1 q.2.1
def sp_tree_error : FSpec := fun args Φ => ∃ (n c : Nat) (t : Nat → Int), n ≤ 7 ∧ c ≤ 1048576 ∧ BitF (2 ^ n) t ∧
  ((∃ xs, args = [.d (TI (tab (2 ^ n) t)), .d (.int c), .d (.list xs)] ∧ Φ (.d (.str "form"))) ∨
   ∃ ws : List W3, args = [.d (TI (tab (2 ^ n) t)), .d (.int c), .d (T (ws.map itw))] ∧ ws.map (fun q => (q.1, q.2.1)) = treeP n (spec n t) c ∧ ((∀ q ∈ ws, rightW n (spec n t) q) → Φ (.d .none)) ∧
     ∀ (i : Nat) (q : W3), ws[i]? = some q → (∀ (j : Nat) (q' : W3), j < i → ws[j]? = some q' → rightW n (spec n t) q') → ¬ rightW n (spec n t) q → Φ (.d (T [.str "weight", I i, I (wt n (spec n t) q.1 q.2.1)])))
def D_tree_error : DS := (dSeq (dPar3 3 4 5 (dCall 2 sp_tree_paper (dCons (dVar 0) (dCons (dVar 1) dNil))) (dCall 1 sp_spectrum (dCons (dVar 0) dNil)) (dCall 1 sp_table_letters (dCons (dVar 0) dNil))) (dSeq (dIfS (dOrT (dNotT (dTru (dUn (oIsi "tuple") (dVar 2)))) (dNotT (dTru (dUn oAll (dLc [10] (dSeqI (dVar 2)) (tName 10) dYes (dCall 2 sp_is_item (dCons (dVar 10) (dCons (dVar 5) dNil)))))))) (dSeq (dRet (dC (.str "form"))) dNext) dNext) (dSeq (dFor (dEnum (dCons (dVar 2) dNil)) (tTup 2 (tCons (tName 6) (tCons (tTup 2 (tCons (tName 7) (tCons (tName 8) tNil))) tNil))) (dSeq (dSet 9 (dCall 3 sp_weight_in (dCons (dVar 4) (dCons (dVar 5) (dCons (dVar 7) dNil))))) (dSeq (dIfS (dTst (dBin oNe (dVar 8) (dVar 9))) (dSeq (dRet (dTup (dCons (dC (.str "weight")) (dCons (dVar 6) (dCons (dVar 9) dNil))))) dNext) dNext) dNext))) (dSeq (dFor (dRng1 (dCons (dBin oMax2 (dUn oLen (dVar 3)) (dUn oLen (dVar 2))) dNil)) (tName 6) (dSeq (dIfS (dOrT (dTst (dBin oGe (dVar 6) (dUn oLen (dVar 3)))) (dOrT (dTst (dBin oGe (dVar 6) (dUn oLen (dVar 2)))) (dTst (dBin oNe (dBin oIxS (dBin oIxS (dVar 3) (dVar 6)) (dC (.int 0))) (dBin oIxS (dBin oIxS (dVar 2) (dVar 6)) (dC (.int 0))))))) (dSeq (dRet (dTup (dCons (dC (.str "begin")) (dCons (dVar 6) dNil)))) dNext) dNext) dNext)) (dSeq (dRet (dC .none)) dNext)))))
theorem v_tree_error (args : List Val) (Φ : Val → Prop) (h : sp_tree_error args Φ) : D_tree_error (kRet Φ) (envS ["table", "least", "value", "due", "values", "n", "i", "begin", "weight", "right", "own"] args) := by
  obtain ⟨n, c, t, hn, hc, ht, h⟩ := h
  rcases h with ⟨xs, rfl, hΦ⟩ | ⟨ws, rfl, hw, h1, h2⟩
  · simp [D_tree_error, envS]
    refine ⟨n, c, t, rfl, by omega, hc, ht, ?_⟩
    simp
    refine ⟨n, t, rfl, by omega, ?_⟩
    simp
    refine ⟨n, t, rfl, by omega, ?_⟩
    simp [oIsi, isi_lt]
    exact hΦ
  · have tl := treeD_len n (spec n t) c
    have p8 : 2 ^ (n + 1) ≤ 256 := by have := two_le (show n + 1 ≤ 8 by omega); simpa using this
    have wl : ws.length = (treeD n (spec n t) c).length := by rw [← treeP_len, ← hw, List.length_map]
    have mem : ∀ (i : Nat) (q : W3), ws[i]? = some q → q.1 ≤ n ∧ q.2.1 < 2 ^ q.1 ∧ (treeP n (spec n t) c)[i]? = some (q.1, q.2.1) := fun i q hq => by
      have e : (treeP n (spec n t) c)[i]? = some (q.1, q.2.1) := by rw [← hw, List.getElem?_map, hq]; rfl
      have := treeP_mem (List.mem_of_getElem? e)
      exact ⟨this.1, this.2, e⟩
    simp [D_tree_error, envS]
    refine ⟨n, c, t, rfl, by omega, hc, ht, ?_⟩
    simp
    refine ⟨n, t, rfl, by omega, ?_⟩
    simp
    refine ⟨n, t, rfl, by omega, ?_⟩
    simp [oIsi, isi_t]
    refine compW_all itw (fun _ => .bool true) ws (by omega) (fun q hq N hN => ?_) ?_
    · obtain ⟨i, hi⟩ := List.getElem?_of_mem hq
      obtain ⟨m1, m2, _⟩ := mem i q hi
      simp
      refine ⟨rowN q.1 q.2.1, q.2.2, n, rfl, by rw [rowN_length]; exact m1, by omega, rowN_bits _ _, ?_⟩
      simpa using hN
    · refine all_true (fun x hx => by obtain ⟨_, _, rfl⟩ := List.mem_map.mp hx; rfl) ?_
      simp [enum_map]
      refine forW_range _ ws.length (fun j e => (∃ z6 z7 z8 z9, e = [some (.d (TI (tab (2 ^ n) t))), some (.d (.int c)), some (.d (T (ws.map itw))), some (.d (T (treeD n (spec n t) c))), some (.d (TI (tab (2 ^ n) (spec n t)))), some (.d (.int n)), z6, z7, z8, z9, none]) ∧ ∀ (i : Nat) (q : W3), i < j → ws[i]? = some q → rightW n (spec n t) q) ?_ ?_ _ ⟨⟨none, none, none, none, rfl⟩, fun i q hi => by omega⟩
      · rintro e ⟨⟨z6, z7, z8, z9, rfl⟩, hh⟩
        have fin : Φ (.d .none) := h1 fun q hq => by
          obtain ⟨i, hi⟩ := List.getElem?_of_mem hq
          exact hh i q (List.getElem?_eq_some_iff.mp hi).1 hi
        have ws1 := wl.symm
        simp [ws1]
        refine ⟨by omega, ?_⟩
        refine forW_range _ ws.length (fun j e => ∃ z6 z7 z8 z9, e = [some (.d (TI (tab (2 ^ n) t))), some (.d (.int c)), some (.d (T (ws.map itw))), some (.d (T (treeD n (spec n t) c))), some (.d (TI (tab (2 ^ n) (spec n t)))), some (.d (.int n)), z6, z7, z8, z9, none]) ?_ ?_ _ ⟨z6, z7, z8, z9, rfl⟩
        · rintro e ⟨z6, z7, z8, z9, rfl⟩
          simpa using fin
        · rintro j hj e ⟨z6, z7, z8, z9, rfl⟩ N hN
          obtain ⟨q, hq⟩ := get_lt hj
          obtain ⟨m1, m2, m3⟩ := mem j q hq
          have a1 : atI (treeD n (spec n t) c) (j : Int) = some (itm n (spec n t) q.1 q.2.1) := at_nat (by rw [treeD_eq, List.getElem?_map, m3]; rfl)
          have a2 : atI (ws.map itw) (j : Int) = some (itw q) := at_nat (by rw [List.getElem?_map, hq]; rfl)
          have n1 : ¬ (treeD n (spec n t) c).length ≤ j := by omega
          have n2 : ¬ ws.length ≤ j := by omega
          simp [a1, a2, itm, itw, at_0, ne_TI, n1, n2]
          exact ⟨by omega, hj, hN _ ⟨_, _, _, _, rfl⟩⟩
      · rintro j hj e ⟨⟨z6, z7, z8, z9, rfl⟩, hh⟩ N hN
        obtain ⟨q, hq⟩ := get_lt hj
        obtain ⟨m1, m2, m3⟩ := mem j q hq
        rw [hq]
        simp [and_assoc, itw]
        refine ⟨n, q.1, q.2.1, spec n t, rfl, by omega, m1, m2, spec_lim (by omega) ht, ?_⟩
        simp [oNe_int]
        by_cases r : q.2.2 = wt n (spec n t) q.1 q.2.1
        · simp [r]
          refine hN _ ⟨⟨_, _, _, _, rfl⟩, fun i q' hi hq' => ?_⟩
          by_cases e : i = j
          · subst e
            rw [hq] at hq'
            cases hq'
            exact r
          · exact hh i q' (by omega) hq'
        · simp [r]
          exact h2 j q hq (fun i q' hi hq' => hh i q' hi hq') r
end Ev
set_option Elab.async false
set_option linter.all false
set_option maxRecDepth 100000
/-! V9: great rows, spectra back. -/
namespace Ev
open PySem PySem.Spec PyProof.Rows L2

def iabs (i : Int) : Int := if i < 0 then -i else i
def sp_rows_at : FSpec := fun args Φ => ∃ (n : Nat) (ps : List Nat), args = [.d (.int n), .d (.list (ps.map fun (p : Nat) => I p))] ∧ n ≤ 1000 ∧ ps.length ≤ 500 ∧ Φ (.d (T (ps.map fun p => TI (rowN n p))))
def D_rows_at : DS := (dSeq (dIfS (dTst (dBin oGt (dUn oLen (dVar 1)) (dC (.int 500)))) (dSeq dNever dNext) dNext) (dSeq (dRet (dUn oTuple (dLc [2] (dSeqI (dVar 1)) (tName 2) dYes (dCall 2 sp_row_at (dCons (dVar 0) (dCons (dVar 2) dNil)))))) dNext))
theorem v_rows_at (args : List Val) (Φ : Val → Prop) (h : sp_rows_at args Φ) : D_rows_at (kRet Φ) (envS ["n", "places", "place"] args) := by
  obtain ⟨n, ps, rfl, hn, hl, hΦ⟩ := h
  have e1 : ¬ 500 < ps.length := by omega
  simp [D_rows_at, envS, e1]
  refine .inl ⟨by omega, ?_⟩
  refine compW_all (fun (p : Nat) => I p) (fun p => TI (rowN n p)) ps (by omega) (fun p hp N hN => ?_) ?_
  · simp
    exact ⟨n, p, rfl, hn, by simp; exact hN⟩
  · exact hΦ
def grt (n : Nat) (v : Nat → Int) (c : Int) : List Nat := (List.range (2 ^ n)).filter fun s => decide (c ≤ iabs (v s))
theorem grt_len (n : Nat) (v : Nat → Int) (c : Int) : (grt n v c).length ≤ 2 ^ n := by
  have := List.length_filter_le (fun s => decide (c ≤ iabs (v s))) (List.range (2 ^ n))
  simpa [grt] using this
def sp_great_rows : FSpec := fun args Φ => ∃ (n c : Nat) (t : Nat → Int), args = [.d (TI (tab (2 ^ n) t)), .d (.int c)] ∧ n ≤ 8 ∧ BitF (2 ^ n) t ∧ Φ (.d (T ((grt n (spec n t) c).map fun p => TI (rowN n p))))
def D_great_rows : DS := (dSeq (dSet 2 (dCall 1 sp_spectrum (dCons (dVar 0) dNil))) (dSeq (dRet (dCall 2 sp_rows_at (dCons (dCall 1 sp_table_letters (dCons (dVar 0) dNil)) (dCons (dLc [3, 4] (dEnum (dCons (dVar 2) dNil)) (tTup 2 (tCons (tName 3) (tCons (tName 4) tNil))) (dTst (dBin oGe (dUn oAbs (dVar 4)) (dVar 1))) (dVar 3)) dNil)))) dNext))
theorem v_great_rows (args : List Val) (Φ : Val → Prop) (h : sp_great_rows args Φ) : D_great_rows (kRet Φ) (envS ["table", "least", "values", "place", "value"] args) := by
  obtain ⟨n, c, t, rfl, hn, ht, hΦ⟩ := h
  simp [D_great_rows, envS]
  refine ⟨n, t, rfl, by omega, ?_⟩
  simp
  refine ⟨n, t, rfl, by omega, ?_⟩
  simp [enum_tab]
  have p8 : 2 ^ n ≤ 256 := by have := two_le hn; simpa using this
  refine compW_map (fun i : Nat => PyData.tuple [.int (i : Nat), .int (spec n t i)]) (fun s => decide ((c : Int) ≤ iabs (spec n t s))) (fun i : Nat => I i) (List.range (2 ^ n)) [] (by simp; omega) (fun s hs N S hN hS => ?_) ?_
  · simp [and_assoc]
    by_cases g : (c : Int) ≤ iabs (spec n t s)
    · have g2 : ¬ iabs (spec n t s) < c := by omega
      have hN := hN (by simpa using g)
      unfold iabs at g g2
      simp [g, g2]
      exact hN
    · have g2 : iabs (spec n t s) < c := by omega
      have hS := hS (by simpa using g2)
      unfold iabs at g g2
      simp [g, g2]
      exact hS
  · simp
    exact ⟨n, grt n (spec n t) c, by rfl, by omega, by have := grt_len n (spec n t) c; omega, hΦ⟩
def sp_rows_most : FSpec := fun args Φ => ∃ (n c : Nat), args = [.d (.int n), .d (.int c)] ∧ n ≤ 20 ∧ 0 < c ∧ c ≤ 30000 ∧ Φ (.d (.int (((2 ^ (2 * n) : Nat) : Int) / ((c : Int) * c))))
def D_rows_most : DS := (dSeq (dRet (dBin oDiv (dCall 1 sp_power_of_two (dCons (dBin oMul (dC (.int 2)) (dVar 0)) dNil)) (dBin oMul (dVar 1) (dVar 1)))) dNext)
theorem v_rows_most (args : List Val) (Φ : Val → Prop) (h : sp_rows_most args Φ) : D_rows_most (kRet Φ) (envS ["n", "least"] args) := by
  obtain ⟨n, c, rfl, hn, hc, hc2, hΦ⟩ := h
  simp [D_rows_most, envS]
  refine ⟨cm_small (by omega), 2 * n, by simp, by omega, ?_⟩
  generalize ((2 ^ (2 * n) : Nat) : Int) = M at *
  have h1 : c * c ≤ 30000 * 30000 := Nat.mul_le_mul hc2 hc2
  have h2 : 0 < c * c := Nat.mul_pos hc hc
  have e : (c : Int) * c = ((c * c : Nat) : Int) := by push_cast; rfl
  simp
  rw [e] at hΦ ⊢
  exact ⟨cm_small (by omega), ⟨by omega, by omega⟩, hΦ⟩
def sp_squares_sum : FSpec := fun args Φ => ∃ (n : Nat) (v : Nat → Int), args = [.d (TI (tab n v))] ∧ n ≤ 16777216 ∧ Lim n v ∧ Φ (.d (.int (sumN n fun i => v i * v i)))
def D_squares_sum : DS := (dSeq (dRet (dUn oSum (dLc [1] (dSeqI (dVar 0)) (tName 1) dYes (dBin oMul (dVar 1) (dVar 1))))) dNext)
theorem v_squares_sum (args : List Val) (Φ : Val → Prop) (h : sp_squares_sum args Φ) : D_squares_sum (kRet Φ) (envS ["values", "item"] args) := by
  obtain ⟨n, v, rfl, hn, hv, hΦ⟩ := h
  simp [D_squares_sum, envS]
  refine compW_ints (fun i => .int (v i * v i)) hn (fun i hi N hN => ?_) (sum_tab (by simpa using hΦ))
  have := hv i hi
  simp
  exact ⟨cm_small (by omega), hN⟩
def sp_cubes_sum : FSpec := fun args Φ => ∃ (n : Nat) (v : Nat → Int), args = [.d (TI (tab n v))] ∧ n ≤ 16777216 ∧ Lim n v ∧ Φ (.d (.int (sumN n fun i => v i * v i * v i)))
def D_cubes_sum : DS := (dSeq (dRet (dUn oSum (dLc [1] (dSeqI (dVar 0)) (tName 1) dYes (dBin oMul (dBin oMul (dVar 1) (dVar 1)) (dVar 1))))) dNext)
theorem v_cubes_sum (args : List Val) (Φ : Val → Prop) (h : sp_cubes_sum args Φ) : D_cubes_sum (kRet Φ) (envS ["values", "item"] args) := by
  obtain ⟨n, v, rfl, hn, hv, hΦ⟩ := h
  simp [D_cubes_sum, envS]
  refine compW_ints (fun i => .int (v i * v i * v i)) hn (fun i hi N hN => ?_) (sum_tab (by simpa using hΦ))
  have := hv i hi
  simp
  exact ⟨cm_small (by omega), cm_small' (by omega), hN⟩

/-! ### tables out of spectra -/
theorem hat_back : ∀ (n : Nat) (f : Nat → Int) (x : Nat), x < 2 ^ n → hat n (hat n f) x = 2 ^ n * f x
  | 0, f, x, h => by
    have : x = 0 := by simpa using h
    subst this; simp [hat]
  | n + 1, f, x, h => by
    have P : 2 ^ (n + 1) = 2 ^ n + 2 ^ n := by rw [Nat.pow_succ]; omega
    have pw : (2 : Int) ^ (n + 1) = 2 * 2 ^ n := by rw [Int.pow_succ]; omega
    by_cases hs : x < 2 ^ n
    · rw [(hat_top hs).1, hat_congr (g := fun s => 2 * hat n f s) fun s hs' => by rw [(hat_top hs').1, (hat_top hs').2, hat_plus, hat_minus]; omega]
      rw [hat_mul, hat_back n f x hs, pw]
      grind
    · obtain ⟨y, rfl⟩ : ∃ y, x = y + 2 ^ n := ⟨x - 2 ^ n, by omega⟩
      have hy : y < 2 ^ n := by omega
      rw [(hat_top hy).2, hat_congr (g := fun s => 2 * hat n (fun z => f (z + 2 ^ n)) s) fun s hs' => by rw [(hat_top hs').1, (hat_top hs').2, hat_plus, hat_minus]; omega]
      rw [hat_mul, hat_back n _ y hy, pw]
      grind
def sp_is_spectrum : FSpec := fun args Φ => ∃ (n : Nat) (t : Nat → Int), args = [.d (TI (tab (2 ^ n) (spec n t)))] ∧ n ≤ 20 ∧ BitF (2 ^ n) t ∧ Φ (.d (.bool true))
def D_is_spectrum : DS := (dSeq (dSet 1 (dUn oLen (dVar 0))) (dSeq (dRet (dUn oAll (dLc [2] (dSeqI (dCall 1 sp_led_through (dCons (dVar 0) dNil))) (tName 2) dYes (dBin (oInG false) (dVar 2) (dTup (dCons (dVar 1) (dCons (dUn oNeg (dVar 1)) dNil))))))) dNext))
theorem v_is_spectrum (args : List Val) (Φ : Val → Prop) (h : sp_is_spectrum args Φ) : D_is_spectrum (kRet Φ) (envS ["value", "many", "item"] args) := by
  obtain ⟨n, t, rfl, hn, ht, hΦ⟩ := h
  simp [D_is_spectrum, envS]
  refine ⟨n, _, rfl, hn, ?_⟩
  have tl : ((tab (2 ^ n) (spec n t)).length : Int) = ((2 ^ n : Nat) : Int) := by rw [tab_length]
  rw [tl]
  simp
  refine compW_ints (fun _ => .bool true) (len20 hn) (fun i hi N hN => ?_) (all_true (fun x hx => by obtain ⟨_, _, rfl⟩ := List.mem_map.mp hx; rfl) hΦ)
  have e : hat n (spec n t) i = ((2 ^ n : Nat) : Int) * sg t i := by rw [two_cast]; exact hat_back n (sg t) i hi
  rw [e]
  simp
  refine .inr ⟨_, _, rfl, rfl, rfl, rfl, ?_⟩
  unfold sg
  rcases ht i hi with h | h <;> rw [h] <;> simpa [PyData.eqv] using hN
def sp_table_of_spectrum : FSpec := fun args Φ => ∃ (n : Nat) (t : Nat → Int), args = [.d (TI (tab (2 ^ n) (spec n t)))] ∧ n ≤ 20 ∧ BitF (2 ^ n) t ∧ Φ (.d (TI (tab (2 ^ n) t)))
def D_table_of_spectrum : DS := (dSeq (dIfS (dNotT (dTru (dCall 1 sp_is_spectrum (dCons (dVar 0) dNil)))) (dSeq dNever dNext) dNext) (dSeq (dRet (dUn oTuple (dLc [1] (dSeqI (dCall 1 sp_led_through (dCons (dVar 0) dNil))) (tName 1) dYes (dUn oInt (dBin oLt (dVar 1) (dC (.int 0))))))) dNext))
theorem v_table_of_spectrum (args : List Val) (Φ : Val → Prop) (h : sp_table_of_spectrum args Φ) : D_table_of_spectrum (kRet Φ) (envS ["value", "item"] args) := by
  obtain ⟨n, t, rfl, hn, ht, hΦ⟩ := h
  simp [D_table_of_spectrum, envS]
  refine ⟨n, t, rfl, hn, ht, ?_⟩
  simp
  refine ⟨n, _, rfl, hn, ?_⟩
  simp
  refine compW_ints (fun i => .int (t i)) (len20 hn) (fun i hi N hN => ?_) (by rw [TI_tab] at hΦ; exact hΦ)
  have e : hat n (spec n t) i = ((2 ^ n : Nat) : Int) * sg t i := by rw [two_cast]; exact hat_back n (sg t) i hi
  have p := Nat.two_pow_pos n
  rw [e]
  generalize 2 ^ n = M at *
  unfold sg
  rcases ht i hi with h | h <;> rw [h] at hN ⊢ <;> simp
  · have : ¬ (M : Int) < 0 := by omega
    simp [this]
    exact .inr hN
  · have : ¬ M = 0 := by omega
    simp [this]
    exact .inr ⟨p, hN⟩
end Ev
set_option Elab.async false
set_option linter.all false
set_option maxRecDepth 100000
/-! V10: great rows of a paper. -/
namespace Ev
open PySem PySem.Spec PyProof.Rows L2

theorem wt_split {n k q : Nat} {v : Nat → Int} (hk : k < n) : wt n v k q = wt n v (k + 1) (2 * q) + wt n v (k + 1) (2 * q + 1) := by
  unfold wt
  obtain ⟨m, hm⟩ : ∃ m, n - k = m + 1 := ⟨n - k - 1, by omega⟩
  rw [show n - (k + 1) = m by omega, hm, sumN_two]
  have e : 2 ^ (m + 1) = 2 * 2 ^ m := by rw [Nat.pow_succ]; omega
  congr 1
  · refine sumN_congr fun j _ => ?_
    rw [e, show q * (2 * 2 ^ m) = 2 * q * 2 ^ m by rw [← Nat.mul_assoc, Nat.mul_comm q]]
  · refine sumN_congr fun j _ => ?_
    rw [e, show q * (2 * 2 ^ m) = 2 * q * 2 ^ m by rw [← Nat.mul_assoc, Nat.mul_comm q], show 2 * q * 2 ^ m + (j + 2 ^ m) = (2 * q + 1) * 2 ^ m + j by rw [Nat.add_mul]; omega]
theorem sumN_nonneg {f : Nat → Int} : ∀ {n : Nat}, (∀ i, i < n → 0 ≤ f i) → 0 ≤ sumN n f
  | 0, _ => by simp [sumN]
  | n + 1, h => by
    have := sumN_nonneg (n := n) fun i hi => h i (by omega)
    have := h n (by omega)
    simp only [sumN]; omega
theorem sq_nonneg (a : Int) : 0 ≤ a * a := by
  rcases Int.le_total 0 a with h | h
  · exact Int.mul_nonneg h h
  · have := Int.mul_nonneg (show 0 ≤ -a by omega) (show 0 ≤ -a by omega)
    rwa [Int.neg_mul_neg] at this
theorem wt_nonneg {n k q : Nat} {v : Nat → Int} : 0 ≤ wt n v k q := sumN_nonneg fun _ _ => sq_nonneg _
theorem wt_up {n k q : Nat} {v : Nat → Int} (hk : k < n) : wt n v (k + 1) q ≤ wt n v k (q / 2) := by
  rw [wt_split hk]
  rcases Nat.mod_two_eq_zero_or_one q with e | e
  · rw [show 2 * (q / 2) = q by omega]
    have := wt_nonneg (n := n) (k := k + 1) (q := q + 1) (v := v)
    omega
  · rw [show 2 * (q / 2) + 1 = q by omega]
    have := wt_nonneg (n := n) (k := k + 1) (q := 2 * (q / 2)) (v := v)
    omega
def okB (n : Nat) (v : Nat → Int) (c : Int) : Nat → Nat → Bool
  | 0, _ => true
  | k + 1, q => okB n v c k (q / 2) && decide (c * c ≤ wt n v k (q / 2))
theorem flat_two (P Q : Nat → Bool) : ∀ m, ((List.range m).filter P).flatMap (fun p => if Q p = true then [2 * p, 2 * p + 1] else []) = (List.range (2 * m)).filter fun q => P (q / 2) && Q (q / 2)
  | 0 => rfl
  | m + 1 => by
    have ih := flat_two P Q m
    rw [List.range_succ, List.filter_append, List.flatMap_append, ih, show 2 * (m + 1) = 2 * m + 1 + 1 by omega, List.range_succ, List.range_succ, List.filter_append, List.filter_append, List.append_assoc]
    congr 1
    have e1 : 2 * m / 2 = m := by omega
    have e2 : (2 * m + 1) / 2 = m := by omega
    cases hp : P m <;> cases hq : Q m <;> simp [List.filter_cons, hp, hq, e1, e2]
theorem lvl_filter (n : Nat) (v : Nat → Int) (c : Int) : ∀ k, lvl n v c k = (List.range (2 ^ k)).filter (okB n v c k)
  | 0 => rfl
  | k + 1 => by
    rw [lvl, lvl_filter n v c k, Nat.pow_succ, Nat.mul_comm]
    have := flat_two (okB n v c k) (fun p => decide (c * c ≤ wt n v k p)) (2 ^ k)
    simp only [decide_eq_true_eq] at this
    exact this
theorem ok_of {n : Nat} {v : Nat → Int} {c : Int} : ∀ {k q : Nat}, k ≤ n → c * c ≤ wt n v k q → okB n v c k q = true
  | 0, _, _, _ => rfl
  | k + 1, q, hk, h => by
    have u := wt_up (q := q) (v := v) (show k < n by omega)
    simp only [okB]
    rw [ok_of (by omega) (Int.le_trans h u), decide_eq_true (Int.le_trans h u)]; rfl
theorem wt_leaf {n p : Nat} {v : Nat → Int} : wt n v n p = v p * v p := by
  unfold wt
  simp [sumN]
theorem sq_le {a c : Int} (hc : 0 ≤ c) : c * c ≤ a * a ↔ c ≤ iabs a := by
  have key : ∀ b : Int, 0 ≤ b → (c * c ≤ b * b ↔ c ≤ b) := fun b hb => by
    constructor
    · intro h
      apply Int.not_lt.mp
      intro hlt
      have h1 : b * b ≤ b * c := Int.mul_le_mul_of_nonneg_left (by omega) hb
      have h2 : b * c < c * c := Int.mul_lt_mul_of_pos_right hlt (by omega)
      omega
    · intro h
      exact Int.le_trans (Int.mul_le_mul_of_nonneg_left h hc) (Int.mul_le_mul_of_nonneg_right h hb)
  unfold iabs
  split
  · rw [show a * a = -a * -a by rw [Int.neg_mul_neg]]
    exact key (-a) (by omega)
  · exact key a (by omega)
theorem lvl_grt {n : Nat} {v : Nat → Int} {c : Int} (hc : 0 ≤ c) : (lvl n v c n).filter (fun p => decide (c * c ≤ wt n v n p)) = grt n v c := by
  rw [lvl_filter, List.filter_filter]
  unfold grt
  congr 1
  funext p
  rw [wt_leaf]
  by_cases h : c * c ≤ v p * v p
  · rw [decide_eq_true h, decide_eq_true ((sq_le hc).mp h), ok_of (Nat.le_refl n) (by rw [wt_leaf]; exact h)]; rfl
  · rw [decide_eq_false h, decide_eq_false (fun z => h ((sq_le hc).mpr z))]; rfl
theorem tree_part (n : Nat) (v : Nat → Int) (c : Int) (k : Nat) (hk : k ≤ n) (P : Nat → Bool) : (treeP n v c).filter (fun q => decide (q.1 = k) && P q.2) = ((lvl n v c k).filter P).map fun p => (k, p) := by
  have key : ∀ m, ((List.range m).flatMap fun j => (lvl n v c j).map fun p => (j, p)).filter (fun q => decide (q.1 = k) && P q.2) = if k < m then ((lvl n v c k).filter P).map fun p => (k, p) else [] := by
    intro m
    induction m with
    | zero => simp
    | succ m ih =>
      rw [List.range_succ, List.flatMap_append, List.filter_append, ih]
      simp only [List.flatMap_cons, List.flatMap_nil, List.append_nil]
      rw [List.filter_map]
      by_cases e : m = k
      · subst e
        rw [if_neg (by omega), if_pos (by omega)]
        simp [Function.comp_def]
      · have : (fun q : Nat × Nat => decide (q.1 = k) && P q.2) ∘ (fun p => (m, p)) = fun _ => false := by
          funext p; simp [e]
        rw [this]
        by_cases h : k < m
        · rw [if_pos h, if_pos (by omega)]; simp
        · rw [if_neg h, if_neg (by omega)]; simp
  have := key (n + 1)
  rw [if_pos (by omega)] at this
  exact this
theorem code_row : ∀ (k p : Nat), p < 2 ^ k → TS.code 2 (rowN k p) = p
  | 0, p, h => by
    have : p = 0 := by simpa using h
    subst this; rfl
  | k + 1, p, h => by
    by_cases hp : p < 2 ^ k
    · rw [rowN_lo hp]
      show (0 : Int) * 2 ^ (rowN k p).length + TS.code 2 (rowN k p) = p
      rw [code_row k p hp]; omega
    · obtain ⟨q, rfl⟩ : ∃ q, p = q + 2 ^ k := ⟨p - 2 ^ k, by omega⟩
      have hq : q < 2 ^ k := by rw [Nat.pow_succ] at h; omega
      rw [rowN_hi hq]
      show (1 : Int) * 2 ^ (rowN k q).length + TS.code 2 (rowN k q) = _
      rw [code_row k q hq, rowN_length, ← two_cast]; omega
theorem grt_sorted (n : Nat) (v : Nat → Int) (c : Int) : (grt n v c).Pairwise (· < ·) := (List.pairwise_lt_range).sublist List.filter_sublist
theorem grt_lt {n : Nat} {v : Nat → Int} {c : Int} {p : Nat} (h : p ∈ grt n v c) : p < 2 ^ n := by
  simp only [grt, List.mem_filter, List.mem_range] at h
  exact h.1
def sp_great_of_paper : FSpec := fun args Φ => ∃ (n c : Nat) (v : Nat → Int), args = [.d (.int n), .d (.int c), .d (T (treeD n v c))] ∧ 1 ≤ n ∧ n ≤ 5 ∧ c ≤ 1048576 ∧ Φ (.d (T ((grt n v c).map fun p => TI (rowN n p))))
def D_great_of_paper : DS := (dSeq (dRet (dUn oTuple (dUn oSorted (dLc [3, 4] (dSeqI (dVar 2)) (tTup 2 (tCons (tName 3) (tCons (tName 4) tNil))) (dAndT (dTst (dBin oEq (dUn oLen (dVar 3)) (dVar 0))) (dTst (dBin oGe (dVar 4) (dBin oMul (dVar 1) (dVar 1))))) (dVar 3))))) dNext)
theorem v_great_of_paper (args : List Val) (Φ : Val → Prop) (h : sp_great_of_paper args Φ) : D_great_of_paper (kRet Φ) (envS ["n", "least", "paper", "begin", "weight"] args) := by
  obtain ⟨n, c, v, rfl, h1, hn, hc, hΦ⟩ := h
  have tl := treeD_len n v c
  have p6 : 2 ^ (n + 1) ≤ 64 := by have := two_le (show n + 1 ≤ 6 by omega); simpa using this
  have p5 : 2 ^ n ≤ 32 := by have := two_le hn; simpa using this
  have gl := grt_len n v (c : Int)
  simp [D_great_of_paper, envS]
  rw [treeD_eq]
  refine compW_map (fun q : Nat × Nat => itm n v q.1 q.2) (fun q => decide (q.1 = n) && decide ((c : Int) * c ≤ wt n v n q.2)) (fun q : Nat × Nat => TI (rowN q.1 q.2)) (treeP n v c) [] (by simp [treeP_len]; omega) (fun q hq N S hN hS => ?_) ?_
  · obtain ⟨k, p⟩ := q
    show tTup 2 (tCons (tName 3) (tCons (tName 4) tNil)) (T [TI (rowN k p), I (wt n v k p)]) _ _
    simp [and_assoc, oEq_int, rowN_length]
    simp only at hN hS
    by_cases e : k = n
    · subst e
      by_cases g : (c : Int) * c ≤ wt k v k p
      · have g2 : ¬ wt k v k p < (c : Int) * c := by omega
        simp [g, g2]
        exact ⟨cm_small (by omega), hN (by simp [g])⟩
      · have g2 : wt k v k p < (c : Int) * c := by omega
        simp [g, g2]
        exact ⟨cm_small (by omega), hS (by simp [g2])⟩
    · exact .inl ⟨by omega, hS (by simp [e])⟩
  · rw [tree_part n v c n (Nat.le_refl n) (fun p => decide ((c : Int) * c ≤ wt n v n p)), lvl_grt (by omega)]
    refine .inr ⟨n, 2, (grt n v c).map (rowN n), ?_, h1, by rw [List.length_map]; omega, fun r hr => ?_, fun qs hp hs => ?_⟩
    · simp [List.map_map, Function.comp_def]
      intro a _
      rfl
    · obtain ⟨p, hp, rfl⟩ := List.mem_map.mp hr
      refine ⟨rowN_length n p, fun b hb => ?_⟩
      rcases rowN_bits n p b hb with rfl | rfl <;> decide
    · have e : qs = (grt n v c).map (rowN n) := by
        refine List.Perm.eq_of_pairwise (le := fun x y => TS.code 2 x ≤ TS.code 2 y) (fun a b ha hb x y => ?_) hs ?_ hp
        · obtain ⟨p, hp', rfl⟩ := List.mem_map.mp (hp.mem_iff.mp ha)
          obtain ⟨q, hq', rfl⟩ := List.mem_map.mp hb
          rw [code_row n p (grt_lt hp'), code_row n q (grt_lt hq')] at x y
          have : p = q := by omega
          rw [this]
        · rw [List.pairwise_map]
          refine (List.Pairwise.and_mem.mp (grt_sorted n v c)).imp fun {a b} ⟨ha, hb, hab⟩ => ?_
          rw [code_row n a (grt_lt ha), code_row n b (grt_lt hb)]
          omega
      rw [e]
      simp
      have e2 : (fun p => TI (rowN n p)) = tupI ∘ rowN n := rfl
      rw [e2] at hΦ
      exact hΦ
end Ev
set_option Elab.async false
set_option linter.all false
set_option maxRecDepth 100000
/-! V11: led through rows. -/
namespace Ev
open PySem PySem.Spec PyProof.Rows L2

/-! ### plain -/
theorem addR_length (xs ys : List Int) : (addR xs ys).length = min xs.length ys.length := by simp [addR]
theorem addR_bits (xs ys : List Int) : Bits (addR xs ys) := fun b hb => by
  simp only [addR, List.mem_map] at hb
  obtain ⟨q, _, rfl⟩ := hb
  omega
theorem prodR_add : ∀ (a b s : List Int), a.length = b.length → prodR (addR a b) s = (prodR a s + prodR b s) % 2
  | [], [], s, _ => by simp [addR, prodR]
  | [], _ :: _, _, h => by cases h
  | _ :: _, [], _, h => by cases h
  | x :: a, y :: b, [], _ => by simp [prodR]
  | x :: a, y :: b, z :: s, h => by
    have ih := prodR_add a b s (by simpa using h)
    have e : addR (x :: a) (y :: b) = (x + y) % 2 :: addR a b := rfl
    rw [e, prodR_cons, prodR_cons, prodR_cons, ih]
    have : ((x + y) % 2 * z) % 2 = (x * z + y * z) % 2 := by
      rw [← Int.add_mul, Int.mul_emod, Int.emod_emod_of_dvd _ (Int.dvd_refl 2), ← Int.mul_emod]
    omega
theorem prodR_comm : ∀ (a b : List Int), prodR a b = prodR b a
  | [], [] => rfl
  | [], _ :: _ => by simp [prodR]
  | _ :: _, [] => by simp [prodR]
  | x :: a, y :: b => by rw [prodR_cons, prodR_cons, prodR_comm a b, Int.mul_comm]
def thrF (qs : List (List Int × Int)) (a : List Int) : List Int := qs.foldl (fun a q => if q.2 = 1 then addR a q.1 else a) a
def thr (n : Nat) (rs : List (List Int)) (ys : List Int) : List Int := thrF (rs.zip ys) (List.replicate n 0)
def RowsOf (n : Nat) (rs : List (List Int)) : Prop := ∀ r ∈ rs, r.length = n ∧ Bits r
theorem thrF_row {n : Nat} : ∀ (qs : List (List Int × Int)) (a : List Int), (∀ q ∈ qs, q.1.length = n) → a.length = n → Bits a → (thrF qs a).length = n ∧ Bits (thrF qs a)
  | [], a, _, h, b => ⟨h, b⟩
  | q :: qs, a, hq, h, b => by
    unfold thrF
    rw [List.foldl_cons]
    have := hq q (List.mem_cons_self ..)
    split
    · exact thrF_row qs _ (fun q' h' => hq q' (List.mem_cons_of_mem _ h')) (by rw [addR_length]; omega) (addR_bits _ _)
    · exact thrF_row qs _ (fun q' h' => hq q' (List.mem_cons_of_mem _ h')) h b
theorem thr_row {n : Nat} {rs : List (List Int)} {ys : List Int} (h : RowsOf n rs) : (thr n rs ys).length = n ∧ Bits (thr n rs ys) :=
  thrF_row _ _ (fun q hq => (h q.1 (List.of_mem_zip hq).1).1) (by simp) (fun b hb => .inl (List.eq_of_mem_replicate hb))
theorem prodR_zero : ∀ (n : Nat) (s : List Int), prodR (List.replicate n 0) s = 0
  | 0, s => by simp [prodR]
  | n + 1, [] => by simp [prodR]
  | n + 1, z :: s => by rw [List.replicate_succ, prodR_cons, prodR_zero n s]; simp
theorem thrF_prod {n : Nat} (s : List Int) : ∀ (rs : List (List Int)) (ys : List Int) (a : List Int), RowsOf n rs → Bits ys → a.length = n → prodR (thrF (rs.zip ys) a) s = (prodR a s + prodR (rs.map fun r => prodR r s) ys) % 2
  | [], ys, a, _, _, _ => by
    rcases prodR_bit a s with e | e <;> simp [thrF, prodR] at e ⊢ <;> omega
  | r :: rs, [], a, _, _, _ => by
    rcases prodR_bit a s with e | e <;> simp [thrF, prodR] at e ⊢ <;> omega
  | r :: rs, y :: ys, a, hr, hy, ha => by
    have lr := (hr r (List.mem_cons_self ..)).1
    have hr' : RowsOf n rs := fun x hx => hr x (List.mem_cons_of_mem _ hx)
    have b0 := prodR_bit a s
    have b1 := prodR_bit r s
    have b2 := prodR_bit (rs.map fun r => prodR r s) ys
    rw [List.map_cons, prodR_cons]
    unfold thrF
    rw [List.zip_cons_cons, List.foldl_cons]
    rcases hy.head with e | e
    · subst e
      have ih := thrF_prod s rs ys a hr' hy.tail ha
      unfold thrF at ih
      simp only [show ((0 : Int) = 1) = False by simp, if_false]
      rw [ih]; omega
    · subst e
      have ih := thrF_prod s rs ys (addR a r) hr' hy.tail (by rw [addR_length]; omega)
      unfold thrF at ih
      simp only [if_true]
      rw [ih, prodR_add a r s (by omega)]; omega
theorem thr_prod {n : Nat} {rs : List (List Int)} {ys s : List Int} (hr : RowsOf n rs) (hy : Bits ys) : prodR (thr n rs ys) s = prodR (rs.map fun r => prodR r s) ys := by
  have := thrF_prod s rs ys (List.replicate n 0) hr hy (by simp)
  unfold thr
  rw [this, prodR_zero]
  rcases prodR_bit (rs.map fun r => prodR r s) ys with e | e <;> rw [e] <;> rfl
/-- the place of the row that the sum of rows is -/
def thrP (n : Nat) (rs : List (List Int)) (q : Nat) : Nat := (placeF 0 (thr n rs (rowN rs.length q))).toNat
theorem thrP_ok {n : Nat} {rs : List (List Int)} (hr : RowsOf n rs) (q : Nat) : thrP n rs q < 2 ^ n ∧ thr n rs (rowN rs.length q) = rowN n (thrP n rs q) ∧ placeF 0 (thr n rs (rowN rs.length q)) = thrP n rs q := by
  obtain ⟨l, b⟩ := thr_row (ys := rowN rs.length q) hr
  obtain ⟨p, hp, e⟩ := bits_rowN b
  rw [l] at hp e
  have pl := place_rowN n p hp
  have : thrP n rs q = p := by unfold thrP; rw [e, pl]; omega
  rw [this]
  exact ⟨hp, e, by rw [e, pl]⟩
/-- the row of products with s, as a place -/
def ledR (n : Nat) (rs : List (List Int)) (s : Nat) : List Int := rs.map fun r => prodR r (rowN n s)
def ledP (n : Nat) (rs : List (List Int)) (s : Nat) : Nat := (placeF 0 (ledR n rs s)).toNat
theorem ledP_ok (n : Nat) (rs : List (List Int)) (s : Nat) : ledP n rs s < 2 ^ rs.length ∧ ledR n rs s = rowN rs.length (ledP n rs s) ∧ placeF 0 (ledR n rs s) = ledP n rs s := by
  have b : Bits (ledR n rs s) := fun x hx => by
    simp only [ledR, List.mem_map] at hx
    obtain ⟨r, _, rfl⟩ := hx
    exact prodR_bit _ _
  have l : (ledR n rs s).length = rs.length := by simp [ledR]
  obtain ⟨p, hp, e⟩ := bits_rowN b
  rw [l] at hp e
  have pl := place_rowN rs.length p hp
  have : ledP n rs s = p := by unfold ledP; rw [e, pl]; omega
  rw [this]
  exact ⟨hp, e, by rw [e, pl]⟩
theorem hat_sumN (m : Nat) (a : Nat → Nat → Int) (q : Nat) : ∀ N, hat m (fun y => sumN N fun s => a s y) q = sumN N fun s => hat m (a s) q
  | 0 => by
    simp only [sumN]
    have := hat_mul m 0 (fun _ => 0) q
    simpa using this
  | N + 1 => by
    simp only [sumN]
    rw [hat_plus, hat_sumN m a q N]
theorem sumN_delta {g : Nat → Int} {a : Nat} : ∀ {N : Nat}, a < N → (sumN N fun x => g x * if x = a then 1 else 0) = g a
  | 0, h => by omega
  | N + 1, h => by
    simp only [sumN]
    by_cases e : N = a
    · subst e
      rw [sumN_congr (g := fun _ => 0) fun i hi => by rw [if_neg (by omega)]; omega, sumN_const]
      simp
    · rw [sumN_delta (N := N) (by omega), if_neg e]; omega
theorem hat_chi {m a q : Nat} (ha : a < 2 ^ m) (hq : q < 2 ^ m) : hat m (fun y => 1 - 2 * par m a y) q = 2 ^ m * if q = a then 1 else 0 := by
  rw [← hat_back m (fun x => if x = a then 1 else 0) q hq]
  refine hat_congr fun y hy => ?_
  rw [← hat_sum m y _ hy, sumN_delta (g := fun x => 1 - 2 * par m y x) ha]
  unfold par
  rw [prodR_comm]
theorem led_eq {n : Nat} {rs : List (List Int)} {t : Nat → Int} (hr : RowsOf n rs) {q : Nat} (hq : q < 2 ^ rs.length) :
    2 ^ rs.length * (sumN (2 ^ n) fun s => if ledP n rs s = q then spec n t s else 0) = 2 ^ n * spec rs.length (fun y => t (thrP n rs y)) q := by
  have e1 : 2 ^ n * spec rs.length (fun y => t (thrP n rs y)) q = hat rs.length (fun y => sumN (2 ^ n) fun s => spec n t s * (1 - 2 * par rs.length (ledP n rs s) y)) q := by
    unfold spec
    rw [← hat_mul]
    refine hat_congr fun y hy => ?_
    obtain ⟨h1, h2, h3⟩ := thrP_ok hr y
    have hb := hat_back n (sg t) (thrP n rs y) h1
    rw [show (2 : Int) ^ n * sg (fun y => t (thrP n rs y)) y = 2 ^ n * sg t (thrP n rs y) from rfl, ← hb, ← hat_sum n (thrP n rs y) _ h1]
    refine sumN_congr fun s hs => ?_
    have : par n (thrP n rs y) s = par rs.length (ledP n rs s) y := by
      unfold par
      rw [← h2, thr_prod hr (rowN_bits _ _)]
      have := (ledP_ok n rs s).2.1
      unfold ledR at this
      rw [this]
    rw [this, Int.mul_comm]
  rw [e1, hat_sumN, ← sumN_mul]
  refine sumN_congr fun s hs => ?_
  have h1 := (ledP_ok n rs s).1
  rw [hat_mul, hat_chi h1 hq]
  by_cases e : ledP n rs s = q
  · rw [if_pos e, if_pos e.symm]; grind
  · rw [if_neg e, if_neg (Ne.symm e)]; grind

/-! ### the defs -/
theorem zip_rows (rs : List (List Int)) (ys : List Int) : zipD (rs.map TI) (ys.map .int) = (rs.zip ys).map fun q => PyData.tuple [TI q.1, .int q.2] := by
  unfold zipD
  rw [List.zip_map, List.map_map]; rfl
def sp_rows_through : FSpec := fun args Φ => ∃ (n : Nat) (rs : List (List Int)) (ys : List Int), args = [.d (.int n), .d (T (rs.map TI)), .d (TI ys)] ∧ n ≤ 1000 ∧ RowsOf n rs ∧ Φ (.d (TI (thr n rs ys)))
def D_rows_through : DS := (dSeq (dSet 3 (dBin oMul (dTup (dCons (dC (.int 0)) dNil)) (dVar 0))) (dSeq (dFor (dZip (dCons (dVar 1) (dCons (dVar 2) dNil))) (tTup 2 (tCons (tName 4) (tCons (tName 5) tNil))) (dSeq (dIfS (dTst (dBin oEq (dVar 5) (dC (.int 1)))) (dSeq (dSet 3 (dCall 2 sp_rows_added (dCons (dVar 3) (dCons (dVar 4) dNil)))) dNext) dNext) dNext)) (dSeq (dRet (dVar 3)) dNext)))
theorem zeros (n : Nat) : List.replicate n (PyData.int 0) = (List.replicate n (0 : Int)).map .int := by simp
theorem v_rows_through (args : List Val) (Φ : Val → Prop) (h : sp_rows_through args Φ) : D_rows_through (kRet Φ) (envS ["n", "rows", "y", "found", "row", "bit"] args) := by
  obtain ⟨n, rs, ys, rfl, hn, hr, hΦ⟩ := h
  simp [D_rows_through, envS]
  refine mul_one hn ?_
  simp [and_assoc]
  rw [zip_rows]
  refine forW_map (fun q : List Int × Int => PyData.tuple [TI q.1, .int q.2]) (fun r e => ∃ (a : List Int) (z4 z5 : Option Val), e = [some (.d (.int n)), some (.d (T (rs.map TI))), some (.d (TI ys)), some (.d (TI a)), z4, z5] ∧ a.length = n ∧ thrF r a = thr n rs ys ∧ ∀ q ∈ r, q.1.length = n) ?_ ?_ (rs.zip ys) _ ⟨List.replicate n 0, none, none, by simp, by simp, rfl, fun q hq => (hr q.1 (List.of_mem_zip hq).1).1⟩
  · rintro e ⟨a, z4, z5, rfl, h1, h2, h3⟩
    have h2 : a = thr n rs ys := h2
    simp
    rw [h2]
    exact hΦ
  · rintro q r e ⟨a, z4, z5, rfl, h1, h2, h3⟩ N hN
    have hq := h3 q (List.mem_cons_self ..)
    unfold thrF at h2
    rw [List.foldl_cons] at h2
    by_cases c : q.2 = 1
    · rw [if_pos c] at h2
      simp [and_assoc, oEq_int, c]
      refine ⟨a, q.1, rfl, by omega, ?_⟩
      simp
      exact hN _ ⟨addR a q.1, _, _, rfl, by rw [addR_length]; omega, h2, fun q' h' => h3 q' (List.mem_cons_of_mem _ h')⟩
    · rw [if_neg c] at h2
      simp [and_assoc, oEq_int, c]
      exact hN _ ⟨a, _, _, rfl, h1, h2, fun q' h' => h3 q' (List.mem_cons_of_mem _ h')⟩
def sp_table_size : FSpec := sp_table_letters
def D_table_size : DS := (dSeq (dSet 1 (dC (.int 0))) (dSeq (dWhile (dTst (dBin oLt (dCall 1 sp_power_of_two (dCons (dVar 1) dNil)) (dUn oLen (dVar 0)))) (dSeq (dSet 1 (dBin oAdd (dVar 1) (dC (.int 1)))) dNext)) (dSeq (dRet (dVar 1)) dNext)))
theorem size_loop {K : KE} {n : Nat} {t : Nat → Int} (hn : n ≤ 20) : ∀ (m k : Nat), k + m = n → K.nx [some (.d (TI (tab (2 ^ n) t))), some (.d (.int n))] →
    whileN (dTst (dBin oLt (dCall 1 sp_power_of_two (dCons (dVar 1) dNil)) (dUn oLen (dVar 0)))) (dSeq (dSet 1 (dBin oAdd (dVar 1) (dC (.int 1)))) dNext) K (m + 1) [some (.d (TI (tab (2 ^ n) t))), some (.d (.int k))]
  | 0, k, e, h => by
    have : k = n := by omega
    subst this
    rw [whileN]
    have tl : ((tab (2 ^ k) t).length : Int) = ((2 ^ k : Nat) : Int) := by rw [tab_length]
    have st : ∀ Ψ : Val → Prop, Ψ (.d (.int ((2 ^ k : Nat) : Int))) → sp_power_of_two [.d (.int k)] Ψ := fun Ψ hΨ => ⟨k, rfl, by omega, hΨ⟩
    generalize ((2 ^ k : Nat) : Int) = a at *
    simp [tl]
    refine st _ ?_
    simp
    exact h
  | m + 1, k, e, h => by
    have ih := size_loop (K := K) (t := t) hn m (k + 1) (by omega) h
    rw [whileN]
    have p : 2 ^ (k + 1) ≤ 2 ^ n := two_le (by omega)
    have a1 : ((2 ^ k : Nat) : Int) < ((2 ^ n : Nat) : Int) := by rw [Nat.pow_succ] at p; have := Nat.two_pow_pos k; omega
    have st : ∀ Ψ : Val → Prop, Ψ (.d (.int ((2 ^ k : Nat) : Int))) → sp_power_of_two [.d (.int k)] Ψ := fun Ψ hΨ => ⟨k, rfl, by omega, hΨ⟩
    have tl : ((tab (2 ^ n) t).length : Int) = ((2 ^ n : Nat) : Int) := by rw [tab_length]
    generalize ((2 ^ n : Nat) : Int) = a at *
    generalize ((2 ^ k : Nat) : Int) = b at *
    have a2 : ¬ a ≤ b := by omega
    simp [tl]
    refine st _ ?_
    simp [a1, a2]
    simpa using ih
theorem v_table_size (args : List Val) (Φ : Val → Prop) (h : sp_table_size args Φ) : D_table_size (kRet Φ) (envS ["table", "n"] args) := by
  obtain ⟨n, t, rfl, hn, hΦ⟩ := h
  simp only [D_table_size, envS]
  have l := size_loop (t := t) (K := { nx := fun e => dSeq (dRet (dVar 1)) dNext (kRet Φ) e, rt := Φ, bk := fun _ => False, ct := fun _ => False }) hn n 0 (by omega) (by simpa using hΦ)
  simp [dWhile]
  exact ⟨n + 1, l⟩
end Ev
set_option Elab.async false
set_option linter.all false
set_option maxRecDepth 100000
/-! V12: led tables, spectra; the law's own helpers. -/
namespace Ev
open PySem PySem.Spec PyProof.Rows L2

theorem rows_items (n : Nat) : (rowsN n).map TI = (List.range (2 ^ n)).map fun i => TI (rowN n i) := by
  rw [rowsN_tab, List.map_map]; rfl
def sp_led_table : FSpec := fun args Φ => ∃ (n : Nat) (t : Nat → Int) (rs : List (List Int)), args = [.d (TI (tab (2 ^ n) t)), .d (T (rs.map TI))] ∧ n ≤ 20 ∧ rs.length ≤ 12 ∧ RowsOf n rs ∧ Φ (.d (TI (tab (2 ^ rs.length) fun q => t (thrP n rs q))))
def D_led_table : DS := (dSeq (dSet 2 (dCall 1 sp_table_size (dCons (dVar 0) dNil))) (dSeq (dRet (dUn oTuple (dLc [3] (dSeqI (dCall 1 sp_all_rows (dCons (dUn oLen (dVar 1)) dNil))) (tName 3) dYes (dBin oIxS (dVar 0) (dCall 1 sp_row_place (dCons (dCall 3 sp_rows_through (dCons (dVar 2) (dCons (dVar 1) (dCons (dVar 3) dNil)))) dNil)))))) dNext))
theorem v_led_table (args : List Val) (Φ : Val → Prop) (h : sp_led_table args Φ) : D_led_table (kRet Φ) (envS ["table", "rows", "n", "y"] args) := by
  obtain ⟨n, t, rs, rfl, hn, hm, hr, hΦ⟩ := h
  simp [D_led_table, envS]
  refine ⟨n, t, rfl, hn, ?_⟩
  simp
  refine ⟨rs.length, rfl, hm, ?_⟩
  simp
  rw [rows_items]
  refine compW_tab _ (fun q => .int (t (thrP n rs q))) (len20 (by omega)) (fun q hq N hN => ?_) (by rw [TI_tab] at hΦ; exact hΦ)
  obtain ⟨h1, h2, h3⟩ := thrP_ok hr q
  simp
  refine ⟨n, rs, _, rfl, by omega, hr, ?_⟩
  simp
  refine ⟨_, rfl, ?_⟩
  rw [h3]
  simp
  exact ⟨_, stepped_get h1, hN⟩
def sp_led_spectrum : FSpec := fun args Φ => ∃ (n : Nat) (t : Nat → Int) (rs : List (List Int)), args = [.d (.int n), .d (TI (tab (2 ^ n) (spec n t))), .d (T (rs.map TI))] ∧ n ≤ 12 ∧ rs.length ≤ 12 ∧ RowsOf n rs ∧ Φ (.d (TI (tab (2 ^ rs.length) (spec rs.length fun q => t (thrP n rs q)))))
def D_led_spectrum : DS := (dSeq (dSet 3 (dCall 1 sp_power_of_two (dCons (dUn oLen (dVar 2)) dNil))) (dSeq (dSet 4 (dBin oMul (dLst (dCons (dC (.int 0)) dNil)) (dVar 3))) (dSeq (dFor (dZip (dCons (dCall 1 sp_all_rows (dCons (dVar 0) dNil)) (dCons (dVar 1) dNil))) (tTup 2 (tCons (tName 5) (tCons (tName 6) tNil))) (dSeq (dSet 7 (dCall 1 sp_row_place (dCons (dUn oTuple (dLc [8] (dSeqI (dVar 2)) (tName 8) dYes (dCall 2 sp_rows_product (dCons (dVar 8) (dCons (dVar 5) dNil))))) dNil))) (dSeq (dAsg (tSub 4 (dVar 7)) (dBin oAdd (dBin oIxS (dVar 4) (dVar 7)) (dVar 6))) dNext))) (dSeq (dRet (dUn oTuple (dLc [6] (dSeqI (dVar 4)) (tName 6) dYes (dBin oDiv (dBin oMul (dVar 3) (dVar 6)) (dUn oLen (dVar 1)))))) dNext))))
theorem zip_rt (n : Nat) (v : Nat → Int) : zipD ((rowsN n).map TI) ((tab (2 ^ n) v).map .int) = (List.range (2 ^ n)).map fun s => PyData.tuple [TI (rowN n s), .int (v s)] := by
  rw [rows_items]
  unfold zipD tab
  rw [List.map_map, List.zip_map', List.map_map]; rfl
theorem rep_tab (m : Nat) : List.replicate m (PyData.int 0) = (tab m fun _ => 0).map .int := by
  unfold tab
  rw [List.map_map]
  show _ = (List.range m).map fun _ => PyData.int 0
  rw [List.map_const', List.length_range]
theorem v_led_spectrum (args : List Val) (Φ : Val → Prop) (h : sp_led_spectrum args Φ) : D_led_spectrum (kRet Φ) (envS ["n", "values", "rows", "many", "found", "s", "item", "place", "row"] args) := by
  obtain ⟨n, t, rs, rfl, hn, hm, hr, hΦ⟩ := h
  simp [D_led_spectrum, envS]
  refine ⟨rs.length, rfl, by omega, ?_⟩
  have led : ∀ q, q < 2 ^ rs.length → ((2 ^ rs.length : Nat) : Int) * (sumN (2 ^ n) fun s => if ledP n rs s = q then spec n t s else 0) / ((2 ^ n : Nat) : Int) = spec rs.length (fun y => t (thrP n rs y)) q := fun q hq => by
    rw [two_cast, two_cast, led_eq hr hq, Int.mul_ediv_cancel_left _ (by have := Int.pow_pos (n := 2) (m := n) (by decide); omega)]
  have lp := fun s => ledP_ok n rs s
  have cd := fun a : Int => cdivN (a := a) (show n ≤ 20 by omega)
  have m12 : 2 ^ rs.length ≤ 16777216 := len20 (by omega)
  have tl : ((tab (2 ^ n) (spec n t)).length : Int) = ((2 ^ n : Nat) : Int) := by rw [tab_length]
  generalize hM : 2 ^ rs.length = M at *
  refine mul_oneL m12 ?_
  refine ⟨n, rfl, hn, ?_⟩
  simp [and_assoc]
  rw [zip_rt]
  refine forW_range _ (2 ^ n) (fun j e => ∃ z5 z6 z7, e = [some (.d (.int n)), some (.d (TI (tab (2 ^ n) (spec n t)))), some (.d (T (rs.map TI))), some (.d (.int M)), some (.own ((tab M fun q => sumN j fun s => if ledP n rs s = q then spec n t s else 0).map .int)), z5, z6, z7, none]) ?_ ?_ _ ⟨none, none, none, ?_⟩
  · rintro e ⟨z5, z6, z7, rfl⟩
    generalize hN : ((2 ^ n : Nat) : Int) = NN at *
    have fin : compW (tName 6) dYes (dBin oDiv (dBin oMul (dVar 3) (dVar 6)) (dUn oLen (dVar 1))) [6] ((tab M fun q => sumN (2 ^ n) fun s => if ledP n rs s = q then spec n t s else 0).map .int)
        [some (.d (.int n)), some (.d (TI (tab (2 ^ n) (spec n t)))), some (.d (T (rs.map TI))), some (.d (.int M)), some (.d (.list ((tab M fun q => sumN (2 ^ n) fun s => if ledP n rs s = q then spec n t s else 0).map .int))), z5, none, z7, none] [] (fun ds env2 => Φ (.d (.tuple ds))) := by
      refine compW_ints (fun q => .int (spec rs.length (fun y => t (thrP n rs y)) q)) m12 (fun q hq N hNN => ?_) (by rw [TI_tab] at hΦ; exact hΦ)
      have e := led q hq
      simp [tl]
      rw [e]
      exact ⟨cm_small (by omega), cd _, hNN⟩
    simp
    exact fin
  · rintro j hj e ⟨z5, z6, z7, rfl⟩ N hN
    obtain ⟨l1, l2, l3⟩ := lp j
    simp [and_assoc]
    refine compW_all TI (fun r => .int (prodR r (rowN n j))) rs (by omega) (fun r hr' N' hN' => ?_) ?_
    · simp
      refine ⟨r, rowN n j, rfl, by rw [(hr r hr').1]; omega, (hr r hr').2, ?_⟩
      simpa using hN'
    · simp
      refine ⟨ledR n rs j, by simp [ledR, TI, List.map_map, Function.comp_def], ?_⟩
      rw [l3]
      have g := stepped_get (N := M) (f := fun q => sumN j fun s => if ledP n rs s = q then spec n t s else 0) l1
      have ix := ix_nat l1
      simp [g, tab_length, ix]
      have key : ((tab M fun q => sumN j fun s => if ledP n rs s = q then spec n t s else 0).map PyData.int).set (ledP n rs j) (.int ((sumN j fun s => if ledP n rs s = ledP n rs j then spec n t s else 0) + spec n t j)) = (tab M fun q => sumN (j + 1) fun s => if ledP n rs s = q then spec n t s else 0).map .int := by
        rw [← List.map_set, tab_set]
        congr 1
        refine tab_congr fun q hq => ?_
        simp only [sumN]
        by_cases e : q = ledP n rs j
        · subst e; rw [if_pos rfl, if_pos rfl]
        · rw [if_neg e, if_neg (Ne.symm e)]; omega
      rw [key]
      exact hN _ ⟨_, _, _, rfl⟩
  · rw [rep_tab]; rfl
end Ev
set_option Elab.async false
set_option linter.all false
set_option maxRecDepth 100000
/-! V13: the law's own helpers. -/
namespace Ev
open PySem PySem.Spec PyProof.Rows L2

def sp_law_draw : FSpec := fun args Φ => ∃ m : Nat, args = [.pot, .d (.int m)] ∧ 0 < m ∧ m < 2 ^ 30 ∧ ∀ r : Nat, r < m → Φ (.d (.int r))
def sp_law_pick : FSpec := fun args Φ => ∃ (x : PyData) (xs : List PyData), args = [.pot, .d x] ∧ seqD x = some xs ∧ xs ≠ [] ∧ xs.length < 2 ^ 30 ∧ ∀ y ∈ xs, Φ (.d y)
def D_law_pick : DS := (dSeq (dRet (dBin oIxS (dVar 1) (dCall 2 sp_law_draw (dCons (dVar 0) (dCons (dUn oLen (dVar 1)) dNil))))) dNext)
theorem toS_seq {x : PyData} {xs : List PyData} (h : seqD x = some xs) : toS (.d x) = some xs := by
  cases x <;> first | exact h | cases h
theorem v_law_pick (args : List Val) (Φ : Val → Prop) (h : sp_law_pick args Φ) : D_law_pick (kRet Φ) (envS ["pot", "some"] args) := by
  obtain ⟨x, xs, rfl, hx, hne, hl, hΦ⟩ := h
  have pos : 0 < xs.length := List.length_pos_iff.mpr hne
  have body : ∀ r : Nat, r < xs.length → ∃ y, atI xs (r : Int) = some y ∧ Φ (.d y) := fun r hr => ⟨xs[r], at_nat (List.getElem?_eq_getElem hr), hΦ _ (List.getElem_mem hr)⟩
  simp [D_law_pick, envS, toS_seq hx]
  cases x with
  | list ys => cases hx; exact .inl ⟨xs.length, rfl, pos, hl, fun r hr => by simpa using body r hr⟩
  | tuple ys => cases hx; exact .inl ⟨xs.length, rfl, pos, hl, fun r hr => by simpa using body r hr⟩
  | _ => cases hx
theorem lay_ints (ns : List Int) : Lay 1 (.list (ns.map .int)) := lay_l fun x hx => by
  obtain ⟨i, _, rfl⟩ := List.mem_map.mp hx
  exact lay_i i
def sp_law_mixed : FSpec := fun args Φ => ∃ ns : List Int, args = [.pot, .d (.list (ns.map .int))] ∧ ns.length ≤ 1000 ∧ ∀ ms : List Int, ms.Perm ns → Φ (.own (ms.map .int))
def D_law_mixed : DS := (dSeq (dPar2 2 3 (dUn oList (dVar 1)) (dLst dNil)) (dSeq (dWhile (dTst (dBin oNe (dVar 2) (dLst dNil))) (dSeq (dExpr (dApp 3 (dPopAt 2 (dCall 2 sp_law_draw (dCons (dVar 0) (dCons (dUn oLen (dVar 2)) dNil)))))) dNext)) (dSeq (dRet (dVar 3)) dNext)))
theorem erase_map : ∀ (l : List Int) (r : Nat), (l.map PyData.int).eraseIdx r = (l.eraseIdx r).map .int
  | [], _ => rfl
  | _ :: _, 0 => rfl
  | x :: l, r + 1 => by simp [erase_map l r]
theorem pick_perm : ∀ (l : List Int) (r : Nat) (h : r < l.length), ([l[r]] ++ l.eraseIdx r).Perm l
  | x :: l, 0, _ => List.Perm.refl _
  | x :: l, r + 1, h => by
    have ih := pick_perm l r (by simpa using h)
    simp only [List.getElem_cons_succ, List.eraseIdx_cons_succ, List.cons_append, List.nil_append] at ih ⊢
    exact (List.Perm.swap ..).trans (ih.cons x)
theorem mixed_loop {Φ : Val → Prop} {e1 : Val} {ns : List Int} (hl : ns.length ≤ 1000) (h : ∀ ms : List Int, ms.Perm ns → Φ (.own (ms.map .int))) : ∀ (m : Nat) (left found : List Int), left.length = m → (found ++ left).Perm ns →
    whileN (dTst (dBin oNe (dVar 2) (dLst dNil))) (dSeq (dExpr (dApp 3 (dPopAt 2 (dCall 2 sp_law_draw (dCons (dVar 0) (dCons (dUn oLen (dVar 2)) dNil)))))) dNext) { nx := fun e => dSeq (dRet (dVar 3)) dNext (kRet Φ) e, rt := Φ, bk := fun _ => False, ct := fun _ => False } (m + 1)
      [some .pot, some e1, some (.own (left.map .int)), some (.own (found.map .int))]
  | 0, left, found, hm, hp => by
    have : left = [] := List.eq_nil_of_length_eq_zero hm
    subst this
    rw [List.append_nil] at hp
    rw [whileN]
    simp [oNe, oNeD, oNeS, (lay_ints []).shaped (by decide)]
    have s : SeqAt.shaped (.list []) = true := by rfl
    simp [s, PyData.eqv, PyData.eqvAll]
    exact h found hp
  | m + 1, left, found, hm, hp => by
    rw [whileN]
    have s : SeqAt.shaped (.list []) = true := by rfl
    have s2 := (lay_ints left).shaped (show 1 ≤ 64 by decide)
    have pl := hp.length_eq
    rw [List.length_append] at pl
    have ne : PyData.eqvAll (left.map PyData.int) [] = false := by
      cases left with
      | nil => cases hm
      | cons a b => rfl
    simp [oNe, oNeD, oNeS, s, s2, PyData.eqv, ne, dPopAt]
    refine ⟨left.length, rfl, by omega, by omega, fun r hr => ?_⟩
    have ih := mixed_loop (e1 := e1) hl h m (left.eraseIdx r) (found ++ [left[r]]) (by rw [List.length_eraseIdx_of_lt hr]; omega) (by
      refine List.Perm.trans ?_ hp
      rw [List.append_assoc]
      exact List.Perm.append_left _ (pick_perm left r hr))
    refine ⟨r, rfl, by omega, .int left[r], ⟨left[r], List.getElem?_eq_getElem hr, rfl⟩, by omega, ?_⟩
    rw [erase_map]
    simpa using ih
theorem v_law_mixed (args : List Val) (Φ : Val → Prop) (h : sp_law_mixed args Φ) : D_law_mixed (kRet Φ) (envS ["pot", "items", "left", "found"] args) := by
  obtain ⟨ns, rfl, hl, hΦ⟩ := h
  have lp := mixed_loop (e1 := .d (.list (ns.map .int))) hl hΦ ns.length ns [] rfl (by simp)
  simp [D_law_mixed, envS, dWhile]
  exact ⟨ns.length + 1, lp⟩
def sp_law_rows : FSpec := fun args Φ => ∃ n : Nat, args = [.d (.int n)] ∧ n ≤ 12 ∧ ∀ v, toL v = some ((rowsN n).map TI) → Φ v
def D_law_rows : DS := (dSeq (dSet 1 (dLst (dCons (dTup dNil) dNil))) (dSeq (dFor (dRng1 (dCons (dVar 0) dNil)) (tName 2) (dSeq (dSet 3 (dLst dNil)) (dSeq (dFor (dSeqI (dVar 1)) (tName 4) (dSeq (dExpr (dExt 3 (dLst (dCons (dBin oAdd (dVar 4) (dTup (dCons (dC (.int 0)) dNil))) (dCons (dBin oAdd (dVar 4) (dTup (dCons (dC (.int 1)) dNil))) dNil))))) dNext)) (dSeq (dSet 1 (dVar 3)) dNext)))) (dSeq (dRet (dVar 1)) dNext)))
theorem v_law_rows (args : List Val) (Φ : Val → Prop) (h : sp_law_rows args Φ) : D_law_rows (kRet Φ) (envS ["n", "found", "turn", "longer", "own"] args) := by
  obtain ⟨n, rfl, hn, hΦ⟩ := h
  simp [D_law_rows, envS]
  refine ⟨by omega, ?_⟩
  refine forW_range _ n (fun k e => ∃ (v : Val) (z1 z2 z3 : Option Val), e = [some (.d (.int n)), some v, z1, z2, z3] ∧ toL v = some ((rowsN k).map TI)) ?_ ?_ _ ⟨_, none, none, none, rfl, rfl⟩
  · rintro e ⟨v, z1, z2, z3, rfl, h1⟩
    simp
    exact hΦ v h1
  · rintro k hk e ⟨v, z1, z2, z3, rfl, h1⟩ N hN
    cases v with
    | own xs =>
      cases h1
      simp
      exact rows_inner (by omega) _ rfl (fun z => by simp; exact hN _ ⟨_, _, _, _, rfl, rfl⟩) z3
    | d d =>
      cases d with
      | list xs =>
        cases h1
        simp
        exact rows_inner (by omega) _ rfl (fun z => by simp; exact hN _ ⟨_, _, _, _, rfl, rfl⟩) z3
      | _ => cases h1
    | _ => cases h1
theorem rowN_tab : ∀ (n p : Nat), rowN n p = (List.range n).map fun i => ((p / 2 ^ (n - 1 - i) % 2 : Nat) : Int)
  | 0, p => rfl
  | n + 1, p => by
    rw [rowN_cons, rowN_tab n p, List.range_succ_eq_map, List.map_cons, List.map_map]
    congr 1
    refine List.map_congr_left fun i hi => ?_
    have := List.mem_range.mp hi
    show _ = ((p / 2 ^ (n + 1 - 1 - (i + 1)) % 2 : Nat) : Int)
    rw [show n + 1 - 1 - (i + 1) = n - 1 - i by omega]
def sp_law_row_at : FSpec := fun args Φ => ∃ (n p : Nat), args = [.d (.int n), .d (.int p)] ∧ n ≤ 1000 ∧ Φ (.d (TI (rowN n p)))
def D_law_row_at : DS := (dSeq (dRet (dUn oTuple (dLc [2] (dRng1 (dCons (dVar 0) dNil)) (tName 2) dYes (dBin oAnd (dBin oShr (dVar 1) (dBin oSub (dBin oSub (dVar 0) (dC (.int 1))) (dVar 2))) (dC (.int 1)))))) dNext)
theorem v_law_row_at (args : List Val) (Φ : Val → Prop) (h : sp_law_row_at args Φ) : D_law_row_at (kRet Φ) (envS ["n", "place", "i"] args) := by
  obtain ⟨n, p, rfl, hn, hΦ⟩ := h
  simp [D_law_row_at, envS]
  refine ⟨by omega, ?_⟩
  refine compW_tab _ (fun i => .int ((p / 2 ^ (n - 1 - i) % 2 : Nat) : Int)) (by omega) (fun i hi N hN => ?_) (by
    rw [rowN_tab, TI, List.map_map] at hΦ
    exact hΦ)
  simp
  refine ⟨by omega, ?_⟩
  rw [and_one]
  rw [← two_cast]
  have : ((p : Int) / ((2 ^ (n - 1 - i) : Nat) : Int)) % 2 = ((p / 2 ^ (n - 1 - i) % 2 : Nat) : Int) := by push_cast; rfl
  rw [this]
  exact hN
def sp_law_added : FSpec := fun args Φ => ∃ xs ys : List Int, args = [.d (TI xs), .d (TI ys)] ∧ xs.length ≤ 1000 ∧ Bits xs ∧ Bits ys ∧ Φ (.d (TI (addR xs ys)))
def D_law_added : DS := (dSeq (dRet (dUn oTuple (dLc [2, 3] (dZip (dCons (dVar 0) (dCons (dVar 1) dNil))) (tTup 2 (tCons (tName 2) (tCons (tName 3) tNil))) dYes (dBin oXor (dVar 2) (dVar 3))))) dNext)
theorem v_law_added (args : List Val) (Φ : Val → Prop) (h : sp_law_added args Φ) : D_law_added (kRet Φ) (envS ["one", "other", "a", "b"] args) := by
  obtain ⟨xs, ys, rfl, hl, hx, hy, hΦ⟩ := h
  simp [D_law_added, envS, and_assoc]
  rw [zip_ints]
  refine compW_all _ (fun p : Int × Int => .int ((p.1 + p.2) % 2)) _ (by simp; omega) (fun q hq N hN => ?_) (by
    simp only [TI, List.map_map, addR] at hΦ
    exact hΦ)
  have m := List.of_mem_zip hq
  simp [and_assoc]
  rw [xor_bit (hx _ m.1) (hy _ m.2)]
  exact hN
def sp_law_product : FSpec := fun args Φ => ∃ xs ys : List Int, args = [.d (TI xs), .d (TI ys)] ∧ xs.length ≤ 1000 ∧ Bits xs ∧ Bits ys ∧ Φ (.d (.int (prodR xs ys)))
def D_law_product : DS := (dSeq (dRet (dBin oAnd (dUn oSum (dLc [2, 3] (dZip (dCons (dVar 0) (dCons (dVar 1) dNil))) (tTup 2 (tCons (tName 2) (tCons (tName 3) tNil))) dYes (dBin oAnd (dVar 2) (dVar 3)))) (dC (.int 1)))) dNext)
theorem v_law_product (args : List Val) (Φ : Val → Prop) (h : sp_law_product args Φ) : D_law_product (kRet Φ) (envS ["one", "other", "a", "b"] args) := by
  obtain ⟨xs, ys, rfl, hl, hx, hy, hΦ⟩ := h
  simp [D_law_product, envS, and_assoc]
  rw [zip_ints]
  refine compW_all _ (fun p : Int × Int => .int (p.1 * p.2)) _ (by simp; omega) (fun q hq N hN => ?_) ?_
  · have m := List.of_mem_zip hq
    simp [and_assoc]
    rw [and_bit (hx _ m.1) (hy _ m.2)]
    exact hN
  · refine ⟨(xs.zip ys).map fun p => p.1 * p.2, by simp, ?_⟩
    simp
    rw [and_one]
    exact hΦ
def sp_law_sum_table : FSpec := fun args Φ => ∃ (n p : Nat), args = [.d (TI (rowN n p))] ∧ n ≤ 12 ∧ Φ (.d (TI (tab (2 ^ n) (par n p))))
def D_law_sum_table : DS := (dSeq (dRet (dUn oTuple (dLc [1] (dSeqI (dCall 1 sp_law_rows (dCons (dUn oLen (dVar 0)) dNil))) (tName 1) dYes (dCall 2 sp_law_product (dCons (dVar 0) (dCons (dVar 1) dNil)))))) dNext)
theorem v_law_sum_table (args : List Val) (Φ : Val → Prop) (h : sp_law_sum_table args Φ) : D_law_sum_table (kRet Φ) (envS ["s", "x"] args) := by
  obtain ⟨n, p, rfl, hn, hΦ⟩ := h
  simp [D_law_sum_table, envS, rowN_length]
  refine ⟨n, rfl, hn, fun v hv => ?_⟩
  have go : compW (tName 1) dYes (dCall 2 sp_law_product (dCons (dVar 0) (dCons (dVar 1) dNil))) [1] ((rowsN n).map TI) [some (.d (TI (rowN n p))), none] [] (fun ds env2 => Φ (.d (.tuple ds))) := by
    rw [rows_items]
    refine compW_tab _ (fun i => .int (par n p i)) (len20 (by omega)) (fun i hi N hN => ?_) (by rw [TI_tab] at hΦ; exact hΦ)
    simp
    exact ⟨rowN n p, rowN n i, rfl, by rw [rowN_length]; omega, rowN_bits _ _, rowN_bits _ _, by simp; exact hN⟩
  cases v with
  | own xs => cases hv; simp; exact go
  | d d => cases d with
    | list xs => cases hv; simp; exact go
    | _ => cases hv
  | _ => cases hv
theorem sg_mul {a b : Int} (ha : a = 0 ∨ a = 1) (hb : b = 0 ∨ b = 1) : 1 - 2 * Builtin.bitXor a b = (1 - 2 * a) * (1 - 2 * b) := by
  rw [xor_bit ha hb]
  rcases ha with rfl | rfl <;> rcases hb with rfl | rfl <;> rfl
def sp_law_shift : FSpec := fun args Φ => ∃ (n d : Nat) (t : Nat → Int), args = [.d (TI (tab (2 ^ n) t)), .d (.int d)] ∧ n ≤ 20 ∧ d < 2 ^ n ∧ BitF (2 ^ n) t ∧ Φ (.d (.int (shifts n t d)))
def D_law_shift : DS := (dSeq (dRet (dUn oSum (dLc [2, 3] (dEnum (dCons (dVar 0) dNil)) (tTup 2 (tCons (tName 2) (tCons (tName 3) tNil))) dYes (dBin oSub (dC (.int 1)) (dBin oMul (dC (.int 2)) (dBin oXor (dVar 3) (dBin oIxS (dVar 0) (dBin oXor (dVar 2) (dVar 1))))))))) dNext)
theorem v_law_shift (args : List Val) (Φ : Val → Prop) (h : sp_law_shift args Φ) : D_law_shift (kRet Φ) (envS ["table", "d", "k", "bit"] args) := by
  obtain ⟨n, d, t, rfl, hn, hd, ht, hΦ⟩ := h
  simp [D_law_shift, envS, enum_tab]
  refine compW_tab _ (fun k => .int (sg t k * sg t (k ^^^ d))) (len20 hn) (fun k hk N hN => ?_) (sum_tab (by simpa [shifts, conv] using hΦ))
  have hx : k ^^^ d < 2 ^ n := Nat.xor_lt_two_pow hk hd
  simp [and_assoc, xor_nat]
  refine ⟨_, stepped_get hx, ?_⟩
  simp
  rw [sg_mul (ht k hk) (ht _ hx)]
  exact ⟨cm_small (by omega), hN⟩
def nearF (n : Nat) (t : Nat → Int) (s : Nat) : Int := sumN (2 ^ n) fun x => (t x + par n s x) % 2
theorem near_spec {n s : Nat} {t : Nat → Int} (hs : s < 2 ^ n) (ht : BitF (2 ^ n) t) : ((2 ^ n : Nat) : Int) - 2 * nearF n t s = spec n t s := by
  unfold nearF spec
  rw [← hat_sum n s (sg t) hs, ← sumN_mul, show (((2 ^ n : Nat) : Int)) = sumN (2 ^ n) fun _ => 1 by rw [sumN_const]; omega, ← sumN_minus]
  refine sumN_congr fun x hx => ?_
  unfold sg
  have b := prodR_bit (rowN n s) (rowN n x)
  unfold par
  rcases ht x hx with e | e <;> rcases b with e' | e' <;> rw [e, e'] <;> rfl
def sp_law_near : FSpec := fun args Φ => ∃ (n : Nat) (t : Nat → Int), args = [.d (TI (tab (2 ^ n) t))] ∧ n ≤ 12 ∧ BitF (2 ^ n) t ∧ Φ (.own ((tab (2 ^ n) (nearF n t)).map .int))
def D_law_near : DS := (dSeq (dSet 1 (dBin oSub (dUn oBits (dUn oLen (dVar 0))) (dC (.int 1)))) (dSeq (dRet (dLc [2] (dSeqI (dCall 1 sp_law_rows (dCons (dVar 1) dNil))) (tName 2) dYes (dUn oSum (dLc [3, 4] (dZip (dCons (dVar 0) (dCons (dCall 1 sp_law_sum_table (dCons (dVar 2) dNil)) dNil))) (tTup 2 (tCons (tName 3) (tCons (tName 4) tNil))) dYes (dBin oXor (dVar 3) (dVar 4)))))) dNext))
theorem v_law_near (args : List Val) (Φ : Val → Prop) (h : sp_law_near args Φ) : D_law_near (kRet Φ) (envS ["table", "n", "s", "a", "b"] args) := by
  obtain ⟨n, t, rfl, hn, ht, hΦ⟩ := h
  have tl : ((tab (2 ^ n) t).length : Int) = ((2 ^ n : Nat) : Int) := by rw [tab_length]
  simp only [D_law_near, envS]
  have bl := bits_pow n
  have go : ∀ v, toL v = some ((rowsN n).map TI) → compW (tName 2) dYes (dUn oSum (dLc [3, 4] (dZip (dCons (dVar 0) (dCons (dCall 1 sp_law_sum_table (dCons (dVar 2) dNil)) dNil))) (tTup 2 (tCons (tName 3) (tCons (tName 4) tNil))) dYes (dBin oXor (dVar 3) (dVar 4)))) [2] ((rowsN n).map TI)
      [some (.d (TI (tab (2 ^ n) t))), some (.d (.int n)), none, none, none] [] (fun ds env2 => Φ (.own ds)) := fun v hv => by
    rw [rows_items]
    refine compW_tab _ (fun s => .int (nearF n t s)) (len20 (by omega)) (fun s hs N hN => ?_) (by rw [← ints_tab] at hΦ; exact hΦ)
    simp
    refine ⟨n, s, rfl, hn, ?_⟩
    simp [and_assoc, zip_tabs]
    refine compW_tab _ (fun x => .int ((t x + par n s x) % 2)) (len20 (by omega)) (fun x hx M hM => ?_) (sum_tab (by simpa [nearF] using hN))
    simp [and_assoc]
    rw [xor_bit (ht x hx) (show par n s x = 0 ∨ par n s x = 1 from prodR_bit _ _)]
    exact hM
  generalize ((2 ^ n : Nat) : Int) = a at *
  simp [tl, bl]
  refine ⟨n, rfl, hn, fun v hv => ?_⟩
  have g := go v hv
  cases v with
  | own xs => cases hv; simp; exact g
  | d d => cases d with
    | list xs => cases hv; simp; exact g
    | _ => cases hv
  | _ => cases hv
end Ev
set_option Elab.async false
set_option linter.all false
set_option maxRecDepth 100000
/-! Ev15: the laws' own pot, by hand. -/
namespace Ev
open PySem PySem.Spec PyProof.Rows L2

theorem ce_get {n : Nat} {C : SC} {e : Expr} {d : DO} (h : (coE n C e).map (·.d) = some d) : SO C e d := by
  cases q : coE n C e with
  | none => rw [q] at h; cases h
  | some x => rw [q] at h; cases h; exact x.ok
theorem cs_get {n : Nat} {C : SC} {s : Stmt} {d : DS} (h : (coS n C s).map (·.d) = some d) : SS C s d := by
  cases q : coS n C s with
  | none => rw [q] at h; cases h
  | some x => rw [q] at h; cases h; exact x.ok
theorem cb_get {n : Nat} {C : SC} {s : List Stmt} {d : DS} (h : (coB n C s).map (·.d) = some d) : SB C s d := by
  cases q : coB n C s with
  | none => rw [q] at h; cases h
  | some x => rw [q] at h; cases h; exact x.ok
def PN : List Str := ["script", "cells", "seal", "cell", "own"]
def scPot : Scope := { kind := .function, names := [("script", .local), ("cells", .local), ("seal", .local), ("cell", .local), ("len", .globalImplicit), ("int", .globalImplicit)], isGenerator := false, isCoroutine := false, more := [("fast", .str "script"), ("fast", .str "own"), ("fast", .str "cells"), ("fast", .str "seal"), ("fast", .str "cell")] }
def scPot1 : Scope := { kind := .function, names := [(".0", .local), ("own", .local), ("abs", .globalImplicit), ("int", .globalImplicit)], isGenerator := false, isCoroutine := false, more := [] }
def scPot2 : Scope := { kind := .function, names := [(".0", .local), ("own", .local)], isGenerator := false, isCoroutine := false, more := [] }
def CPot : SC := ⟨PN, scPot, [], [], false, PN⟩
theorem SqL.stay {K : PySem.W.Frag} {H H1 : Hp} {a : Addr} {xs : List V} (h : SqL K H a xs) (k : ∀ o, H a = some o → H1 a = some o) : SqL K H1 a xs := by
  rcases h with (h | ⟨ob, h⟩) | h
  · exact .inl (.inl (k _ h))
  · exact .inl (.inr ⟨ob, k _ h⟩)
  · exact .inr h
def cellF (m : Int) : Int := 2 * (if m < 0 then -m else m) + (if m < 0 then 1 else 0)
theorem cellF_nn (m : Int) : 0 ≤ cellF m := by unfold cellF; split <;> omega
section
variable {X : Cx} {D : Ends} {a : Addr} {H : Hp} {ns : List Int}
variable {q0 q1 q2 q3 q4 q5 q6 q7 q8 q9 q10 q11 q12 q13 q14 q15 q16 q17 q18 q19 q20 q21 q22 q23 q24 q25 q26 q27 q28 q29 q30 q31 q32 q33 q34 q35 q36 q37 q38 q39 q40 q41 q42 q43 q44 q45 q46 q47 q48 q49 q50 q51 q52 q53 q54 q55 q56 q57 q58 q59 q60 q61 q62 q63 q64 : Pos}
abbrev potComp (q3 q4 q5 q6 q7 q8 q9 q10 q11 q12 q13 q14 q15 q16 q17 q18 q19 : Pos) : Expr := (.ListComp (.BinOp (.BinOp (.Constant (.int 2) 0 q3) .Mult (.Call (.Name "abs" q4) [(.Name "own" q5)] [] q6) q7) .Add (.Call (.Name "int" q8) [(.Compare (.Name "own" q9) [.Lt] [(.Constant (.int 0) 0 q10)] q11)] [] q12) q13) [⟨(.Name "own" q14), (.Subscript (.Name "script" q15) (.Slice none (some (.Constant (.int 62) 0 q16)) none q17) q18), [], 0⟩] (scPot1) q19)
theorem pot_elt : SO (blkSC CPot scPot1) (.BinOp (.BinOp (.Constant (.int 2) 0 q3) .Mult (.Call (.Name "abs" q4) [(.Name "own" q5)] [] q6) q7) .Add (.Call (.Name "int" q8) [(.Compare (.Name "own" q9) [.Lt] [(.Constant (.int 0) 0 q10)] q11)] [] q12) q13) (dBin oAdd (dBin oMul (dC (.int 2)) (dUn oAbs (dVar 4))) (dUn oInt (dBin oLt (dVar 4) (dC (.int 0))))) :=
  ce_get (n := 60) (by kernel_rfl)
theorem pot_comp {Q : VK} (fx : Fits CPot X) {F : AP1} (r : R none F [none, none, none, none, none] [some (V.ref a), none, none, none, none] H) (hS : SqL X.K H a (ns.map V.int))
    (hQ : ∀ (ms : List Int) F' H' x, ms.length ≤ 62 → (∀ m ∈ ms, 0 ≤ m) → Ext none F [none, none, none, none, none] [some (V.ref a), none, none, none, none] H F' [none, none, none, none, none] H' →
      Res none [none, none, none, none, none] [some (V.ref a), none, none, none, none] H F' [none, none, none, none, none] H' (.own (ms.map .int)) x → Q x H') :
    wE X (potComp q3 q4 q5 q6 q7 q8 q9 q10 q11 q12 q13 q14 q15 q16 q17 q18 q19) [some (V.ref a), none, none, none, none] H Q := by
  have own : BlkOk CPot.N CPot.sc scPot1 [(("own" : Str), 4)] := blkOk_by (by decide +kernel)
  refine lc_at (C := CPot) (G := none) (F := F) (env := [none, none, none, none, none]) (own := [(("own" : Str), 4)]) (sl := [4]) (di := fun env Φ => Φ (cutD (ns.map .int) none (some 62)) env) (dt := tName 4) (dc := dYes)
    (Φ := fun rv env' => ∃ ms : List Int, rv = .v (.own (ms.map .int)) ∧ env' = [none, none, none, none, none] ∧ ms.length ≤ 62 ∧ ∀ m ∈ ms, 0 ≤ m)
    fx own (sgn_name (i := 4) rfl (loc_ok (by decide +kernel))) (fun i hi => hi) sts_nil pot_elt (fun env x => rfl) (fun Q' Φ' h k => ?_) ?_ (fun ds env' F' H' x e q ⟨ms, e1, e2, e3, e4⟩ => ?_)
  · refine wi_of (pi_list (pe_slice sl_list (pe_var (i := 0) (by rw [fx.n]; rfl) (by rw [fx.sc]; exact .inl (by decide +kernel))) po_none (po_some pe_int))) ?_
    refine ⟨_, rfl, 62, rfl, a, ns.map V.int, rfl, hS, fun p hp => ⟨p, rfl, ⟨_, SqL.of upd_same⟩, ?_⟩⟩
    have sh := Ext.shared (o := .lst (cutV (ns.map V.int) none (some 62))) r hp
    refine k _ _ _ _ _ sh (walk_list (.inr rfl) upd_same ?_) h
    exact (RepAll.ofInts ns).cut none (some 62)
  · obtain ⟨ms, e1, e2⟩ : ∃ ms : List Int, cutD (ns.map PyData.int) none (some 62) = ms.map .int ∧ ms.length ≤ 62 := by
      refine ⟨(ns.drop (HT.sIx (ns.map PyData.int).length 0 none)).take (HT.sIx (ns.map PyData.int).length (ns.map PyData.int).length (some 62) - HT.sIx (ns.map PyData.int).length 0 none), ?_, ?_⟩
      · unfold cutD
        rw [← List.map_drop, ← List.map_take]
      · rw [List.length_take, HT.sIx_none, show (62 : Int) = ((62 : Nat) : Int) from rfl, HT.sIx_nat]
        omega
    simp
    rw [e1]
    refine compW_all PyData.int (fun m => .int (cellF m)) ms (by omega) (fun m hm N hN => ?_) ?_
    · simp
      refine ⟨cm_small (by omega), ?_⟩
      unfold cellF at hN
      by_cases h0 : m < 0
      · simp [h0] at hN ⊢
        exact .inr (.inr hN)
      · simp [h0] at hN ⊢
        exact .inr ⟨by omega, hN⟩
    · refine ⟨ms.map cellF, by rw [List.map_map]; rfl, rfl, by rw [List.length_map]; exact e2, fun m hm => ?_⟩
      obtain ⟨z, _, rfl⟩ := List.mem_map.mp hm
      exact cellF_nn z
  · cases e1
    subst e2
    exact hQ ms F' H' x e3 e4 e q
abbrev potFor (q29 q30 q31 q32 q33 q34 q35 q36 q37 q38 q39 q40 q41 q42 q43 q44 : Pos) : Stmt := .For (.Name "cell" q29) (.Name "cells" q30) [.Assign [(.Name "seal" q31)] (.BinOp (.Call (.Name "int" q32) [(.BinOp (.BinOp (.BinOp (.Name "seal" q33) .Mult (.Constant (.int 48271) 0 q34) q35) .Add (.Name "cell" q36) q37) .Add (.Constant (.int 5) 0 q38) q39)] [] q40) .Mod (.Constant (.int 4294967291) 0 q41) q42) q43] [] q44
theorem pot_for : SS CPot (potFor q29 q30 q31 q32 q33 q34 q35 q36 q37 q38 q39 q40 q41 q42 q43 q44) (dFor (dSeqI (dVar 1)) (tName 3) (dSeq (dSet 2 (dBin oMod (dUn oInt (dBin oAdd (dBin oAdd (dBin oMul (dVar 2) (dC (.int 48271))) (dVar 3)) (dC (.int 5)))) (dC (.int 4294967291)))) dNext)) :=
  cs_get (n := 60) (by kernel_rfl)
abbrev potGreat (q48 q49 q50 q51 q52 q53 q54 q55 q56 q57 q58 q59 q60 : Pos) : Expr := (.Subscript (.ListComp (.Name "own" q48) [⟨(.Name "own" q49), (.Name "cells" q50), [(.Compare (.Name "own" q51) [.GtE] [(.BinOp (.Constant (.int 10) 0 q52) .Pow (.Constant (.int 17) 0 q53) q54)] q55)], 0⟩] (scPot2) q56) (.Slice none none (some (.UnaryOp .USub (.Constant (.int 1) 0 q57) q58)) q59) q60)
theorem pot_great : SO CPot (potGreat q48 q49 q50 q51 q52 q53 q54 q55 q56 q57 q58 q59 q60) (dUn oRev (dLc [4] (dSeqI (dVar 1)) (tName 4) (dTst (dBin oGe (dVar 4) (dBin oPow (dC (.int 10)) (dC (.int 17))))) (dVar 4))) :=
  ce_get (n := 60) (by kernel_rfl)
theorem mergeK_pot {g : Addr} {s : Int} : mergeK [] [(kGreat, V.ref g), (kSeal, V.int s), (kTurn, V.int 0)] = potKv g s 0 := by
  have a1 : decide (kGreat = kSeal) = false := by decide
  have a2 : decide (kGreat = kTurn) = false := by decide
  have a3 : decide (kSeal = kTurn) = false := by decide
  unfold mergeK potKv
  simp only [List.foldl_cons, List.foldl_nil, putK, List.any_nil, List.any_cons, a1, a2, a3, Bool.false_eq_true, if_false, Bool.or_false, List.nil_append, List.cons_append]
theorem pot_body (fx : Fits CPot X) (kd : X.env.scope.kind = .function) (hS : SqL X.K H a (ns.map V.int)) (hl : ns.length ≤ 63) (hpos : q0.line = q1.line) (hQ : ∀ H' p g, PotOk H' p g → D.rt (.ref p) H') :
    wB X [.Assign [(.Tuple [(.Name "cells" q0), (.Name "seal" q1)] 0 q2)] (.Tuple [potComp q3 q4 q5 q6 q7 q8 q9 q10 q11 q12 q13 q14 q15 q16 q17 q18 q19, (.BinOp (.Constant (.int 19597) 0 q20) .Add (.BinOp (.Constant (.int 467) 0 q21) .Mult (.Call (.Name "len" q22) [(.Name "script" q23)] [] q24) q25) q26)] 0 q27) q28,
      potFor q29 q30 q31 q32 q33 q34 q35 q36 q37 q38 q39 q40 q41 q42 q43 q44,
      .Return (some (.Dict [some (.Constant (.str "great") 0 q45), some (.Constant (.str "seal") 0 q46), some (.Constant (.str "turn") 0 q47)] [potGreat q48 q49 q50 q51 q52 q53 q54 q55 q56 q57 q58 q59 q60, (.Name "seal" q61), (.Constant (.int 0) 0 q62)] q63)) q64] D [some (V.ref a), none, none, none, none] H := by
  have r0 : R none (fun _ => False) [none, none, none, none, none] [some (V.ref a), none, none, none, none] H := by
    have nn : ∀ (i : Nat) (v : Val), ([none, none, none, none, none] : Env)[i]? = some (some v) → False := fun i v e => by
      rcases i with _ | _ | _ | _ | _ | i <;> simp at e
    exact ⟨rfl, fun i v e => (nn i v e).elim, fun i j v w c e => (nn i v e).elim, fun c z => z.elim, fun p g e => by cases e⟩
  have l1 : CPot.sc.names.lookup ("cells" : Str) = some .local := by decide +kernel
  have l2 : CPot.sc.names.lookup ("seal" : Str) = some .local := by decide +kernel
  have l0 : CPot.sc.names.lookup ("script" : Str) = some .local := by decide +kernel
  have gl : CPot.sc.names.lookup ("len" : Str) = some .globalImplicit := by decide +kernel
  refine wb_of (pss_cons (ps_par (i := 1) (j := 2) fx.calm fx.nd (by rw [fx.n]; rfl) (by rw [fx.n]; rfl) (by decide) (by rw [fx.sc]; exact l1) (by rw [fx.sc]; exact l2)
    (pa_cons pe_w (pa_cons (pe_op op_add pe_int (pe_op op_mul pe_int (pe_callB call_len_seq (gl_of fx gl) (bn_of fx (by decide)) (by decide +kernel) (pa_cons (pe_var (i := 0) (by rw [fx.n]; rfl) (by rw [fx.sc]; exact .inl l0)) pa_nil)))) pa_nil))
    (swp_some2 l1 l2 hpos (by decide) rfl rfl rfl rfl X.env fx.sc kd)) pb_w) ?_
  refine pot_comp fx r0 hS fun ms F1 H1 x m1 m2 e1 q1 => ?_
  have no0 : ∀ c, ¬ OwnS [none, none, none, none, none] [some (V.ref a), none, none, none, none] c := fun c ⟨i, v, e, _⟩ => by
    rcases i with _ | _ | _ | _ | _ | i <;> simp at e
  have s1 : SqL X.K H1 a (ns.map V.int) := SqL.stay hS fun o e => e1.keep a o e (no0 a) (fun z => by obtain ⟨p, g, z, _⟩ := z; cases z)
  refine ⟨_, rfl, a, ns.map V.int, rfl, .inl s1, 467, _, rfl, rfl, .inl ⟨by decide, by decide⟩, 19597, _, rfl, rfl, _, _, rfl, ?_⟩
  have rs0 : RS none (fun _ => False) H (fun _ => False) [none, none, none, none, none] [some (V.ref a), none, none, none, none] H := ⟨r0, fun _ _ e _ => e, fun _ o e => ⟨o, e⟩, fun _ e => e, fun _ e => .inl e, fun c z => (no0 c z).elim⟩
  have rs1 := rs0.put e1 q1 (i := 1) (by decide)
  have bnd : (0 : Int) ≤ 19597 + 467 * ((ns.map V.int).length : Int) ∧ 19597 + 467 * ((ns.map V.int).length : Int) < 4294967291 := by rw [List.length_map]; omega
  generalize hsl : (19597 + 467 * ((ns.map V.int).length : Int)) = sl at bnd
  have rs2 := rs1.put (Ext.refl rs1.r) (Res.imm (z := .int sl) (x := V.int sl) (by simp only [RepD])) (i := 2) (by simp)
  show wB X _ D ((([some (V.ref a), none, none, none, none] : L2.St).set 1 (some x)).set 2 (some (V.int (19597 + 467 * ((ns.map V.int).length : Int))))) H1
  rw [hsl]
  refine wb_of (pss_cons ps_w pb_w) ?_
  refine pot_for X fx none _ H F1 _ _ H1 _ { nx := fun env => ∃ (s : Int) (z : Option Val), 0 ≤ s ∧ s < 4294967291 ∧ env = [none, some (.d (.list (ms.map .int))), some (.d (.int s)), z, none], rt := fun _ => False, bk := fun _ => False, ct := fun _ => False } rs2 ?_ ⟨fun env' F' σ' H' r' l hn => ?_, fun _ _ _ _ _ _ z => z.elim, fun _ _ _ _ _ _ z => z.elim, fun _ _ _ _ _ _ z => z.elim⟩
  · simp
    refine forW_map PyData.int (fun r e => ∃ (s : Int) (z : Option Val), 0 ≤ s ∧ s < 4294967291 ∧ e = [none, some (.d (.list (ms.map .int))), some (.d (.int s)), z, none]) ?_ ?_ ms _ ⟨sl, none, bnd.1, bnd.2, rfl⟩
    · rintro e ⟨s, z, h1, h2, rfl⟩
      first | exact ⟨s, z, h1, h2, rfl⟩ | exact ⟨s, h1, h2, z, rfl⟩
    · rintro m r e ⟨s, z, h1, h2, rfl⟩ N hN
      simp
      have b := lt0 (a := 4294967291) (by decide) (s * 48271 + m + 5)
      exact ⟨cm_small' (by omega), .inl (hN _ ⟨_, _, b.1, b.2, rfl⟩)⟩
  · obtain ⟨s, z, h1, h2, rfl⟩ := hn
    have σ2 : σ'[2]? = some (some (V.int s)) := by
      obtain ⟨y, sy, ry⟩ := r'.r.rep 2 (.d (.int s)) rfl
      have ry : RepD F' H' (.int s) y := ry
      simp only [RepD] at ry
      rw [← ry]; exact sy
    refine wb_of (pss_one (ps_ret (pe_disp (pps_cons pe_str pe_w (pps_cons pe_str (pe_var (i := 2) (by rw [fx.n]; rfl) (by rw [fx.sc]; exact .inl l2)) (pps_cons pe_str pe_int pps_nil))) rfl rfl (by simp) (by simp)))) ?_
    intro p hp
    have lone := Ext.lone (o := .dK []) r'.r hp
    have np : ¬ OwnS [none, some (.d (.list (ms.map .int))), some (.d (.int s)), z, none] σ' p := r'.r.freshO hp
    refine pot_great X fx none F' _ σ' _ _ (fun rv env2 => ∃ gs : List Int, rv = .v (.own (gs.map .int)) ∧ gs.length ≤ 62 ∧ ∀ m ∈ gs, 0 ≤ m) lone.r ?_ fun rv env2 F2 H2 y e2 q2 ⟨gs, er, g1, g2⟩ => ?_
    · simp
      refine compW_map PyData.int (fun m => decide ((10 : Int) ^ 17 ≤ m)) (fun m : Int => .int m) ms [] (by simp; omega) (fun m hm N S hN hS => ?_) ?_
      · have cp : CPow 10 17 := by constructor <;> decide
        have e17 : (17 : Int).toNat = 17 := rfl
        simp [cp, e17]
        by_cases c : (10 : Int) ^ 17 ≤ m
        · exact .inr ⟨by omega, hN (decide_eq_true c)⟩
        · exact .inl ⟨by omega, hS (decide_eq_false c)⟩
      · refine ⟨(ms.filter fun m => decide ((10 : Int) ^ 17 ≤ m)).reverse, by simp [List.map_reverse], ?_, fun m hm => ?_⟩
        · rw [List.length_reverse]
          exact Nat.le_trans (List.length_filter_le _ _) m1
        · exact m2 m (List.mem_filter.mp (List.mem_reverse.mp hm)).1
    · subst er
      obtain ⟨g, vs, rfl, nF, hg, rr⟩ := q2.rep
      have ev := rr.ints
      subst ev
      have hp2 : H2 p = some (.dK []) := e2.keep p _ upd_same np (fun z => by obtain ⟨p, g, z, _⟩ := z; cases z)
      have gp : p ≠ g := fun z => by subst z; rw [hp2] at hg; cases hg
      refine ⟨_, σ2, ⟨hp2, [(kGreat, V.ref g), (kSeal, V.int s), (kTurn, V.int 0)], rfl, by simp, ?_⟩⟩
      rw [mergeK_pot]
      refine hQ _ p g ⟨gs, s, 0, upd_same, by rw [upd_ne (Ne.symm gp)]; exact hg, g2, g1, h1, h2, by omega⟩
end
/-! ### both, as they stand in a module -/
section
variable {P : Program} {w : World} {K : PySem.W.Frag} {mg : Str → Option Value} {base : Heap} {k : Nat} {fns : List FnS} {glb : List (Str × Int)} {a : Addr} {fd : FuncData} {nm : Str} {st : Stmt}
def sp_draw : FSpec := fun args Φ => ∃ m : Nat, args = [.pot, .d (.int m)] ∧ 0 < m ∧ m < 2 ^ 30 ∧ ∀ r : Nat, r < m → Φ (.d (.int r))
end
end Ev
set_option Elab.async false
set_option linter.all false
set_option maxRecDepth 100000
/-! Ev16: the pot and the draw as they stand in a module. -/
namespace Ev
open PySem PySem.Spec PyProof.Rows L2

def scDraw : Scope := { kind := .function, names := [("pot", .local), ("many", .local), ("great", .local), ("cell", .local), ("own", .local), ("int", .globalImplicit)], isGenerator := false, isCoroutine := false, more := [] }
abbrev drawTxt (q0 q1 q2 q3 q4 q5 q6 q7 q8 q9 q10 q11 q12 q13 q14 q15 q16 q17 q18 q19 q20 q21 q22 q23 q24 q25 q26 q27 q28 q29 q30 q31 q32 q33 q34 q35 q36 q37 q38 q39 q40 q41 q42 q43 q44 q45 q46 q47 q48 q49 q50 q51 q52 q53 q54 q55 q56 q57 q58 q59 q60 q61 q62 q63 q64 q65 q66 q67 q68 q69 q70 q71 q72 q73 q74 q75 q76 q77 q78 q79 q80 q81 q82 q83 q84 q85 q86 q87 q88 q89 q90 q91 q92 q93 q94 q95 q96 : Pos) : List Stmt := [.Assign [(.Name "great" q0)] (.Subscript (.Name "pot" q1) (.Constant (.str "great") 0 q2) q3) q4,
   .If (.Compare (.Name "great" q5) [.NotEq] [(.List [] q6)] q7) [.Assign [(.Name "cell" q8)] (.Call (.Attribute (.Name "great" q9) "pop" q10) [] [] q11) q12, .If (.Compare (.Name "cell" q13) [.GtE] [(.Name "many" q14)] q15) [.Expr (.Call (.Attribute (.Name "great" q16) "append" q17) [(.BinOp (.Name "cell" q18) .FloorDiv (.Name "many" q19) q20)] [] q21) q22] [] q23, .Return (some (.BinOp (.Call (.Name "int" q24) [(.Name "cell" q25)] [] q26) .Mod (.Name "many" q27) q28)) q29] [] q30,
   .Assign [(.Subscript (.Name "pot" q31) (.Constant (.str "turn") 0 q32) q33)] (.BinOp (.Subscript (.Name "pot" q34) (.Constant (.str "turn") 0 q35) q36) .Add (.Constant (.int 1) 0 q37) q38) q39,
   .Assign [(.Name "own" q40)] (.BinOp (.Call (.Name "int" q41) [(.BinOp (.BinOp (.BinOp (.Subscript (.Name "pot" q42) (.Constant (.str "seal") 0 q43) q44) .Mult (.Constant (.int 69621) 0 q45) q46) .Add (.BinOp (.Subscript (.Name "pot" q47) (.Constant (.str "turn") 0 q48) q49) .Mult (.Constant (.int 40503) 0 q50) q51) q52) .Add (.Constant (.int 29) 0 q53) q54)] [] q55) .Mod (.Constant (.int 4294967279) 0 q56) q57) q58,
   .Assign [(.Name "own" q59)] (.BinOp (.Call (.Name "int" q60) [(.BinOp (.BinOp (.Name "own" q61) .Mult (.Name "own" q62) q63) .Add (.BinOp (.Subscript (.Name "pot" q64) (.Constant (.str "seal") 0 q65) q66) .Mult (.Constant (.int 7) 0 q67) q68) q69)] [] q70) .Mod (.Constant (.int 4294967231) 0 q71) q72) q73,
   .Assign [(.Subscript (.Name "pot" q74) (.Constant (.str "seal") 0 q75) q76)] (.BinOp (.Call (.Name "int" q77) [(.BinOp (.BinOp (.Subscript (.Name "pot" q78) (.Constant (.str "seal") 0 q79) q80) .Mult (.Constant (.int 48271) 0 q81) q82) .Add (.Name "own" q83) q84)] [] q85) .Mod (.Constant (.int 4294967291) 0 q86) q87) q88,
   .Return (some (.BinOp (.Call (.Name "int" q89) [(.BinOp (.Name "own" q90) .FloorDiv (.Constant (.int 64) 0 q91) q92)] [] q93) .Mod (.Name "many" q94) q95)) q96]
abbrev potTxt (q0 q1 q2 q3 q4 q5 q6 q7 q8 q9 q10 q11 q12 q13 q14 q15 q16 q17 q18 q19 q20 q21 q22 q23 q24 q25 q26 q27 q28 q29 q30 q31 q32 q33 q34 q35 q36 q37 q38 q39 q40 q41 q42 q43 q44 q45 q46 q47 q48 q49 q50 q51 q52 q53 q54 q55 q56 q57 q58 q59 q60 q61 q62 q63 q64 : Pos) : List Stmt := [.Assign [(.Tuple [(.Name "cells" q0), (.Name "seal" q1)] 0 q2)] (.Tuple [potComp q3 q4 q5 q6 q7 q8 q9 q10 q11 q12 q13 q14 q15 q16 q17 q18 q19, (.BinOp (.Constant (.int 19597) 0 q20) .Add (.BinOp (.Constant (.int 467) 0 q21) .Mult (.Call (.Name "len" q22) [(.Name "script" q23)] [] q24) q25) q26)] 0 q27) q28,
      potFor q29 q30 q31 q32 q33 q34 q35 q36 q37 q38 q39 q40 q41 q42 q43 q44,
      .Return (some (.Dict [some (.Constant (.str "great") 0 q45), some (.Constant (.str "seal") 0 q46), some (.Constant (.str "turn") 0 q47)] [potGreat q48 q49 q50 q51 q52 q53 q54 q55 q56 q57 q58 q59 q60, (.Name "seal" q61), (.Constant (.int 0) 0 q62)] q63)) q64]
section
variable {P : Program} {w : World} {K : PySem.W.Frag} {mg : Str → Option Value} {base : Heap} {glb : List (Str × Int)} {a : Addr} {fd : FuncData} {st : Stmt}
variable {q0 q1 q2 q3 q4 q5 q6 q7 q8 q9 q10 q11 q12 q13 q14 q15 q16 q17 q18 q19 q20 q21 q22 q23 q24 q25 q26 q27 q28 q29 q30 q31 q32 q33 q34 q35 q36 q37 q38 q39 q40 q41 q42 q43 q44 q45 q46 q47 q48 q49 q50 q51 q52 q53 q54 q55 q56 q57 q58 q59 q60 q61 q62 q63 q64 q65 q66 q67 q68 q69 q70 q71 q72 q73 q74 q75 q76 q77 q78 q79 q80 q81 q82 q83 q84 q85 q86 q87 q88 q89 q90 q91 q92 q93 q94 q95 q96 : Pos}
theorem draw_ok (m : Mods K mg glb) (T : TextAt K mg "_law_draw" "_law_draw" st a fd) (hsc : defScope st = scDraw) (hbody : defBody st = drawTxt q0 q1 q2 q3 q4 q5 q6 q7 q8 q9 q10 q11 q12 q13 q14 q15 q16 q17 q18 q19 q20 q21 q22 q23 q24 q25 q26 q27 q28 q29 q30 q31 q32 q33 q34 q35 q36 q37 q38 q39 q40 q41 q42 q43 q44 q45 q46 q47 q48 q49 q50 q51 q52 q53 q54 q55 q56 q57 q58 q59 q60 q61 q62 q63 q64 q65 q66 q67 q68 q69 q70 q71 q72 q73 q74 q75 q76 q77 q78 q79 q80 q81 q82 q83 q84 q85 q86 q87 q88 q89 q90 q91 q92 q93 q94 q95 q96)
    (hb : ∀ (kV doc pm : Value) (an : Option Addr) (cdv ct : Value) (us : List Value), us.length = 2 → bindArgs (PySem.W.fnOf "_law_draw" "_law_draw" (defArgs st) (defBody st) (defScope st) .none kV doc pm an cdv ct) ⟨us, []⟩ = pure ((["pot", "many"] : List Str).zip us))
    (hl1 : (q10.endLine == q11.line) = true) (hl2 : (q17.endLine == q21.line) = true) : OkAt P w K mg base 1 ⟨"_law_draw", ["pot", "many"], sp_law_draw⟩ := by
  have S : FnScope DN ["pot", "many"] (defScope st) := by rw [hsc]; exact ⟨rfl, rfl, rfl, by decide +kernel, rfl, by decide +kernel, by decide +kernel⟩
  refine ⟨a, fd, T.fun_.ok (k := 0) S (fun vs H Q E q => q.1) (fun cdv A outer s H vs Q E hr q => ?_), T.mg, T.fun_.kp, T.fun_.bindsN hb⟩
  obtain ⟨hl, G, F, args, Φ, cb, rv, ⟨mm, rfl, h0, h1, hr2⟩, hQ⟩ := q
  refine ⟨_, PSs.nox (pb_w (X := (cxOf CX0 P w K mg base DN "_law_draw" (defScope st) a cdv A outer s H E).nox)), ?_⟩
  have fx := fits_of (fns := []) (own := DN) (g := false) (E := E) (outer := outer) (H := H) (f := a) (cd := cdv) (s := s) (A := A) (qual := "_law_draw") m (AllOk.nil (P := P) (w := w) (base := base)) S.nd S.kind hr (fun z => by cases z)
  obtain ⟨x, r, rfl, ⟨r1, _⟩, r2⟩ := rv
  obtain ⟨y, r', rfl, ⟨r3, _⟩, r4⟩ := r2
  have r4 : r' = [] := r4
  subst r4
  obtain ⟨p, g, eG, rfl⟩ := r1
  have r3 : RepD F H (.int (mm : Int)) y := r3
  simp only [RepD] at r3
  subst r3
  obtain ⟨po, n1, n2⟩ := cb.pt p g eG
  have hne : p ≠ g := fun z => by
    subst z
    obtain ⟨_, _, _, e1, e2, _⟩ := po
    rw [e1] at e2; cases e2
  have lk : ∀ x ∈ ([("pot", .local), ("many", .local), ("great", .local), ("cell", .local), ("own", .local), ("int", .globalImplicit)] : List (Str × NameKind)), (defScope st).names.lookup x.1 = some x.2 := by rw [hsc]; decide +kernel
  have gi : (defScope st).names.lookup ("int" : Str) = some .globalImplicit := lk ("int", .globalImplicit) (by simp)
  have sc : DrawSc (cxOf CX0 P w K mg base DN "_law_draw" (defScope st) a cdv A outer s H E).nox := ⟨rfl, lk ("pot", .local) (by simp), lk ("many", .local) (by simp), lk ("great", .local) (by simp), lk ("cell", .local) (by simp), lk ("own", .local) (by simp), gl_of fx gi, bn_of fx (by decide), fx.units⟩
  rw [hbody]
  refine draw_body sc po hne (by omega) (by omega) hl1 hl2 fun r H' ad k0 k1 => ?_
  refine hQ (.d (.int r)) F H' (.int r) ⟨fun b o e n => ad.keep b o e (fun z => n ⟨p, g, eG, .inl z⟩) (fun z => n ⟨p, g, eG, .inr z⟩), ad.live, fun _ h => h, fun _ h => .inl h, fun b fb => ?_, fun p' g' e => by rw [eG] at e; cases e; exact ad.ok⟩ ⟨by simp only [RepV, RepD], fun z => by cases z⟩ ?_
  · obtain ⟨o, e⟩ := cb.al b fb
    exact ad.live b o e
  · obtain ⟨n, rfl⟩ := Int.eq_ofNat_of_zero_le k0
    exact hr2 n (by omega)
theorem pot_ok (m : Mods K mg glb) (T : TextAt K mg "_law_pot" "_law_pot" st a fd) (hsc : defScope st = scPot) (hbody : defBody st = potTxt q0 q1 q2 q3 q4 q5 q6 q7 q8 q9 q10 q11 q12 q13 q14 q15 q16 q17 q18 q19 q20 q21 q22 q23 q24 q25 q26 q27 q28 q29 q30 q31 q32 q33 q34 q35 q36 q37 q38 q39 q40 q41 q42 q43 q44 q45 q46 q47 q48 q49 q50 q51 q52 q53 q54 q55 q56 q57 q58 q59 q60 q61 q62 q63 q64) (hpos : q0.line = q1.line) : FnOk P w K mg base CX0 1 a fd ["script"] (spPot K) := by
  have S : FnScope PN ["script"] (defScope st) := by rw [hsc]; exact ⟨rfl, rfl, rfl, by decide +kernel, rfl, by decide +kernel, by decide +kernel⟩
  refine T.fun_.ok (k := 0) S (fun vs H Q E ⟨c, ns, e, _⟩ => by rw [e]; rfl) (fun cdv A outer s H vs Q E hr q => ?_)
  obtain ⟨c, ns, rfl, hS, hl, hQ⟩ := q
  refine ⟨_, PSs.nox (pb_w (X := (cxOf CX0 P w K mg base PN "_law_pot" (defScope st) a cdv A outer s H E).nox)), ?_⟩
  have fx := fits_of (fns := []) (glb := glb) (own := PN) (g := false) (E := E) (outer := outer) (H := H) (f := a) (cd := cdv) (s := s) (A := A) (qual := "_law_pot") m (AllOk.nil (P := P) (w := w) (base := base)) S.nd S.kind hr (fun z => by cases z)
  have fx2 : Fits CPot (cxOf CX0 P w K mg base PN "_law_pot" (defScope st) a cdv A outer s H E).nox := ⟨fx.n, fx.nd, hsc, fx.kind, fx.calm, fx.xe, fx.fn, fx.blt, (fun p hp => by cases hp), (fun f hf => by cases hf), (fun z => by cases z), fx.units⟩
  rw [hbody]
  exact pot_body fx2 S.kind hS hl hpos fun H' p g po => hQ H' p g po
end
end Ev
set_option Elab.async false
set_option linter.all false
set_option maxRecDepth 100000
/-! V14: the law's trees. -/
namespace Ev
open PySem PySem.Spec PyProof.Rows L2

/-- a comprehension whose items are told by a property alone -/
theorem compW_any {α : Type} {dt : DT} {de : DO} {vs : List Nat} {Φ : List PyData → Env → Prop} {env : Env} (f : α → PyData) (P : PyData → Prop) :
    ∀ (l : List α) (acc : List PyData), acc.length + l.length ≤ 16777216 →
    (∀ x ∈ l, ∀ (N : PyData → Env → Prop), (∀ d, P d → N d env) → dt (f x) env fun e1 => de e1 fun r e3 => shR r e3 fun v e4 => ∃ d, v = .d d ∧ N d (wipeE e4 vs)) →
    (∀ ds : List PyData, ds.length = l.length → (∀ d ∈ ds, P d) → Φ (acc ++ ds) env) → compW dt dYes de vs (l.map f) env acc Φ
  | [], acc, _, _, h => by simpa [compW] using h [] rfl (fun d hd => by cases hd)
  | x :: xs, acc, hl, hs, h => by
    have hl' : acc.length + (xs.length + 1) ≤ 16777216 := by simpa using hl
    have := hs x (List.mem_cons_self ..) (fun d e => acc.length < 16777216 ∧ compW dt dYes de vs (xs.map f) e (acc ++ [d]) Φ) (fun d hd => ⟨by omega, compW_any f P xs (acc ++ [d]) (by simp; omega) (fun y hy => hs y (List.mem_cons_of_mem _ hy)) fun ds e1 e2 => by
      have := h (d :: ds) (by simp [e1]) (fun z hz => by
        rcases List.mem_cons.mp hz with rfl | hz
        · exact hd
        · exact e2 z hz)
      simpa using this⟩)
    simpa [compW] using this
theorem bits_of {ds : List PyData} (h : ∀ d ∈ ds, ∃ r : Nat, r < 2 ∧ d = .int r) : ∃ xs : List Int, ds = xs.map .int ∧ Bits xs := by
  induction ds with
  | nil => exact ⟨[], rfl, .nil⟩
  | cons d ds ih =>
    obtain ⟨xs, rfl, hx⟩ := ih fun e he => h e (List.mem_cons_of_mem _ he)
    obtain ⟨r, hr, rfl⟩ := h d (List.mem_cons_self ..)
    refine ⟨(r : Int) :: xs, rfl, fun b hb => ?_⟩
    rcases List.mem_cons.mp hb with rfl | hb
    · omega
    · exact hx b hb

def sp_law_place : FSpec := sp_row_place
def D_law_weight : DS := (dSeq (dSet 2 (dBin oSub (dUn oBits (dUn oLen (dVar 0))) (dC (.int 1)))) (dSeq (dSet 3 (dBin oShl (dCall 1 sp_law_place (dCons (dVar 1) dNil)) (dBin oSub (dVar 2) (dUn oLen (dVar 1))))) (dSeq (dRet (dUn oSum (dLc [4] (dSeqI (dSl (dVar 0) (dSomeP (dVar 3)) (dSomeP (dBin oAdd (dVar 3) (dBin oShl (dC (.int 1)) (dBin oSub (dVar 2) (dUn oLen (dVar 1)))))))) (tName 4) dYes (dBin oMul (dVar 4) (dVar 4))))) dNext)))
def sp_law_weight : FSpec := fun args Φ => ∃ (n k p : Nat) (v : Nat → Int), args = [.d (TI (tab (2 ^ n) v)), .d (TI (rowN k p))] ∧ n ≤ 20 ∧ k ≤ n ∧ p < 2 ^ k ∧ Lim (2 ^ n) v ∧ Φ (.d (.int (wt n v k p)))
theorem v_law_weight (args : List Val) (Φ : Val → Prop) (h : sp_law_weight args Φ) : D_law_weight (kRet Φ) (envS ["values", "begin", "n", "low", "own"] args) := by
  obtain ⟨n, k, p, v, rfl, hn, hk, hp, hv, hΦ⟩ := h
  have tl : ((tab (2 ^ n) v).length : Int) = ((2 ^ n : Nat) : Int) := by rw [tab_length]
  have bl := bits_pow n
  have le := part_le hk hp
  have l20 := len20 hn
  have pm : 2 ^ (n - k) ≤ 2 ^ n := two_le (by omega)
  have p0 := Nat.two_pow_pos (n - k)
  have ep : ((n : Int) - k).toNat = n - k := by omega
  have pp : p < 2 ^ 20 := Nat.lt_of_lt_of_le hp (two_le (by omega))
  simp only [D_law_weight, envS]
  generalize ha : ((2 ^ n : Nat) : Int) = a at *
  simp [tl, bl, rowN_length]
  refine ⟨rowN k p, rfl, ?_⟩
  rw [place_rowN k p hp]
  simp [rowN_length]
  refine ⟨⟨by omega, by omega, by omega⟩, ⟨by omega, by omega, by decide⟩, ?_⟩
  rw [← two_cast, show (p : Int) * ((2 ^ (n - k) : Nat) : Int) = ((p * 2 ^ (n - k) : Nat) : Int) by push_cast; rfl]
  unfold wt at hΦ
  generalize hm : 2 ^ (n - k) = m at *
  rw [cut_tab le]
  refine compW_ints (fun i => .int (v (p * m + i) * v (p * m + i))) (by omega) (fun i hi M hM => ?_) (sum_tab (by simpa using hΦ))
  have b := hv (p * m + i) (by omega)
  simp
  exact ⟨cm_small (by omega), hM⟩
def rowsL (n : Nat) (v : Nat → Int) (c : Int) (k : Nat) : List PyData := (lvl n v c k).map fun p => TI (rowN k p)
def sp_law_tree : FSpec := fun args Φ => ∃ (n c : Nat) (v : Nat → Int), args = [.d (TI (tab (2 ^ n) v)), .d (.int n), .d (.int c)] ∧ n ≤ 12 ∧ c ≤ 1048576 ∧ Lim (2 ^ n) v ∧ Φ (.d (T (treeD n v c)))
def D_law_tree : DS := (dSeq (dPar2 3 4 (dLst dNil) (dLst (dCons (dTup dNil) dNil))) (dSeq (dFor (dRng1 (dCons (dBin oAdd (dVar 1) (dC (.int 1))) dNil)) (tName 5) (dSeq (dSet 6 (dLc [7] (dSeqI (dVar 4)) (tName 7) dYes (dTup (dCons (dVar 7) (dCons (dCall 2 sp_law_weight (dCons (dVar 0) (dCons (dVar 7) dNil))) dNil))))) (dSeq (dExpr (dExt 3 (dVar 6))) (dSeq (dSet 4 (dLst dNil)) (dSeq (dFor (dSeqI (dVar 6)) (tTup 2 (tCons (tName 7) (tCons (tName 8) tNil))) (dSeq (dExpr (dExt 4 (dIf (dTst (dBin oGe (dVar 8) (dBin oMul (dVar 2) (dVar 2)))) (dLst (dCons (dBin oAdd (dVar 7) (dTup (dCons (dC (.int 0)) dNil))) (dCons (dBin oAdd (dVar 7) (dTup (dCons (dC (.int 1)) dNil))) dNil))) (dLst dNil)))) dNext)) dNext))))) (dSeq (dRet (dUn oTuple (dVar 3))) dNext)))
abbrev B_lt_in : DS := (dSeq (dExpr (dExt 4 (dIf (dTst (dBin oGe (dVar 8) (dBin oMul (dVar 2) (dVar 2)))) (dLst (dCons (dBin oAdd (dVar 7) (dTup (dCons (dC (.int 0)) dNil))) (dCons (dBin oAdd (dVar 7) (dTup (dCons (dC (.int 1)) dNil))) dNil))) (dLst dNil)))) dNext)
theorem ltree_in {K : KE} {n c k : Nat} {v : Nat → Int} {e0 e1 e3 e5 e6 : Val} (hc : c ≤ 1048576) (hk : k ≤ 12)
    (h : ∀ (z7 : Option PyData) z8, K.nx [some e0, some e1, some (.d (.int c)), some e3, some (.own (rowsL n v c (k + 1))), some e5, some e6, z7.map Val.d, z8]) (z7 : Option PyData) (z8 : Option Val) :
    forW (tTup 2 (tCons (tName 7) (tCons (tName 8) tNil))) B_lt_in K (lvD n v c k) [some e0, some e1, some (.d (.int c)), some e3, some (.own []), some e5, some e6, z7.map Val.d, z8] := by
  have p12 : 2 ^ k ≤ 4096 := by have := two_le hk; simpa using this
  have ll := lvl_len (n := n) (v := v) (c := (c : Int)) k
  refine forW_map (itm n v k) (fun r e => ∃ (done : List Nat) (z7 : Option PyData) (z8 : Option Val), e = [some e0, some e1, some (.d (.int c)), some e3, some (.own ((done.flatMap fun p => if (c : Int) * c ≤ wt n v k p then [2 * p, 2 * p + 1] else []).map fun p => TI (rowN (k + 1) p))), some e5, some e6, z7.map Val.d, z8] ∧ done ++ r = lvl n v c k) ?_ ?_ (lvl n v c k) _ ⟨[], z7, z8, rfl, rfl⟩
  · rintro e ⟨done, y7, y8, rfl, h2⟩
    rw [List.append_nil] at h2
    subst h2
    exact h y7 y8
  · rintro p r e ⟨done, y7, y8, rfl, h2⟩ N hN
    have hd : done.length ≤ 4096 := by
      have : done.length ≤ (lvl n v c k).length := by rw [← h2]; simp
      omega
    have gl := grow_len (fun p => if (c : Int) * c ≤ wt n v k p then [2 * p, 2 * p + 1] else []) (fun a => by split <;> simp) done
    have hp : p < 2 ^ k := lvl_lt (n := n) (v := v) (c := c) (by rw [← h2]; simp)
    rw [List.length_flatMap] at gl
    by_cases hw : (c : Int) * c ≤ wt n v k p
    · have hw2 : ¬ wt n v k p < (c : Int) * c := by omega
      simp [itm, and_assoc, hw, hw2, rowN_length]
      rw [row_0, row_1]
      refine ⟨cm_small (by omega), by omega, by omega, hN _ ⟨done ++ [p], some (TI (rowN k p)), some (.d (I (wt n v k p))), ?_, by simpa using h2⟩⟩
      simp [hw]
    · have hw2 : wt n v k p < (c : Int) * c := by omega
      simp [itm, and_assoc, hw, hw2]
      refine ⟨cm_small (by omega), by omega, hN _ ⟨done ++ [p], some (TI (rowN k p)), some (.d (I (wt n v k p))), ?_, by simpa using h2⟩⟩
      simp [hw]
theorem v_law_tree (args : List Val) (Φ : Val → Prop) (h : sp_law_tree args Φ) : D_law_tree (kRet Φ) (envS ["values", "n", "least", "found", "level", "size", "own", "begin", "weight"] args) := by
  obtain ⟨n, c, v, rfl, hn, hc, hv, hΦ⟩ := h
  simp [D_law_tree, envS]
  refine ⟨by omega, by omega, ?_⟩
  refine forW_range _ (n + 1) (fun k e => ∃ (w : Val) (z5 z6 : Option Val) (z7 : Option PyData) (z8 : Option Val), e = [some (.d (TI (tab (2 ^ n) v))), some (.d (.int n)), some (.d (.int c)), some (.own ((List.range k).flatMap fun j => lvD n v c j)), some w, z5, z6, z7.map Val.d, z8] ∧ toL w = some (rowsL n v c k)) ?_ ?_ _ ⟨.own [TI []], none, none, none, none, rfl, rfl⟩
  · rintro e ⟨w, z5, z6, z7, z8, rfl, hw⟩
    simp
    exact hΦ
  · rintro k hk e ⟨w, z5, z6, z7, z8, rfl, hw⟩ N hN
    have b1 := flat_len (f := fun j => lvD n v c j) (fun j => lvD_len) k
    have b2 := lvD_len (n := n) (v := v) (c := c) (k := k)
    have b3 : 2 ^ k ≤ 4096 := by have := two_le (show k ≤ 12 by omega); simpa using this
    have rs : ((List.range (k + 1)).flatMap fun j => lvD n v c j) = ((List.range k).flatMap fun j => lvD n v c j) ++ lvD n v c k := by
      rw [List.range_succ, List.flatMap_append]; simp
    have ll := lvl_len (n := n) (v := v) (c := (c : Int)) k
    rw [rs] at hN
    generalize hL : ((List.range k).flatMap fun j => lvD n v c j) = L at *
    have comp : ∀ (Ψ : List PyData → Env → Prop) (a1 a2 a3 a4 a5 a6 a8 : Option Val), Ψ (lvD n v c k) [some (.d (TI (tab (2 ^ n) v))), a1, a2, a3, a4, a5, a6, none, a8] →
        compW (tName 7) dYes (dTup (dCons (dVar 7) (dCons (dCall 2 sp_law_weight (dCons (dVar 0) (dCons (dVar 7) dNil))) dNil))) [7] (rowsL n v c k) [some (.d (TI (tab (2 ^ n) v))), a1, a2, a3, a4, a5, a6, none, a8] [] Ψ := fun Ψ a1 a2 a3 a4 a5 a6 a8 hΨ => by
      refine compW_all (fun p => TI (rowN k p)) (itm n v k) (lvl n v c k) (by omega) (fun p hp M hM => ?_) hΨ
      simp
      refine ⟨n, k, p, v, rfl, by omega, by omega, lvl_lt hp, hv, ?_⟩
      simp
      exact hM
    have tail : ∀ (w : Val) (z5 : Val) (z7 : Option PyData) z8, forW (tTup 2 (tCons (tName 7) (tCons (tName 8) tNil))) B_lt_in { nx := N, rt := Φ, bk := fun e => dSeq (dRet (dUn oTuple (dVar 3))) dNext (kRet Φ) e, ct := N } (lvD n v c k)
        [some (.d (TI (tab (2 ^ n) v))), some (.d (.int n)), some (.d (.int c)), some (.own (L ++ lvD n v c k)), some (.own []), some z5, some (.d (.list (lvD n v c k))), z7.map Val.d, z8] := fun w z5 z7 z8 =>
      ltree_in hc (by omega) (fun z7 z8 => hN _ ⟨_, _, _, z7, z8, rfl, rfl⟩) z7 z8
    cases w with
    | own xs =>
      cases hw
      simp
      refine comp _ _ _ _ _ _ _ _ ?_
      cases z7 with
      | none => simp; exact ⟨by omega, tail (.own []) _ none _⟩
      | some x => simp; exact ⟨by omega, tail (.own []) _ (some x) _⟩
    | d d => cases d with
      | list xs =>
        cases hw
        simp
        refine comp _ _ _ _ _ _ _ _ ?_
        cases z7 with
        | none => simp; exact ⟨by omega, tail (.own []) _ none _⟩
        | some x => simp; exact ⟨by omega, tail (.own []) _ (some x) _⟩
      | _ => cases hw
    | _ => cases hw
end Ev
set_option Elab.async false
set_option linter.all false
set_option maxRecDepth 100000
/-! V15: the law's checks of trees. -/
namespace Ev
open PySem PySem.Spec PyProof.Rows L2

theorem lay_s {x : String} (h : (PyData.str (Str.ofString x)).canLay0 = true) : Lay 0 (.str x) := ⟨h, by simp [PyData.depth]⟩
theorem lay_itm (n : Nat) (v : Nat → Int) (k p : Nat) : Lay 2 (itm n v k p) := lay_t fun x hx => by
  rcases List.mem_cons.mp hx with rfl | hx
  · exact lay_TI _
  · rw [List.mem_singleton.mp hx]; exact (lay_i _).mono (by decide)
theorem lay_trD (n : Nat) (v : Nat → Int) (c : Int) : Lay 3 (T (treeD n v c)) := lay_t fun x hx => by
  rw [treeD_eq] at hx
  obtain ⟨q, _, rfl⟩ := List.mem_map.mp hx
  exact lay_itm _ _ _ _
theorem lay_rows (rs : List (List Int)) : Lay 2 (T (rs.map TI)) := lay_t fun x hx => by
  obtain ⟨r, _, rfl⟩ := List.mem_map.mp hx
  exact lay_TI r
theorem lay_rowsP (n : Nat) (ps : List Nat) : Lay 2 (T (ps.map fun p => TI (rowN n p))) := lay_t fun x hx => by
  obtain ⟨r, _, rfl⟩ := List.mem_map.mp hx
  exact lay_TI _
/-- how many great rows -/
theorem sumN_ind (N : Nat) (P : Nat → Bool) (c : Int) : (sumN N fun s => if P s = true then c else 0) = ((List.range N).filter P).length * c := by
  induction N with
  | zero => simp [sumN]
  | succ N ih =>
    simp only [sumN]
    rw [ih, List.range_succ, List.filter_append, List.length_append]
    cases h : P N <;> simp [List.filter_cons, h]
    rw [Int.add_mul]; omega
theorem sumN_mono {f g : Nat → Int} : ∀ {n : Nat}, (∀ i, i < n → f i ≤ g i) → sumN n f ≤ sumN n g
  | 0, _ => Int.le_refl _
  | n + 1, h => by
    have := sumN_mono (n := n) fun i hi => h i (by omega)
    have := h n (by omega)
    simp only [sumN]; omega
theorem parseval (n : Nat) {t : Nat → Int} (ht : BitF (2 ^ n) t) : (sumN (2 ^ n) fun s => spec n t s * spec n t s) = ((2 ^ (2 * n) : Nat) : Int) := by
  have h := hat_conv n (sg t) (sg t) 0 (Nat.two_pow_pos n)
  have e0 : hat n (fun s => hat n (sg t) s * hat n (sg t) s) 0 = sumN (2 ^ n) fun s => hat n (sg t) s * hat n (sg t) s := by
    rw [← hat_sum n 0 _ (Nat.two_pow_pos n)]
    refine sumN_congr fun x hx => ?_
    have : par n 0 x = 0 := by
      unfold par
      have : rowN n 0 = List.replicate n 0 := by
        rw [rowN_tab]; simp [List.map_const']
      rw [this, prodR_zero]
    rw [this]; omega
  rw [e0] at h
  have e1 : (sumN (2 ^ n) fun x => sg t x * sg t (x ^^^ 0)) = ((2 ^ n : Nat) : Int) := by
    rw [sumN_congr (g := fun _ => 1) fun i hi => by
      rw [Nat.xor_zero]; unfold sg; rcases ht i hi with e | e <;> rw [e] <;> rfl]
    rw [sumN_const]; omega
  rw [e1] at h
  unfold spec
  rw [h, ← two_cast, show 2 * n = n + n by omega, Nat.pow_add]
  push_cast; rfl
theorem great_few {n c : Nat} {t : Nat → Int} (ht : BitF (2 ^ n) t) (hc : 0 < c) : ((grt n (spec n t) c).length : Int) ≤ ((2 ^ (2 * n) : Nat) : Int) / ((c : Int) * c) := by
  have hcc : (0 : Int) < (c : Int) * c := Int.mul_pos (by omega) (by omega)
  rw [Int.le_ediv_iff_mul_le hcc, ← parseval n ht]
  unfold grt
  rw [← sumN_ind]
  refine sumN_mono fun s hs => ?_
  by_cases h : (c : Int) ≤ iabs (spec n t s)
  · rw [if_pos (by simpa using h)]
    exact (sq_le (by omega)).mpr h
  · rw [if_neg (by simpa using h)]
    exact sq_nonneg _
def sp_law_are_trees_right : FSpec := fun args Φ => ∃ (n c : Nat) (t : Nat → Int), args = [.pot, .d (TI (tab (2 ^ n) t)), .d (TI (tab (2 ^ n) (spec n t))), .d (.int n), .d (.int c)] ∧ 1 ≤ n ∧ n ≤ 5 ∧ 0 < c ∧ c ≤ 10000 ∧ BitF (2 ^ n) t ∧ Φ (.d (.bool true))
def D_law_are_trees_right : DS := (dSeq (dSet 5 (dCall 3 sp_law_tree (dCons (dVar 2) (dCons (dVar 3) (dCons (dVar 4) dNil))))) (dSeq (dIfS (dOrT (dTst (dBin oNe (dCall 2 sp_tree_paper (dCons (dVar 1) (dCons (dVar 4) dNil))) (dVar 5))) (dTst (dBin oIsNot (dCall 3 sp_tree_error (dCons (dVar 1) (dCons (dVar 4) (dCons (dVar 5) dNil)))) (dC .none)))) (dSeq (dRet (dC (.bool false))) dNext) dNext) (dSeq (dSet 6 (dUn oTuple (dLc [12] (dRng1 (dCons (dBin oAdd (dVar 3) (dC (.int 1))) dNil)) (tName 12) dYes (dUn oLen (dLc [10, 11] (dSeqI (dVar 5)) (tTup 2 (tCons (tName 10) (tCons (tName 11) tNil))) (dTst (dBin oEq (dUn oLen (dVar 10)) (dVar 12))) (dC (.int 1))))))) (dSeq (dSet 7 (dUn oTuple (dLc [13, 14] (dZip (dCons (dCall 1 sp_law_rows (dCons (dVar 3) dNil)) (dCons (dVar 2) dNil))) (tTup 2 (tCons (tName 13) (tCons (tName 14) tNil))) (dTst (dBin oGe (dUn oAbs (dVar 14)) (dVar 4))) (dVar 13)))) (dSeq (dIfS (dOrT (dTst (dBin oNe (dCall 2 sp_tree_widths (dCons (dVar 1) (dCons (dVar 4) dNil))) (dVar 6))) (dTst (dBin oNe (dCall 2 sp_great_rows (dCons (dVar 1) (dCons (dVar 4) dNil))) (dVar 7)))) (dSeq (dRet (dC (.bool false))) dNext) dNext) (dSeq (dSet 8 (dBin oDiv (dBin oShl (dC (.int 1)) (dBin oMul (dC (.int 2)) (dVar 3))) (dBin oMul (dVar 4) (dVar 4)))) (dSeq (dIfS (dOrT (dTst (dBin oNe (dCall 3 sp_great_of_paper (dCons (dVar 3) (dCons (dVar 4) (dCons (dVar 5) dNil)))) (dVar 7))) (dOrT (dTst (dBin oNe (dCall 2 sp_rows_most (dCons (dVar 3) (dCons (dVar 4) dNil))) (dVar 8))) (dTst (dBin oGt (dUn oLen (dVar 7)) (dVar 8))))) (dSeq (dRet (dC (.bool false))) dNext) dNext) (dSeq (dSet 9 (dCall 2 sp_law_draw (dCons (dVar 0) (dCons (dUn oLen (dVar 5)) dNil)))) (dSeq (dAsg (tTup 2 (tCons (tName 10) (tCons (tName 11) tNil))) (dBin oIxS (dVar 5) (dVar 9))) (dSeq (dIfS (dTst (dBin oNe (dCall 3 sp_tree_error (dCons (dVar 1) (dCons (dVar 4) (dCons (dBin oAdd (dBin oAdd (dSl (dVar 5) dNoP (dSomeP (dVar 9))) (dTup (dCons (dTup (dCons (dVar 10) (dCons (dBin oAdd (dVar 11) (dC (.int 1))) dNil))) dNil))) (dSl (dVar 5) (dSomeP (dBin oAdd (dVar 9) (dC (.int 1)))) dNoP)) dNil)))) (dTup (dCons (dC (.str "weight")) (dCons (dVar 9) (dCons (dVar 11) dNil)))))) (dSeq (dRet (dC (.bool false))) dNext) dNext) (dSeq (dRet (dBin oEq (dCall 3 sp_tree_error (dCons (dVar 1) (dCons (dVar 4) (dCons (dUn oList (dVar 5)) dNil)))) (dC (.str "form")))) dNext)))))))))))
theorem sh_L {v : Val} {xs : List PyData} {env : Env} {Φ : Val → Env → Prop} (h : toL v = some xs) : shR (.v v) env Φ = Φ (.d (.list xs)) env := by
  cases v with
  | own ys => cases h; rfl
  | d d => cases d <;> first | (cases h; rfl) | cases h
  | _ => cases h
theorem lay_str_weight : Lay 0 (.str "weight") := lay_s (by decide +kernel)
theorem lay_str_form : Lay 0 (.str "form") := lay_s (by decide +kernel)
theorem lay_str_place : Lay 0 (.str "place") := lay_s (by decide +kernel)
theorem lay_err {w : String} (h : Lay 0 (.str w)) (a b : Int) : Lay 1 (T [.str w, I a, I b]) := lay_t fun x hx => by
  simp at hx
  rcases hx with rfl | rfl | rfl
  · exact h
  · exact lay_i _
  · exact lay_i _
theorem set_cut {α : Type} (l : List α) (i : Nat) (x : α) (h : i < l.length) : l.take i ++ [x] ++ l.drop (i + 1) = l.set i x := by
  rw [List.set_eq_take_append_cons_drop, if_pos h]; simp
def wsOf (n : Nat) (v : Nat → Int) (c : Int) : List W3 := (treeP n v c).map fun q => (q.1, q.2, wt n v q.1 q.2)
theorem ws_items (n : Nat) (v : Nat → Int) (c : Int) : (wsOf n v c).map itw = treeD n v c := by
  rw [treeD_eq]; unfold wsOf; rw [List.map_map]; rfl
theorem ws_begins (n : Nat) (v : Nat → Int) (c : Int) : (wsOf n v c).map (fun q => (q.1, q.2.1)) = treeP n v c := by
  unfold wsOf; rw [List.map_map]; simp [Function.comp_def]
theorem ws_right {n : Nat} {v : Nat → Int} {c : Int} {q : W3} (h : q ∈ wsOf n v c) : rightW n v q := by
  simp only [wsOf, List.mem_map] at h
  obtain ⟨p, _, rfl⟩ := h
  rfl
theorem v_law_are_trees_right (args : List Val) (Φ : Val → Prop) (h : sp_law_are_trees_right args Φ) :
    D_law_are_trees_right (kRet Φ) (envS ["pot", "table", "values", "n", "least", "tree", "widths", "great", "most", "i", "begin", "weight", "size", "row", "own"] args) := by
  obtain ⟨n, c, t, rfl, h1, hn, hc, hc2, ht, hΦ⟩ := h
  have tl := treeD_len n (spec n t) c
  have p6 : 2 ^ (n + 1) ≤ 64 := by have := two_le (show n + 1 ≤ 6 by omega); simpa using this
  have p5 : 2 ^ n ≤ 32 := by have := two_le hn; simpa using this
  have gl := grt_len n (spec n t) (c : Int)
  simp only [D_law_are_trees_right, envS]
  rw [dSeq]
  simp [-dSeq]
  refine ⟨n, c, spec n t, rfl, by omega, by omega, spec_lim (by omega) ht, ?_⟩
  simp [-dSeq]
  rw [dSeq]
  simp [-dSeq]
  refine ⟨n, c, t, rfl, by omega, by omega, ht, ?_⟩
  simp [-dSeq, ne_same (lay_trD n (spec n t) c) (by decide)]
  refine ⟨n, c, t, by omega, by omega, ht, .inr ⟨wsOf n (spec n t) c, by rw [ws_items], ws_begins _ _ _, fun _ => ?_, fun i q hq _ hr => (hr (ws_right (List.mem_of_getElem? hq))).elim⟩⟩
  simp [-dSeq]
  rw [dSeq]
  simp [-dSeq]
  refine ⟨by omega, by omega, ?_⟩
  refine compW_tab (N := n + 1) _ (fun k => .int ((lvl n (spec n t) c k).length : Nat)) (by omega) (fun k hk N hN => ?_) ?_
  · simp [-dSeq]
    rw [treeD_eq]
    refine compW_map (fun q : Nat × Nat => itm n (spec n t) q.1 q.2) (fun q => decide (q.1 = k)) (fun _ => I 1) (treeP n (spec n t) c) [] (by simp [treeP_len]; omega) (fun q hq M S hM hS => ?_) ?_
    · obtain ⟨j, p⟩ := q
      show tTup 2 (tCons (tName 10) (tCons (tName 11) tNil)) (T [TI (rowN j p), I (wt n (spec n t) j p)]) _ _
      simp [-dSeq, and_assoc, oEq_int, rowN_length]
      simp only at hM hS
      by_cases e : j = k
      · exact .inr ⟨by omega, hM (by simp [e])⟩
      · exact .inl ⟨by omega, hS (by simp [e])⟩
    · have tp := tree_part n (spec n t) c k (by omega) (fun _ => true)
      simp only [Bool.and_true] at tp
      simp only [tp, List.map_map, List.nil_append]
      simp [-dSeq]
      have e : (List.filter (fun _ => true) (lvl n (spec n t) c k)) = lvl n (spec n t) c k := List.filter_eq_self.mpr fun _ _ => rfl
      rw [e]
      rw [treeD_eq] at hN
      exact hN
  · rw [ints_tab]
    simp [-dSeq]
    rw [dSeq]
    simp [-dSeq]
    refine ⟨n, rfl, by omega, fun v hv => ?_⟩
    show shR _ _ _
    rw [sh_L hv]
    simp [-dSeq, and_assoc]
    rw [zip_rt]
    refine compW_map (fun s => PyData.tuple [TI (rowN n s), .int (spec n t s)]) (fun s => decide ((c : Int) ≤ iabs (spec n t s))) (fun s => TI (rowN n s)) (List.range (2 ^ n)) [] (by simp; omega) (fun s hs N S hN hS => ?_) ?_
    · simp [-dSeq, and_assoc]
      by_cases g : (c : Int) ≤ iabs (spec n t s)
      · have g2 : ¬ iabs (spec n t s) < c := by omega
        have hN := hN (by simpa using g)
        unfold iabs at g g2
        simp [-dSeq, g, g2]
        exact hN
      · have g2 : iabs (spec n t s) < c := by omega
        have hS := hS (by simpa using g2)
        unfold iabs at g g2
        simp [-dSeq, g, g2]
        exact hS
    · have lr := lay_rowsP n (grt n (spec n t) c)
      have fg : (List.filter (fun s => decide ((c : Int) ≤ iabs (spec n t s))) (List.range (2 ^ n))) = grt n (spec n t) c := rfl
      rw [fg]
      simp [-dSeq]
      rw [dSeq]
      simp [-dSeq]
      refine ⟨n, c, t, rfl, by omega, by omega, ht, ?_⟩
      simp [-dSeq, ne_TI]
      refine ⟨n, c, t, rfl, by omega, ht, ?_⟩
      simp [-dSeq, ne_same lr (by decide)]
      rw [dSeq]
      simp [-dSeq]
      have cc : c * c ≤ 10000 * 10000 := Nat.mul_le_mul hc2 hc2
      have cp : 0 < c * c := Nat.mul_pos hc hc
      have ce : (c : Int) * c = ((c * c : Nat) : Int) := by push_cast; rfl
      have e8 : (2 : Int) ^ (2 * (n : Int)).toNat = ((2 ^ (2 * n) : Nat) : Int) := by
        rw [show (2 * (n : Int)).toNat = 2 * n by omega, two_cast]
      have few := great_few ht hc
      rw [e8]
      have most : ∀ Ψ : Val → Prop, Ψ (.d (.int (((2 ^ (2 * n) : Nat) : Int) / ((c : Int) * c)))) → sp_rows_most [.d (.int n), .d (.int c)] Ψ := fun Ψ hΨ => ⟨n, c, rfl, by omega, hc, by omega, hΨ⟩
      refine ⟨cm_small (by omega), ⟨by omega, by omega, by decide⟩, cm_small (by omega), ⟨by omega, by omega⟩, ?_⟩
      generalize ((2 ^ (2 * n) : Nat) : Int) / ((c : Int) * c) = mst at few most ⊢
      rw [dSeq]
      simp [-dSeq]
      refine ⟨n, c, spec n t, rfl, h1, hn, by omega, ?_⟩
      simp [-dSeq, ne_same lr (by decide)]
      refine most _ ?_
      have few2 : ¬ mst < ((grt n (spec n t) c).length : Int) := by omega
      simp [-dSeq, oNe_int, few, few2]
      rw [dSeq]
      simp [-dSeq]
      have tne : 0 < (treeD n (spec n t) c).length := by
        have : (0, 0) ∈ treeP n (spec n t) c := by simp [treeP, lvl]
        rw [← treeP_len]
        exact List.length_pos_of_mem this
      refine ⟨(treeD n (spec n t) c).length, rfl, tne, by omega, fun r hr => ?_⟩
      obtain ⟨q, hq⟩ := get_lt (ws := treeP n (spec n t) c) (i := r) (by rw [treeP_len]; exact hr)
      have dq : (treeD n (spec n t) c)[r]? = some (itm n (spec n t) q.1 q.2) := by rw [treeD_eq, List.getElem?_map, hq]; rfl
      rw [dSeq]
      simp [-dSeq]
      refine ⟨_, at_nat dq, ?_⟩
      simp [-dSeq, itm, and_assoc]
      rw [dSeq]
      simp [-dSeq]
      rw [cut_to (Nat.le_of_lt hr), show ((r : Int) + 1) = ((r + 1 : Nat) : Int) by omega, cut_from (show r + 1 ≤ (treeD n (spec n t) c).length by omega)]
      have lw : (wsOf n (spec n t) c).length = (treeD n (spec n t) c).length := by rw [← ws_items, List.length_map]
      have wr : (wsOf n (spec n t) c)[r]? = some (q.1, q.2, wt n (spec n t) q.1 q.2) := by unfold wsOf; rw [List.getElem?_map, hq]; rfl
      refine ⟨by rw [List.length_take]; omega, by rw [List.length_take, List.length_drop]; omega, n, c, t, by omega, by omega, ht, .inr ⟨(wsOf n (spec n t) c).set r (q.1, q.2, wt n (spec n t) q.1 q.2 + 1), ?_, ?_, fun hall => ?_, fun i q' hi _ hw => ?_⟩⟩
      · have e : (treeD n (spec n t) c).set r (itw (q.1, q.2, wt n (spec n t) q.1 q.2 + 1)) = List.take r (treeD n (spec n t) c) ++ itw (q.1, q.2, wt n (spec n t) q.1 q.2 + 1) :: List.drop (r + 1) (treeD n (spec n t) c) := by
          rw [List.set_eq_take_append_cons_drop, if_pos hr]
        rw [List.map_set, ws_items, T, e]
        rfl
      · rw [List.map_set, ws_begins]
        apply List.ext_getElem?
        intro j
        rw [List.getElem?_set]
        by_cases e : r = j
        · subst e; rw [if_pos rfl, if_pos (by rw [treeP_len]; exact hr), hq]
        · rw [if_neg e]
      · have := hall (q.1, q.2, wt n (spec n t) q.1 q.2 + 1) (List.mem_iff_getElem?.mpr ⟨r, by rw [List.getElem?_set_self (by rw [lw]; exact hr)]⟩)
        unfold rightW at this
        simp only at this
        omega
      · rw [List.getElem?_set] at hi
        by_cases e : r = i
        · subst e
          rw [if_pos rfl, if_pos (by rw [lw]; exact hr)] at hi
          cases hi
          simp [-dSeq, ne_same (lay_err lay_str_weight r (wt n (spec n t) q.1 q.2)) (by decide)]
          rw [dSeq]
          simp [-dSeq]
          refine ⟨n, c, t, by omega, by omega, ht, .inl ⟨_, rfl, ?_⟩⟩
          simp [-dSeq, eq_same lay_str_form (by decide)]
          exact hΦ
        · rw [if_neg e] at hi
          exact (hw (ws_right (List.mem_of_getElem? hi))).elim
end Ev
set_option Elab.async false
set_option linter.all false
set_option maxRecDepth 100000
/-! V16: the law's check of led tables. -/
namespace Ev
open PySem PySem.Spec PyProof.Rows L2

theorem zip_yr : ∀ (ys : List Int) (rs : List (List Int)), zipD (ys.map .int) (rs.map TI) = (rs.zip ys).map fun q => PyData.tuple [.int q.2, TI q.1]
  | [], [] => rfl
  | [], _ :: _ => rfl
  | _ :: _, [] => rfl
  | y :: ys, r :: rs => by
    have ih := zip_yr ys rs
    unfold zipD at ih ⊢
    simp only [List.map_cons, List.zip_cons_cons, ih]
theorem tab_succ (n : Nat) (f : Nat → Int) : (tab n f).map PyData.int ++ [.int (f n)] = (tab (n + 1) f).map .int := by
  unfold tab
  rw [List.range_succ]; simp
theorem lay_tab (n : Nat) (f : Nat → Int) : Lay 1 (TI (tab n f)) := lay_TI _
def sp_law_is_led_right : FSpec := fun args Φ => ∃ (n : Nat) (t : Nat → Int), args = [.pot, .d (TI (tab (2 ^ n) t)), .d (TI (tab (2 ^ n) (spec n t))), .d (.int n)] ∧ n ≤ 12 ∧ BitF (2 ^ n) t ∧ Φ (.d (.bool true))
def D_law_is_led_right : DS := (dSeq (dSet 4 (dUn oTuple (dLc [11] (dRng1 (dCons (dCall 2 sp_law_draw (dCons (dVar 0) (dCons (dC (.int 4)) dNil))) dNil)) (tName 11) dYes (dUn oTuple (dLc [12] (dRng1 (dCons (dVar 3) dNil)) (tName 12) dYes (dCall 2 sp_law_draw (dCons (dVar 0) (dCons (dC (.int 2)) dNil)))))))) (dSeq (dPar2 5 6 (dCall 1 sp_law_rows (dCons (dUn oLen (dVar 4)) dNil)) (dLst dNil)) (dSeq (dFor (dSeqI (dVar 5)) (tName 7) (dSeq (dSet 8 (dBin oMul (dTup (dCons (dC (.int 0)) dNil)) (dVar 3))) (dSeq (dFor (dZip (dCons (dVar 7) (dCons (dVar 4) dNil))) (tTup 2 (tCons (tName 9) (tCons (tName 10) tNil))) (dSeq (dSet 8 (dIf (dTst (dBin oEq (dVar 9) (dC (.int 1)))) (dCall 2 sp_law_added (dCons (dVar 8) (dCons (dVar 10) dNil))) (dVar 8))) dNext)) (dSeq (dIfS (dTst (dBin oNe (dCall 3 sp_rows_through (dCons (dVar 3) (dCons (dVar 4) (dCons (dVar 7) dNil)))) (dVar 8))) (dSeq (dRet (dC (.bool false))) dNext) dNext) (dSeq (dExpr (dApp 6 (dBin oIxS (dVar 1) (dCall 1 sp_law_place (dCons (dVar 8) dNil))))) dNext))))) (dSeq (dSet 6 (dUn oTuple (dVar 6))) (dSeq (dIfS (dTst (dBin oNe (dCall 2 sp_led_table (dCons (dVar 1) (dCons (dVar 4) dNil))) (dVar 6))) (dSeq (dRet (dC (.bool false))) dNext) dNext) (dSeq (dRet (dBin oEq (dCall 3 sp_led_spectrum (dCons (dVar 3) (dCons (dVar 2) (dCons (dVar 4) dNil)))) (dUn oTuple (dLc [8] (dSeqI (dCall 1 sp_law_near (dCons (dVar 6) dNil))) (tName 8) dYes (dBin oSub (dUn oLen (dVar 6)) (dBin oMul (dC (.int 2)) (dVar 8))))))) dNext))))))
theorem v_law_is_led_right (args : List Val) (Φ : Val → Prop) (h : sp_law_is_led_right args Φ) : D_law_is_led_right (kRet Φ) (envS ["pot", "table", "values", "n", "rows", "ys", "due", "y", "own", "bit", "row", "turn", "i"] args) := by
  obtain ⟨n, t, rfl, hn, ht, hΦ⟩ := h
  simp only [D_law_is_led_right, envS]
  rw [dSeq]
  simp [-dSeq]
  refine ⟨4, rfl, by decide, by decide, fun m hm => ?_⟩
  simp [-dSeq]
  refine ⟨by omega, ?_⟩
  refine compW_any (fun i : Nat => PyData.int i) (fun d => ∃ r : List Int, d = TI r ∧ r.length = n ∧ Bits r) (List.range m) [] (by simp; omega) (fun i hi N hN => ?_) (fun ds dl hd => ?_)
  · simp [-dSeq]
    refine ⟨by omega, ?_⟩
    refine compW_any (fun i : Nat => PyData.int i) (fun d => ∃ r : Nat, r < 2 ∧ d = .int r) (List.range n) [] (by simp; omega) (fun j hj M hM => ?_) (fun es el he => ?_)
    · simp [-dSeq]
      exact ⟨2, rfl, by decide, by decide, fun r hr => by simp; exact hM _ ⟨r, hr, rfl⟩⟩
    · obtain ⟨xs, rfl, hx⟩ := bits_of he
      simp at el
      simp [-dSeq]
      exact hN _ ⟨xs, rfl, el, hx⟩
  · obtain ⟨rs, rfl, hr⟩ : ∃ rs : List (List Int), ds = rs.map TI ∧ RowsOf n rs := by
      clear dl
      induction ds with
      | nil => exact ⟨[], rfl, fun r hr => by cases hr⟩
      | cons d ds ih =>
        obtain ⟨rs, rfl, h1⟩ := ih fun e he => hd e (List.mem_cons_of_mem _ he)
        obtain ⟨r, rfl, h2, h3⟩ := hd d (List.mem_cons_self ..)
        exact ⟨r :: rs, rfl, fun x hx => by
          rcases List.mem_cons.mp hx with rfl | hx
          · exact ⟨h2, h3⟩
          · exact h1 x hx⟩
    simp at dl
    simp [-dSeq]
    rw [dSeq]
    simp [-dSeq]
    refine ⟨rs.length, rfl, by omega, fun v hv => ?_⟩
    have m12 : 2 ^ rs.length ≤ 4096 := by have := two_le (show rs.length ≤ 12 by omega); simpa using this
    have loop : ∀ (K : KE) (e5 : Val), K.rt = Φ → (∀ z7 z8 z9 z10, K.nx [some .pot, some (.d (TI (tab (2 ^ n) t))), some (.d (TI (tab (2 ^ n) (spec n t)))), some (.d (.int n)), some (.d (T (rs.map TI))), some e5, some (.own ((tab (2 ^ rs.length) fun q => t (thrP n rs q)).map .int)), z7, z8, z9, z10, none, none]) →
        forW (tName 7) (dSeq (dSet 8 (dBin oMul (dTup (dCons (dC (.int 0)) dNil)) (dVar 3))) (dSeq (dFor (dZip (dCons (dVar 7) (dCons (dVar 4) dNil))) (tTup 2 (tCons (tName 9) (tCons (tName 10) tNil))) (dSeq (dSet 8 (dIf (dTst (dBin oEq (dVar 9) (dC (.int 1)))) (dCall 2 sp_law_added (dCons (dVar 8) (dCons (dVar 10) dNil))) (dVar 8))) dNext)) (dSeq (dIfS (dTst (dBin oNe (dCall 3 sp_rows_through (dCons (dVar 3) (dCons (dVar 4) (dCons (dVar 7) dNil)))) (dVar 8))) (dSeq (dRet (dC (.bool false))) dNext) dNext) (dSeq (dExpr (dApp 6 (dBin oIxS (dVar 1) (dCall 1 sp_law_place (dCons (dVar 8) dNil))))) dNext)))) K
          ((rowsN rs.length).map TI) [some .pot, some (.d (TI (tab (2 ^ n) t))), some (.d (TI (tab (2 ^ n) (spec n t)))), some (.d (.int n)), some (.d (T (rs.map TI))), some e5, some (.own []), none, none, none, none, none, none] := fun K e5 hK hnx => by
      rw [rows_items]
      refine forW_range _ (2 ^ rs.length) (fun q e => ∃ z7 z8 z9 z10, e = [some .pot, some (.d (TI (tab (2 ^ n) t))), some (.d (TI (tab (2 ^ n) (spec n t)))), some (.d (.int n)), some (.d (T (rs.map TI))), some e5, some (.own ((tab q fun q => t (thrP n rs q)).map .int)), z7, z8, z9, z10, none, none]) ?_ ?_ _ ⟨none, none, none, none, rfl⟩
      · rintro e ⟨z7, z8, z9, z10, rfl⟩
        exact hnx _ _ _ _
      · rintro q hq e ⟨z7, z8, z9, z10, rfl⟩ N hN
        simp [-dSeq]
        rw [dSeq]
        simp [-dSeq]
        refine mul_one (by omega) ?_
        rw [dSeq]
        simp [-dSeq, and_assoc]
        rw [zip_yr]
        obtain ⟨h1, h2, h3⟩ := thrP_ok hr q
        refine forW_map (fun q : List Int × Int => PyData.tuple [.int q.2, TI q.1]) (fun r e => ∃ (a : List Int) (z9 z10 : Option Val), e = [some .pot, some (.d (TI (tab (2 ^ n) t))), some (.d (TI (tab (2 ^ n) (spec n t)))), some (.d (.int n)), some (.d (T (rs.map TI))), some e5, some (.own ((tab q fun q => t (thrP n rs q)).map .int)), some (.d (TI (rowN rs.length q))), some (.d (TI a)), z9, z10, none, none] ∧ a.length = n ∧ Bits a ∧ thrF r a = thr n rs (rowN rs.length q) ∧ ∀ x ∈ r, x.1.length = n ∧ Bits x.1) ?_ ?_ (rs.zip (rowN rs.length q)) _ ⟨List.replicate n 0, z9, z10, by simp, by simp, fun b hb => .inl (List.eq_of_mem_replicate hb), rfl, fun x hx => hr x.1 (List.of_mem_zip hx).1⟩
        · rintro e ⟨a, y9, y10, rfl, b1, b2, b3, b4⟩
          have b3 : a = thr n rs (rowN rs.length q) := b3
          show dSeq _ _ _ _
          rw [dSeq]
          simp [-dSeq]
          rw [dSeq]
          simp [-dSeq]
          refine ⟨n, rs, _, rfl, by omega, hr, ?_⟩
          rw [← b3]
          simp [-dSeq, ne_same (lay_TI a) (by decide)]
          rw [dSeq]
          simp [-dSeq]
          refine ⟨a, rfl, ?_⟩
          rw [b3, h3]
          simp [-dSeq]
          refine ⟨_, stepped_get h1, ?_⟩
          simp [tab_length]
          refine ⟨by omega, ?_⟩
          rw [tab_succ q (fun q => t (thrP n rs q))]
          exact hN _ ⟨_, _, _, _, rfl⟩
        · rintro x r e ⟨a, y9, y10, rfl, b1, b2, b3, b4⟩ M hM
          have hx := b4 x (List.mem_cons_self ..)
          unfold thrF at b3
          rw [List.foldl_cons] at b3
          by_cases c : x.2 = 1
          · rw [if_pos c] at b3
            simp [and_assoc, oEq_int, c]
            refine ⟨a, x.1, rfl, by omega, b2, hx.2, ?_⟩
            simp
            exact hM _ ⟨addR a x.1, _, _, rfl, by rw [addR_length]; omega, addR_bits _ _, b3, fun q' h' => b4 q' (List.mem_cons_of_mem _ h')⟩
          · rw [if_neg c] at b3
            simp [and_assoc, oEq_int, c]
            exact hM _ ⟨a, _, _, rfl, b1, b2, b3, fun q' h' => b4 q' (List.mem_cons_of_mem _ h')⟩
    have bt : BitF (2 ^ rs.length) fun q => t (thrP n rs q) := fun q _ => ht _ (thrP_ok hr q).1
    have fin : ∀ (e5 : Val) z7 z8 z9 z10, dSeq (dSet 6 (dUn oTuple (dVar 6))) (dSeq (dIfS (dTst (dBin oNe (dCall 2 sp_led_table (dCons (dVar 1) (dCons (dVar 4) dNil))) (dVar 6))) (dSeq (dRet (dC (.bool false))) dNext) dNext) (dSeq (dRet (dBin oEq (dCall 3 sp_led_spectrum (dCons (dVar 3) (dCons (dVar 2) (dCons (dVar 4) dNil)))) (dUn oTuple (dLc [8] (dSeqI (dCall 1 sp_law_near (dCons (dVar 6) dNil))) (tName 8) dYes (dBin oSub (dUn oLen (dVar 6)) (dBin oMul (dC (.int 2)) (dVar 8))))))) dNext)) (kRet Φ)
        [some .pot, some (.d (TI (tab (2 ^ n) t))), some (.d (TI (tab (2 ^ n) (spec n t)))), some (.d (.int n)), some (.d (T (rs.map TI))), some e5, some (.own ((tab (2 ^ rs.length) fun q => t (thrP n rs q)).map .int)), z7, z8, z9, z10, none, none] := fun e5 z7 z8 z9 z10 => by
      rw [dSeq]
      simp [-dSeq]
      rw [dSeq]
      simp [-dSeq]
      refine ⟨n, t, rs, rfl, by omega, by omega, hr, ?_⟩
      simp [-dSeq, ne_TI]
      rw [dSeq]
      simp [-dSeq]
      refine ⟨n, t, rs, rfl, by omega, by omega, hr, ?_⟩
      simp [-dSeq]
      refine ⟨rs.length, _, rfl, by omega, bt, ?_⟩
      simp [-dSeq]
      refine compW_ints (fun q => .int (spec rs.length (fun q => t (thrP n rs q)) q)) (by omega) (fun q hq N hN => ?_) ?_
      · have tl : (((tab (2 ^ rs.length) fun q => t (thrP n rs q)).length : Nat) : Int) = ((2 ^ rs.length : Nat) : Int) := by rw [tab_length]
        have ns := near_spec hq bt
        generalize ((2 ^ rs.length : Nat) : Int) = a at *
        simp [tl]
        rw [ns]
        exact ⟨cm_small (by omega), hN⟩
      · rw [ints_tab]
        simp [eq_TI]
        exact hΦ
    cases v with
    | own xs =>
      cases hv
      show dSeq _ _ _ _
      rw [dSeq]
      simp [-dSeq]
      exact loop _ _ rfl fun z7 z8 z9 z10 => fin _ z7 z8 z9 z10
    | d d => cases d with
      | list xs =>
        cases hv
        show dSeq _ _ _ _
        rw [dSeq]
        simp [-dSeq]
        exact loop _ _ rfl fun z7 z8 z9 z10 => fin _ z7 z8 z9 z10
      | _ => cases hv
    | _ => cases hv
end Ev
set_option Elab.async false
set_option linter.all false
set_option maxRecDepth 100000
/-! V17: the law of spectra and trees. -/
namespace Ev
open PySem PySem.Spec PyProof.Rows L2

def L78_20 : DS := dNext
def L78_19 : DS := dSeq (dRet (dAndV (dCall 4 sp_law_is_led_right (dCons (dVar 1) (dCons (dVar 5) (dCons (dVar 7) (dCons (dVar 2) dNil))))) (dBin oEq (dUn oRepr (dVar 5)) (dVar 6)))) L78_20
def L78_18 : DS := dSeq (dIfS (dNotT (dTru (dCall 5 sp_law_are_trees_right (dCons (dVar 1) (dCons (dVar 5) (dCons (dVar 7) (dCons (dVar 2) (dCons (dBin oAdd (dC (.int 1)) (dCall 2 sp_law_draw (dCons (dVar 1) (dCons (dVar 3) dNil)))) dNil)))))))) (dSeq (dRet (dC (.bool false))) dNext) dNext) L78_19
def L78_17 : DS := dSeq (dFor (dRng1 (dCons (dC (.int 4)) dNil)) (tName 12) (dSeq (dSet 13 (dUn oTuple (dLc [9] (dRng1 (dCons (dCall 2 sp_law_draw (dCons (dVar 1) (dCons (dBin oAdd (dVar 2) (dC (.int 1))) dNil))) dNil)) (tName 9) dYes (dCall 2 sp_law_draw (dCons (dVar 1) (dCons (dC (.int 2)) dNil)))))) (dSeq (dSet 14 (dCall 2 sp_law_weight (dCons (dVar 7) (dCons (dVar 13) dNil)))) (dSeq (dIfS (dOrT (dTst (dBin oNe (dCall 2 sp_begin_weight (dCons (dVar 5) (dCons (dVar 13) dNil))) (dVar 14))) (dTst (dBin oNe (dCall 2 sp_weight_by_shifts (dCons (dVar 5) (dCons (dVar 13) dNil))) (dVar 14)))) (dSeq (dRet (dC (.bool false))) dNext) dNext) (dSeq (dSet 15 (dIf (dTst (dBin oLt (dUn oLen (dVar 13)) (dVar 2))) (dUn oTuple (dLc [19] (dSeqI (dTup (dCons (dC (.int 0)) (dCons (dC (.int 1)) dNil)))) (tName 19) dYes (dCall 2 sp_law_weight (dCons (dVar 7) (dCons (dBin oAdd (dVar 13) (dTup (dCons (dVar 19) dNil))) dNil))))) (dTup dNil))) (dSeq (dIfS (dAndT (dTst (dBin oLt (dUn oLen (dVar 13)) (dVar 2))) (dTst (dBin oNe (dCall 2 sp_weights_below (dCons (dVar 5) (dCons (dVar 13) dNil))) (dVar 15)))) (dSeq (dRet (dC (.bool false))) dNext) dNext) dNext)))))) L78_18
def L78_16 : DS := dSeq (dIfS (dOrT (dTst (dBin oNe (dCall 2 sp_crossed_sums (dCons (dVar 5) (dCons (dVar 5) dNil))) (dVar 11))) (dTst (dBin oIsNot (dCall 2 sp_shift_paper_error (dCons (dVar 5) (dCons (dVar 11) dNil))) (dC .none)))) (dSeq (dRet (dC (.bool false))) dNext) dNext) L78_17
def L78_15 : DS := dSeq (dIfS (dOrT (dTst (dBin oNe (dCall 1 sp_shift_sums (dCons (dVar 5) dNil)) (dVar 11))) (dTst (dBin oNe (dCall 2 sp_shift_sum (dCons (dVar 5) (dCons (dCall 2 sp_law_row_at (dCons (dVar 2) (dCons (dVar 10) dNil))) dNil))) (dBin oIxS (dVar 11) (dVar 10))))) (dSeq (dRet (dC (.bool false))) dNext) dNext) L78_16
def L78_14 : DS := dSeq (dSet 11 (dUn oTuple (dLc [18] (dRng1 (dCons (dVar 3) dNil)) (tName 18) dYes (dCall 2 sp_law_shift (dCons (dVar 5) (dCons (dVar 18) dNil)))))) L78_15
def L78_13 : DS := dSeq (dIfS (dTst (dBin oNe (dCall 2 sp_spectrum_error (dCons (dVar 5) (dCons (dBin oAdd (dBin oAdd (dSl (dVar 7) dNoP (dSomeP (dVar 10))) (dTup (dCons (dBin oAdd (dBin oIxS (dVar 7) (dVar 10)) (dC (.int 2))) dNil))) (dSl (dVar 7) (dSomeP (dBin oAdd (dVar 10) (dC (.int 1)))) dNoP)) dNil))) (dTup (dCons (dC (.str "place")) (dCons (dVar 10) (dCons (dBin oIxS (dVar 7) (dVar 10)) dNil)))))) (dSeq (dRet (dC (.bool false))) dNext) dNext) L78_14
def L78_12 : DS := dSeq (dIfS (dTst (dBin oNe (dCall 2 sp_spectrum_at (dCons (dVar 5) (dCons (dCall 2 sp_law_row_at (dCons (dVar 2) (dCons (dVar 10) dNil))) dNil))) (dBin oIxS (dVar 7) (dVar 10)))) (dSeq (dRet (dC (.bool false))) dNext) dNext) L78_13
def L78_11 : DS := dSeq (dSet 10 (dCall 2 sp_law_draw (dCons (dVar 1) (dCons (dVar 3) dNil)))) L78_12
def L78_10 : DS := dSeq (dIfS (dTst (dBin oNe (dVar 8) (dVar 7))) (dSeq (dRet (dC (.bool false))) dNext) dNext) L78_11
def L78_9 : DS := dSeq (dFor (dSeqI (dCall 2 sp_law_mixed (dCons (dVar 1) (dCons (dListR1 (dVar 2)) dNil)))) (tName 9) (dSeq (dSet 8 (dCall 2 sp_letter_step (dCons (dVar 8) (dCons (dVar 9) dNil)))) dNext)) L78_10
def L78_8 : DS := dSeq (dSet 8 (dUn oTuple (dLc [16] (dSeqI (dVar 5)) (tName 16) dYes (dBin oSub (dC (.int 1)) (dBin oMul (dC (.int 2)) (dVar 16)))))) L78_9
def L78_7 : DS := dSeq (dIfS (dTst (dBin oNe (dCall 1 sp_cubes_sum (dCons (dVar 7) dNil)) (dUn oSum (dLc [17] (dSeqI (dVar 7)) (tName 17) dYes (dBin oMul (dBin oMul (dVar 17) (dVar 17)) (dVar 17)))))) (dSeq (dRet (dC (.bool false))) dNext) dNext) L78_8
def L78_6 : DS := dSeq (dIfS (dOrT (dTst (dBin oIsNot (dCall 1 sp_is_spectrum (dCons (dVar 7) dNil)) (dC (.bool true)))) (dTst (dBin oNe (dCall 1 sp_squares_sum (dCons (dVar 7) dNil)) (dBin oMul (dVar 3) (dVar 3))))) (dSeq (dRet (dC (.bool false))) dNext) dNext) L78_7
def L78_5 : DS := dSeq (dIfS (dOrT (dTst (dBin oNe (dCall 1 sp_spectrum (dCons (dVar 5) dNil)) (dVar 7))) (dOrT (dTst (dBin oIsNot (dCall 2 sp_spectrum_error (dCons (dVar 5) (dCons (dVar 7) dNil))) (dC .none))) (dTst (dBin oNe (dCall 1 sp_table_of_spectrum (dCons (dVar 7) dNil)) (dVar 5))))) (dSeq (dRet (dC (.bool false))) dNext) dNext) L78_6
def L78_4 : DS := dSeq (dPar2 6 7 (dUn oRepr (dVar 5)) (dUn oTuple (dLc [17] (dSeqI (dCall 1 sp_law_near (dCons (dVar 5) dNil))) (tName 17) dYes (dBin oSub (dVar 3) (dBin oMul (dC (.int 2)) (dVar 17)))))) L78_5
def L78_3 : DS := dSeq (dSet 5 (dUn oTuple (dIf (dTst (dBin oEq (dCall 2 sp_law_draw (dCons (dVar 1) (dCons (dC (.int 3)) dNil))) (dC (.int 0)))) (dLc [10] (dRng1 (dCons (dVar 3) dNil)) (tName 10) dYes (dCall 2 sp_law_draw (dCons (dVar 1) (dCons (dC (.int 2)) dNil)))) (dVar 5)))) L78_4
def L78_2 : DS := dSeq (dSet 5 (dLc [16] (dSeqI (dCall 1 sp_law_sum_table (dCons (dVar 4) dNil))) (tName 16) dYes (dBin oXor (dVar 16) (dUn oInt (dBin oEq (dCall 2 sp_law_draw (dCons (dVar 1) (dCons (dC (.int 6)) dNil))) (dC (.int 0))))))) L78_3
def L78_1 : DS := dSeq (dPar2 3 4 (dBin oShl (dC (.int 1)) (dVar 2)) (dUn oTuple (dLc [9] (dRng1 (dCons (dVar 2) dNil)) (tName 9) dYes (dCall 2 sp_law_draw (dCons (dVar 1) (dCons (dC (.int 2)) dNil)))))) L78_2
def L78_0 : DS := dSeq (dSet 2 (dBin oAdd (dC (.int 1)) (dCall 2 sp_law_draw (dCons (dVar 1) (dCons (dCall 2 sp_law_pick (dCons (dVar 1) (dCons (dLst (dCons (dC (.int 3)) (dCons (dC (.int 4)) dNil))) dNil))) dNil))))) L78_1

abbrev KT : KE := { nx := fun _ => False, rt := fun v => v = .d (.bool true), bk := fun _ => False, ct := fun _ => False }
theorem KT_eq : (kRet fun v => v = .d (.bool true)) = KT := by simp [kRet]
theorem shown_bits {xs : List Int} (h : Bits xs) (hl : xs.length ≤ 4096) {Φ : Val → Prop} (hΦ : Φ (.d (.str (TI xs).shown))) : oRepr (.d (TI xs)) Φ := by
  have i1 : ∀ b : Int, (b = 0 ∨ b = 1) → (PyData.int b).showable = true ∧ (PyData.int b).intsShort 13 = true ∧ (PyData.int b).weight ≤ 1 := fun b hb => by
    rcases hb with rfl | rfl <;> decide +kernel
  have a1 : ∀ l : List Int, Bits l → PyData.showableAll (l.map .int) = true ∧ PyData.hasDictAll (l.map .int) = false ∧ PyData.intsShortAll 13 (l.map .int) = true ∧ PyData.weightAll (l.map .int) ≤ 2 * l.length := by
    intro l
    induction l with
    | nil => intro _; exact ⟨rfl, rfl, rfl, Nat.le_refl _⟩
    | cons b l ih =>
      intro hb
      obtain ⟨h1, h2, h3, h4⟩ := ih hb.tail
      obtain ⟨j1, j2, j3⟩ := i1 b hb.head
      refine ⟨?_, ?_, ?_, ?_⟩
      · simp [PyData.showableAll, j1, h1]
      · simp [PyData.hasDictAll, PyData.hasDict, h2]
      · simp [PyData.intsShortAll, j2, h3]
      · simp only [List.map_cons, PyData.weightAll, List.length_cons]; omega
  obtain ⟨h1, h2, h3, h4⟩ := a1 xs h
  have ly := lay_TI xs
  have lay : PyData.layable0 (TI xs) = true := by
    unfold PyData.layable0
    rw [ly.ok, decide_eq_true (Nat.le_trans ly.dp (by decide)), decide_eq_true (by show PyData.weight (.tuple (xs.map .int)) ≤ 2 ^ 20; simp only [PyData.weight]; omega)]
    rfl
  have len := PyProof.Rows.shown_le13 lay (by simpa [PyData.intsShort] using h3)
  refine ⟨TI xs, rfl, rfl, by simpa [PyData.showable] using h1, by simpa [PyData.hasDict] using h2, Nat.le_trans ly.dp (by decide), by omega, hΦ⟩
theorem bits_tab {n : Nat} {t : Nat → Int} (h : BitF n t) : Bits (tab n t) := fun b hb => by
  simp only [tab, List.mem_map, List.mem_range] at hb
  obtain ⟨i, hi, rfl⟩ := hb
  exact h i hi
section
variable {n : Nat} {t : Nat → Int} {e4 : Option Val}
theorem t19 (h1 : 1 ≤ n) (h4 : n ≤ 4) (ht : BitF (2 ^ n) t) (z8 z9 z10 z11 z12 z13 z14 z15 : Option Val) : L78_18 KT [none, some .pot, some (.d (.int n)), some (.d (.int ((2 ^ n : Nat) : Int))), e4, some (.d (TI (tab (2 ^ n) t))), some (.d (.str (TI (tab (2 ^ n) t)).shown)), some (.d (TI (tab (2 ^ n) (spec n t)))), z8, z9, z10, z11, z12, z13, z14, z15, none, none, none, none] := by
  have p4 : 2 ^ n ≤ 16 := by have := two_le h4; simpa using this
  have pp := Nat.two_pow_pos n
  rw [L78_18, dSeq]
  simp only [dIfS, dNotT, dTru, dCall, dCons, dVar, dNil, dBin, dC]
  have draw : ∀ Ψ : Val → Prop, (∀ r : Nat, r < 2 ^ n → Ψ (.d (.int r))) → sp_law_draw [.pot, .d (.int ((2 ^ n : Nat) : Int))] Ψ := fun Ψ h => ⟨2 ^ n, rfl, pp, by omega, h⟩
  generalize hN : ((2 ^ n : Nat) : Int) = N at draw ⊢
  simp [-dSeq]
  refine draw _ fun r hr => ?_
  simp [-dSeq]
  refine ⟨n, r + 1, t, ?_, h1, by omega, by omega, by omega, ht, ?_⟩
  · push_cast; rw [Int.add_comm]
  · simp [-dSeq]
    rw [L78_19, dSeq]
    simp [-dSeq]
    refine ⟨n, t, rfl, by omega, ht, ?_⟩
    simp [-dSeq]
    refine shown_bits (bits_tab ht) (by rw [tab_length]; omega) ?_
    rw [eq_str]
abbrev E78 (n : Nat) (t : Nat → Int) (e4 z8 z9 z10 z11 z12 z13 z14 z15 : Option Val) : Env := [none, some .pot, some (.d (.int n)), some (.d (.int ((2 ^ n : Nat) : Int))), e4, some (.d (TI (tab (2 ^ n) t))), some (.d (.str (TI (tab (2 ^ n) t)).shown)), some (.d (TI (tab (2 ^ n) (spec n t)))), z8, z9, z10, z11, z12, z13, z14, z15, none, none, none, none]
theorem row_x (k p : Nat) (b : Nat) (hb : b < 2) : (rowN k p).map PyData.int ++ [.int (b : Int)] = (rowN (k + 1) (2 * p + b)).map .int := by
  rcases (show b = 0 ∨ b = 1 by omega) with rfl | rfl
  · exact row_0 k p
  · exact row_1 k p
theorem t17 (h1 : 1 ≤ n) (h4 : n ≤ 4) (ht : BitF (2 ^ n) t) (z8 : Option Val) (z9 : Option PyData) (z10 z11 : Option Val) : L78_17 KT (E78 n t e4 z8 (z9.map Val.d) z10 z11 none none none none) := by
  have p4 : 2 ^ n ≤ 16 := by have := two_le h4; simpa using this
  rw [L78_17, dSeq]
  simp only [dFor, dRng1, dCons, dC, dNil]
  refine ⟨4, rfl, by decide, by decide, ?_⟩
  refine forW_range _ 4 (fun j e => ∃ (z9 : Option PyData) (z12 z13 z14 z15 : Option Val), e = E78 n t e4 z8 (z9.map Val.d) z10 z11 z12 z13 z14 z15) ?_ ?_ _ ⟨z9, none, none, none, none, rfl⟩
  · rintro e ⟨z9, z12, z13, z14, z15, rfl⟩
    exact t19 h1 h4 ht _ _ _ _ _ _ _ _
  · rintro j hj e ⟨z9, z12, z13, z14, z15, rfl⟩ N hN
    unfold E78 at hN ⊢
    generalize hNN : ((2 ^ n : Nat) : Int) = NN at hN ⊢
    have comp : ∀ (Ψ : List PyData → Env → Prop) (a0 a2 a3 a4 a5 a6 a7 a8 a10 a11 a12 a13 a14 a15 : Option Val) (m : Nat), m ≤ 1000 → (∀ xs : List Int, xs.length = m → Bits xs → Ψ (xs.map .int) [a0, some .pot, a2, a3, a4, a5, a6, a7, a8, none, a10, a11, a12, a13, a14, a15, none, none, none, none]) →
        compW (tName 9) dYes (dCall 2 sp_law_draw (dCons (dVar 1) (dCons (dC (.int 2)) dNil))) [9] ((List.range m).map fun (i : Nat) => PyData.int i) [a0, some .pot, a2, a3, a4, a5, a6, a7, a8, none, a10, a11, a12, a13, a14, a15, none, none, none, none] [] Ψ := fun Ψ a0 a2 a3 a4 a5 a6 a7 a8 a10 a11 a12 a13 a14 a15 m hm h => by
      refine compW_any (fun i : Nat => PyData.int i) (fun d => ∃ r : Nat, r < 2 ∧ d = .int r) (List.range m) [] (by simp; omega) (fun i hi M hM => ?_) (fun es el he => ?_)
      · simp [-dSeq]
        exact ⟨2, rfl, by decide, by decide, fun r hr => by simp; exact hM _ ⟨r, hr, rfl⟩⟩
      · obtain ⟨xs, rfl, hx⟩ := bits_of he
        simp at el
        exact h xs el hx
    have rest : ∀ (z9 : Option PyData) (xs : List Int) (z12 z14 z15 : Option Val), xs.length ≤ n → Bits xs →
        dSeq (dSet 14 (dCall 2 sp_law_weight (dCons (dVar 7) (dCons (dVar 13) dNil)))) (dSeq (dIfS (dOrT (dTst (dBin oNe (dCall 2 sp_begin_weight (dCons (dVar 5) (dCons (dVar 13) dNil))) (dVar 14))) (dTst (dBin oNe (dCall 2 sp_weight_by_shifts (dCons (dVar 5) (dCons (dVar 13) dNil))) (dVar 14)))) (dSeq (dRet (dC (.bool false))) dNext) dNext) (dSeq (dSet 15 (dIf (dTst (dBin oLt (dUn oLen (dVar 13)) (dVar 2))) (dUn oTuple (dLc [19] (dSeqI (dTup (dCons (dC (.int 0)) (dCons (dC (.int 1)) dNil)))) (tName 19) dYes (dCall 2 sp_law_weight (dCons (dVar 7) (dCons (dBin oAdd (dVar 13) (dTup (dCons (dVar 19) dNil))) dNil))))) (dTup dNil))) (dSeq (dIfS (dAndT (dTst (dBin oLt (dUn oLen (dVar 13)) (dVar 2))) (dTst (dBin oNe (dCall 2 sp_weights_below (dCons (dVar 5) (dCons (dVar 13) dNil))) (dVar 15)))) (dSeq (dRet (dC (.bool false))) dNext) dNext) dNext)))
          { nx := N, rt := fun v => v = .d (.bool true), bk := L78_18 KT, ct := N } [none, some .pot, some (.d (.int n)), some (.d (.int NN)), e4, some (.d (TI (tab (2 ^ n) t))), some (.d (.str (TI (tab (2 ^ n) t)).shown)), some (.d (TI (tab (2 ^ n) (spec n t)))), z8, z9.map Val.d, z10, z11, z12, some (.d (TI xs)), z14, z15, none, none, none, none] := fun z9 xs z12 z14 z15 hl hb => by
      obtain ⟨p, hp, ex⟩ := bits_rowN hb
      generalize xs.length = k at *
      subst ex
      rw [dSeq]
      simp [-dSeq]
      refine ⟨n, k, p, spec n t, rfl, by omega, hl, hp, spec_lim (by omega) ht, ?_⟩
      simp [-dSeq]
      rw [dSeq]
      simp [-dSeq]
      refine ⟨n, k, p, t, rfl, by omega, hl, hp, ht, ?_⟩
      simp [-dSeq, oNe_int]
      refine ⟨n, k, p, t, rfl, by omega, hl, hp, ht, ?_⟩
      simp [-dSeq, oNe_int]
      rw [dSeq]
      by_cases hk : k < n
      · have hk2 : ¬ n ≤ k := by omega
        simp [-dSeq, rowN_length, hk, hk2]
        refine compW_all (fun b : Nat => PyData.int b) (fun b : Nat => .int (wt n (spec n t) (k + 1) (2 * p + b))) [0, 1] (by simp) (fun b hb' M hM => ?_) ?_
        · have hb2 : b < 2 := by simp at hb'; omega
          simp [-dSeq, rowN_length]
          rw [row_x k p b hb2]
          have q : 2 ^ (k + 1) = 2 * 2 ^ k := by rw [Nat.pow_succ]; omega
          refine ⟨by omega, n, k + 1, 2 * p + b, spec n t, rfl, by omega, hk, by omega, spec_lim (by omega) ht, ?_⟩
          simpa using hM
        · simp [-dSeq]
          rw [dSeq]
          simp [-dSeq, rowN_length, hk, hk2]
          refine ⟨n, k, p, t, rfl, by omega, hk, hp, ht, ?_⟩
          have l2 := lay_TI [wt n (spec n t) (k + 1) (2 * p), wt n (spec n t) (k + 1) (2 * p + 1)]
          have e2 : PyData.tuple [.int (wt n (spec n t) (k + 1) (2 * p)), .int (wt n (spec n t) (k + 1) (2 * p + 1))] = TI [wt n (spec n t) (k + 1) (2 * p), wt n (spec n t) (k + 1) (2 * p + 1)] := rfl
          rw [e2]
          simp only [ne_same l2 (show 1 ≤ 64 by decide)]
          simp
          exact hN _ ⟨z9, _, _, _, _, rfl⟩
      · have hk2 : n ≤ k := by omega
        simp [-dSeq, rowN_length, hk, hk2]
        rw [dSeq]
        simp [-dSeq, rowN_length, hk, hk2]
        exact hN _ ⟨z9, _, _, _, _, rfl⟩
    simp [-dSeq]
    rw [dSeq]
    simp [-dSeq]
    refine ⟨n + 1, by simp, by omega, by omega, fun r hr => ?_⟩
    simp [-dSeq]
    refine ⟨by omega, ?_⟩
    refine comp _ _ _ _ _ _ _ _ _ _ _ _ _ _ _ r (by omega) fun xs hx hb => ?_
    cases z9 with
    | none => simp [-dSeq]; exact rest none xs _ _ _ (by omega) hb
    | some x => simp [-dSeq]; exact rest (some x) xs _ _ _ (by omega) hb
theorem t16 (h1 : 1 ≤ n) (h4 : n ≤ 4) (ht : BitF (2 ^ n) t) (z8 : Option Val) (z9 : Option PyData) (z10 : Option Val) : L78_16 KT (E78 n t e4 z8 (z9.map Val.d) z10 (some (.d (TI (tab (2 ^ n) (shifts n t))))) none none none none) := by
  have go := t17 (e4 := e4) h1 h4 ht z8 z9 z10 (some (.d (TI (tab (2 ^ n) (shifts n t)))))
  unfold E78 at go ⊢
  rw [L78_16, dSeq]
  generalize hNN : ((2 ^ n : Nat) : Int) = NN at go ⊢
  simp [-dSeq]
  refine ⟨n, t, t, rfl, by omega, ht, ht, ?_⟩
  rw [show conv n (sg t) (sg t) = shifts n t from rfl]
  simp [-dSeq, ne_TI]
  refine ⟨n, t, shifts n t, rfl, by omega, ht, fun _ => ?_, fun p _ _ hne => (hne rfl).elim⟩
  simp [-dSeq]
  exact go
theorem t15 (h1 : 1 ≤ n) (h4 : n ≤ 4) (ht : BitF (2 ^ n) t) (z8 : Option Val) (z9 : Option PyData) {k : Nat} (hk : k < 2 ^ n) : L78_15 KT (E78 n t e4 z8 (z9.map Val.d) (some (.d (.int k))) (some (.d (TI (tab (2 ^ n) (shifts n t))))) none none none none) := by
  have go := t16 (e4 := e4) h1 h4 ht z8 z9 (some (.d (.int k)))
  unfold E78 at go ⊢
  rw [L78_15, dSeq]
  generalize hNN : ((2 ^ n : Nat) : Int) = NN at go ⊢
  simp [-dSeq]
  refine ⟨n, t, rfl, by omega, ht, ?_⟩
  simp [-dSeq, ne_TI]
  refine ⟨n, k, rfl, by omega, ?_⟩
  simp [-dSeq]
  refine ⟨n, k, t, _, rfl, by omega, ht, place_rowN n k hk, hk, ?_⟩
  simp [-dSeq, stepped_get hk, oNe_int]
  exact go
theorem t14 (h1 : 1 ≤ n) (h4 : n ≤ 4) (ht : BitF (2 ^ n) t) (z8 : Option Val) (z9 : Option PyData) {k : Nat} (hk : k < 2 ^ n) : L78_14 KT (E78 n t e4 z8 (z9.map Val.d) (some (.d (.int k))) none none none none none) := by
  have go := t15 (e4 := e4) h1 h4 ht z8 z9 hk
  have p4 : 2 ^ n ≤ 16 := by have := two_le h4; simpa using this
  unfold E78 at go ⊢
  rw [L78_14, dSeq]
  have comp : ∀ (Ψ : List PyData → Env → Prop) (a0 a1 a2 a3 a4 a6 a7 a8 a9 a10 a11 a12 a13 a14 a15 : Option Val), Ψ ((tab (2 ^ n) (shifts n t)).map .int) [a0, a1, a2, a3, a4, some (.d (TI (tab (2 ^ n) t))), a6, a7, a8, a9, a10, a11, a12, a13, a14, a15, none, none, none, none] →
      compW (tName 18) dYes (dCall 2 sp_law_shift (dCons (dVar 5) (dCons (dVar 18) dNil))) [18] ((List.range (2 ^ n)).map fun (i : Nat) => PyData.int i) [a0, a1, a2, a3, a4, some (.d (TI (tab (2 ^ n) t))), a6, a7, a8, a9, a10, a11, a12, a13, a14, a15, none, none, none, none] [] Ψ := fun Ψ a0 a1 a2 a3 a4 a6 a7 a8 a9 a10 a11 a12 a13 a14 a15 h => by
    rw [← ints_tab] at h
    refine compW_tab _ (fun d => .int (shifts n t d)) (by omega) (fun d hd M hM => ?_) h
    simp [-dSeq]
    exact ⟨n, d, t, rfl, by omega, hd, ht, by simpa using hM⟩
  generalize hNN : (2 ^ n : Nat) = NN at go comp p4 ⊢
  simp [-dSeq]
  refine ⟨by omega, ?_⟩
  refine comp _ _ _ _ _ _ _ _ _ _ _ _ _ _ _ _ ?_
  simp [-dSeq]
  exact go
theorem t13 (h1 : 1 ≤ n) (h4 : n ≤ 4) (ht : BitF (2 ^ n) t) (z8 : Option Val) (z9 : Option PyData) {k : Nat} (hk : k < 2 ^ n) : L78_13 KT (E78 n t e4 z8 (z9.map Val.d) (some (.d (.int k))) none none none none none) := by
  have go := t14 (e4 := e4) h1 h4 ht z8 z9 hk
  have p4 : 2 ^ n ≤ 16 := by have := two_le h4; simpa using this
  unfold E78 at go ⊢
  rw [L78_13, dSeq]
  have c1 : cutD ((tab (2 ^ n) (spec n t)).map PyData.int) none (some (k : Int)) = ((tab (2 ^ n) (spec n t)).map PyData.int).take k := cut_to (by simp [tab_length]; omega)
  have c2 : cutD ((tab (2 ^ n) (spec n t)).map PyData.int) (some ((k : Int) + 1)) none = ((tab (2 ^ n) (spec n t)).map PyData.int).drop (k + 1) := by
    rw [show (k : Int) + 1 = ((k + 1 : Nat) : Int) by omega]
    exact cut_from (by simp [tab_length]; omega)
  have c3 : ((tab (2 ^ n) (spec n t)).map PyData.int).take k ++ (PyData.int (spec n t k + 2) :: ((tab (2 ^ n) (spec n t)).map PyData.int).drop (k + 1)) = (tab (2 ^ n) fun i => if i = k then spec n t k + 2 else spec n t i).map .int := by
    rw [← tab_set, List.map_set, List.set_eq_take_append_cons_drop, if_pos (by simp [tab_length]; exact hk)]
  have err : ∀ Ψ : Val → Prop, Ψ (.d (T [.str "place", I k, I (spec n t k)])) → sp_spectrum_error [.d (TI (tab (2 ^ n) t)), .d (TI (tab (2 ^ n) fun i => if i = k then spec n t k + 2 else spec n t i))] Ψ := fun Ψ hΨ => by
    refine ⟨n, t, _, rfl, by omega, fun hall => ?_, fun p hp hb hne => ?_⟩
    · have := hall k hk
      simp at this
      omega
    · by_cases e : p = k
      · subst e; exact hΨ
      · simp [e] at hne
  have g := stepped_get (f := spec n t) hk
  have l3 := lay_err lay_str_place k (spec n t k)
  have lt1 : (((tab (2 ^ n) (spec n t)).map PyData.int).take k).length ≤ 16 := by rw [List.length_take]; simp [tab_length]; omega
  have lt2 : (((tab (2 ^ n) (spec n t)).map PyData.int).drop (k + 1)).length ≤ 16 := by rw [List.length_drop]; simp [tab_length]; omega
  generalize hNN : ((2 ^ n : Nat) : Int) = NN at go ⊢
  simp [-dSeq, c1, c2, g]
  rw [c3]
  have tl := tab_length (2 ^ n) (spec n t)
  refine ⟨by omega, by omega, err _ ?_⟩
  simp [-dSeq, ne_same l3 (show 1 ≤ 64 by decide)]
  exact go
theorem t12 (h1 : 1 ≤ n) (h4 : n ≤ 4) (ht : BitF (2 ^ n) t) (z8 : Option Val) (z9 : Option PyData) {k : Nat} (hk : k < 2 ^ n) : L78_12 KT (E78 n t e4 z8 (z9.map Val.d) (some (.d (.int k))) none none none none none) := by
  have go := t13 (e4 := e4) h1 h4 ht z8 z9 hk
  unfold E78 at go ⊢
  rw [L78_12, dSeq]
  generalize hNN : ((2 ^ n : Nat) : Int) = NN at go ⊢
  simp [-dSeq]
  refine ⟨n, k, rfl, by omega, ?_⟩
  simp [-dSeq]
  refine ⟨n, k, t, _, rfl, by omega, place_rowN n k hk, hk, ?_⟩
  simp [-dSeq, stepped_get hk, oNe_int]
  exact go
theorem t10 (h1 : 1 ≤ n) (h4 : n ≤ 4) (ht : BitF (2 ^ n) t) (z9 : Option PyData) : L78_10 KT (E78 n t e4 (some (.d (TI (tab (2 ^ n) (spec n t))))) (z9.map Val.d) none none none none none none) := by
  have go := fun k hk => t12 (e4 := e4) h1 h4 ht (some (.d (TI (tab (2 ^ n) (spec n t))))) z9 (k := k) hk
  have p4 : 2 ^ n ≤ 16 := by have := two_le h4; simpa using this
  have pp := Nat.two_pow_pos n
  have draw : ∀ Ψ : Val → Prop, (∀ r : Nat, r < 2 ^ n → Ψ (.d (.int r))) → sp_law_draw [.pot, .d (.int ((2 ^ n : Nat) : Int))] Ψ := fun Ψ h => ⟨2 ^ n, rfl, pp, by omega, h⟩
  unfold E78 at go ⊢
  rw [L78_10, dSeq]
  generalize hNN : ((2 ^ n : Nat) : Int) = NN at go draw ⊢
  simp [-dSeq, ne_TI]
  rw [L78_11, dSeq]
  simp [-dSeq]
  exact draw _ fun r hr => go r hr
def stepI (n : Nat) (f : Nat → Int) (i : Int) : Nat → Int := stepB (n - 1 - i.toNat) f
theorem steps_fold : ∀ (m j : Nat) (f : Nat → Int), j + m = n → ((List.range' j m).map fun (i : Nat) => (i : Int)).foldl (stepI n) f = stepsB m f
  | 0, j, f, _ => rfl
  | m + 1, j, f, e => by
    rw [List.range'_succ, List.map_cons, List.foldl_cons, steps_fold m (j + 1) _ (by omega)]
    unfold stepI
    rw [Int.toNat_natCast, show n - 1 - j = m by omega]; rfl
theorem steps_perm {ms : List Int} {f : Nat → Int} (hp : ms.Perm ((List.range n).map fun (i : Nat) => (i : Int))) : ms.foldl (stepI n) f = stepsB n f := by
  rw [List.Perm.foldl_eq' hp (fun x _ y _ z => stepB_comm _ _ _) f, List.range_eq_range']
  exact steps_fold n 0 f (by omega)
theorem t8 (h1 : 1 ≤ n) (h4 : n ≤ 4) (ht : BitF (2 ^ n) t) : L78_8 KT (E78 n t e4 none none none none none none none none) := by
  have go := fun z9 => t10 (e4 := e4) h1 h4 ht z9
  have p4 : 2 ^ n ≤ 16 := by have := two_le h4; simpa using this
  unfold E78 at go ⊢
  rw [L78_8, dSeq]
  generalize hNN : ((2 ^ n : Nat) : Int) = NN at go ⊢
  simp [-dSeq]
  refine compW_ints (fun i => .int (sg t i)) (by omega) (fun i hi M hM => ?_) ?_
  · simp [-dSeq]
    exact ⟨cm_small (by omega), hM⟩
  · rw [ints_tab]
    simp [-dSeq]
    rw [L78_9, dSeq]
    simp [-dSeq]
    refine ⟨⟨by omega, by omega, by omega, by omega, by omega⟩, ?_⟩
    refine ⟨(List.range n).map fun (i : Nat) => (i : Int), by unfold rngD; simp [List.map_map, Function.comp_def], by simp; omega, fun ms hp => ?_⟩
    simp [-dSeq]
    refine forW_map PyData.int (fun r e => ∃ (f : Nat → Int) (z9 : Option PyData), e = [none, some .pot, some (.d (.int n)), some (.d (.int NN)), e4, some (.d (TI (tab (2 ^ n) t))), some (.d (.str (TI (tab (2 ^ n) t)).shown)), some (.d (TI (tab (2 ^ n) (spec n t)))), some (.d (TI (tab (2 ^ n) f))), z9.map Val.d, none, none, none, none, none, none, none, none, none, none] ∧ r.foldl (stepI n) f = stepsB n (sg t) ∧ ∀ i ∈ r, 0 ≤ i ∧ i < n) ?_ ?_ ms _ ⟨sg t, none, rfl, steps_perm hp, fun i hi => ?_⟩
    · rintro e ⟨f, z9, rfl, h2, _⟩
      have h2 : f = stepsB n (sg t) := h2
      have e2 : tab (2 ^ n) f = tab (2 ^ n) (spec n t) := by
        rw [h2]
        exact tab_congr fun i hi => stepsB_eq hi
      rw [e2]
      exact go z9
    · rintro i r e ⟨f, z9, rfl, h2, h3⟩ N hN
      obtain ⟨b1, b2⟩ := h3 i (List.mem_cons_self ..)
      obtain ⟨j, rfl⟩ := Int.eq_ofNat_of_zero_le b1
      rw [List.foldl_cons] at h2
      simp
      refine ⟨n, j, f, rfl, by omega, by omega, ?_⟩
      simp
      exact hN _ ⟨stepB (n - 1 - j) f, some (.int j), rfl, h2, fun i' hi => h3 i' (List.mem_cons_of_mem _ hi)⟩
    · obtain ⟨j, hj, rfl⟩ := List.mem_map.mp (hp.mem_iff.mp hi)
      have := List.mem_range.mp hj
      omega
theorem t5 (h1 : 1 ≤ n) (h4 : n ≤ 4) (ht : BitF (2 ^ n) t) : L78_5 KT (E78 n t e4 none none none none none none none none) := by
  have go := t8 (e4 := e4) h1 h4 ht
  have p4 : 2 ^ n ≤ 16 := by have := two_le h4; simpa using this
  have sl := spec_lim (show n ≤ 20 by omega) ht
  have pv := parseval n ht
  have sq : ((2 ^ (2 * n) : Nat) : Int) = ((2 ^ n : Nat) : Int) * ((2 ^ n : Nat) : Int) := by rw [show 2 * n = n + n by omega, Nat.pow_add]; push_cast; rfl
  rw [sq] at pv
  have hnb : ((2 ^ n : Nat) : Int) ≤ 16 := by omega
  have hnb0 : (0 : Int) ≤ ((2 ^ n : Nat) : Int) := Int.natCast_nonneg _
  unfold E78 at go ⊢
  rw [L78_5, dSeq]
  generalize hNN : ((2 ^ n : Nat) : Int) = NN at go pv hnb hnb0 ⊢
  simp [-dSeq]
  refine ⟨n, t, rfl, by omega, ?_⟩
  simp [-dSeq, ne_TI]
  refine ⟨n, t, _, rfl, by omega, fun _ => ?_, fun p _ _ hne => (hne rfl).elim⟩
  simp [-dSeq]
  refine ⟨n, t, rfl, by omega, ht, ?_⟩
  simp [-dSeq, ne_TI]
  rw [L78_6, dSeq]
  simp [-dSeq]
  refine ⟨n, t, rfl, by omega, ht, ?_⟩
  simp [-dSeq]
  refine ⟨2 ^ n, _, rfl, by omega, sl, ?_⟩
  rw [pv]
  simp [-dSeq, oNe_int]
  refine ⟨cm_small (by omega), ?_⟩
  rw [L78_7, dSeq]
  simp [-dSeq]
  refine ⟨2 ^ n, _, rfl, by omega, sl, ?_⟩
  simp [-dSeq]
  refine compW_ints (fun i => .int (spec n t i * spec n t i * spec n t i)) (by omega) (fun i hi M hM => ?_) (sum_tab ?_)
  · have b := sl i hi
    simp [-dSeq]
    exact ⟨cm_small (by omega), cm_small' (by omega), hM⟩
  · simp [-dSeq, oNe_int]
    exact go
theorem t4 (h1 : 1 ≤ n) (h4 : n ≤ 4) (ht : BitF (2 ^ n) t) : L78_4 KT [none, some .pot, some (.d (.int n)), some (.d (.int ((2 ^ n : Nat) : Int))), e4, some (.d (TI (tab (2 ^ n) t))), none, none, none, none, none, none, none, none, none, none, none, none, none, none] := by
  have go := t5 (e4 := e4) h1 h4 ht
  have p4 : 2 ^ n ≤ 16 := by have := two_le h4; simpa using this
  unfold E78 at go
  rw [L78_4, dSeq]
  have comp : ∀ (Ψ : List PyData → Env → Prop) (a0 a1 a2 a4 a5 a6 a7 a8 a9 a10 a11 a12 a13 a14 a15 : Option Val), Ψ ((tab (2 ^ n) (spec n t)).map .int) [a0, a1, a2, some (.d (.int ((2 ^ n : Nat) : Int))), a4, a5, a6, a7, a8, a9, a10, a11, a12, a13, a14, a15, none, none, none, none] →
      compW (tName 17) dYes (dBin oSub (dVar 3) (dBin oMul (dC (.int 2)) (dVar 17))) [17] ((tab (2 ^ n) (nearF n t)).map .int) [a0, a1, a2, some (.d (.int ((2 ^ n : Nat) : Int))), a4, a5, a6, a7, a8, a9, a10, a11, a12, a13, a14, a15, none, none, none, none] [] Ψ := fun Ψ a0 a1 a2 a4 a5 a6 a7 a8 a9 a10 a11 a12 a13 a14 a15 h => by
    rw [← ints_tab] at h
    refine compW_ints (fun d => .int (spec n t d)) (by omega) (fun d hd M hM => ?_) h
    have ns := near_spec hd ht
    generalize ((2 ^ n : Nat) : Int) = NN at ns hM ⊢
    simp [-dSeq]
    rw [ns]
    exact ⟨cm_small (by omega), hM⟩
  generalize hNN : ((2 ^ n : Nat) : Int) = NN at go comp ⊢
  simp [-dSeq]
  refine shown_bits (bits_tab ht) (by rw [tab_length]; omega) ?_
  refine ⟨n, t, rfl, by omega, ht, ?_⟩
  simp [-dSeq]
  refine comp _ _ _ _ _ _ _ _ _ _ _ _ _ _ _ _ ?_
  simp [-dSeq]
  exact go
/-- bits as a table -/
theorem tab_bits {xs : List Int} (h : Bits xs) : ∃ t, xs = tab xs.length t ∧ BitF xs.length t := by
  refine ⟨fun i => xs.getD i 0, tab_of xs, fun i hi => ?_⟩
  have e : xs.getD i 0 = xs[i] := by simp [hi]
  simp only [e]
  exact h _ (List.getElem_mem hi)
theorem t3 (h1 : 1 ≤ n) (h4 : n ≤ 4) (ht : BitF (2 ^ n) t) : L78_3 KT [none, some .pot, some (.d (.int n)), some (.d (.int ((2 ^ n : Nat) : Int))), e4, some (.own ((tab (2 ^ n) t).map .int)), none, none, none, none, none, none, none, none, none, none, none, none, none, none] := by
  have go := fun (t : Nat → Int) ht => t4 (e4 := e4) (t := t) h1 h4 ht
  have p4 : 2 ^ n ≤ 16 := by have := two_le h4; simpa using this
  rw [L78_3, dSeq]
  have comp : ∀ (Ψ : List PyData → Env → Prop) (a0 a2 a3 a4 a5 a6 a7 a8 a9 a11 a12 a13 a14 a15 : Option Val), (∀ t, BitF (2 ^ n) t → Ψ ((tab (2 ^ n) t).map .int) [a0, some .pot, a2, a3, a4, a5, a6, a7, a8, a9, none, a11, a12, a13, a14, a15, none, none, none, none]) →
      compW (tName 10) dYes (dCall 2 sp_law_draw (dCons (dVar 1) (dCons (dC (.int 2)) dNil))) [10] ((List.range (2 ^ n)).map fun (i : Nat) => PyData.int i) [a0, some .pot, a2, a3, a4, a5, a6, a7, a8, a9, none, a11, a12, a13, a14, a15, none, none, none, none] [] Ψ := fun Ψ a0 a2 a3 a4 a5 a6 a7 a8 a9 a11 a12 a13 a14 a15 h => by
    refine compW_any (fun i : Nat => PyData.int i) (fun d => ∃ r : Nat, r < 2 ∧ d = .int r) (List.range (2 ^ n)) [] (by simp; omega) (fun i hi M hM => ?_) (fun es el he => ?_)
    · simp [-dSeq]
      exact ⟨2, rfl, by decide, by decide, fun r hr => by simp; exact hM _ ⟨r, hr, rfl⟩⟩
    · obtain ⟨xs, rfl, hx⟩ := bits_of he
      have el : xs.length = 2 ^ n := by simpa using el
      obtain ⟨t, e1, e2⟩ := tab_bits hx
      rw [el] at e1 e2
      rw [e1]
      exact h t e2
  generalize hNN : (2 ^ n : Nat) = NN at go comp p4 ht ⊢
  simp [-dSeq]
  refine ⟨3, rfl, by decide, by decide, fun r hr => ?_⟩
  simp [-dSeq, oEq_int]
  by_cases c : r = 0
  · subst c
    simp [-dSeq]
    refine ⟨by omega, comp _ _ _ _ _ _ _ _ _ _ _ _ _ _ _ fun t' ht' => ?_⟩
    simp [-dSeq]
    exact go t' ht'
  · simp [-dSeq, c]
    exact go t ht
theorem t0 : L78_0 KT [none, some .pot, none, none, none, none, none, none, none, none, none, none, none, none, none, none, none, none, none, none] := by
  have go := fun (n : Nat) h1 h4 (e4 : Option Val) (t : Nat → Int) ht => t3 (n := n) (e4 := e4) (t := t) h1 h4 ht
  rw [L78_0, dSeq]
  simp [-dSeq]
  refine ⟨_, [.int 3, .int 4], rfl, rfl, by simp, by simp, fun y hy => ?_⟩
  obtain ⟨m, rfl, hm⟩ : ∃ m : Nat, y = .int m ∧ (m = 3 ∨ m = 4) := by
    simp at hy
    rcases hy with rfl | rfl
    · exact ⟨3, rfl, .inl rfl⟩
    · exact ⟨4, rfl, .inr rfl⟩
  simp [-dSeq]
  refine ⟨m, rfl, by omega, by omega, fun r hr => ?_⟩
  have e0 : (1 : Int) + (r : Int) = ((r + 1 : Nat) : Int) := by omega
  simp [-dSeq]
  rw [e0]
  have go := go (r + 1) (by omega) (by omega)
  have n4 : r + 1 ≤ 4 := by omega
  generalize r + 1 = n at go n4 ⊢
  have p4 : 2 ^ n ≤ 16 := by have := two_le n4; simpa using this
  have compS : ∀ (Ψ : List PyData → Env → Prop) (a0 a2 a3 a4 a5 a6 a7 a8 a10 a11 a12 a13 a14 a15 : Option Val), (∀ p, p < 2 ^ n → Ψ ((rowN n p).map .int) [a0, some .pot, a2, a3, a4, a5, a6, a7, a8, none, a10, a11, a12, a13, a14, a15, none, none, none, none]) →
      compW (tName 9) dYes (dCall 2 sp_law_draw (dCons (dVar 1) (dCons (dC (.int 2)) dNil))) [9] ((List.range n).map fun (i : Nat) => PyData.int i) [a0, some .pot, a2, a3, a4, a5, a6, a7, a8, none, a10, a11, a12, a13, a14, a15, none, none, none, none] [] Ψ := fun Ψ a0 a2 a3 a4 a5 a6 a7 a8 a10 a11 a12 a13 a14 a15 h => by
    refine compW_any (fun i : Nat => PyData.int i) (fun d => ∃ r : Nat, r < 2 ∧ d = .int r) (List.range n) [] (by simp; omega) (fun i hi M hM => ?_) (fun es el he => ?_)
    · simp [-dSeq]
      exact ⟨2, rfl, by decide, by decide, fun r hr => by simp; exact hM _ ⟨r, hr, rfl⟩⟩
    · obtain ⟨xs, rfl, hx⟩ := bits_of he
      have el : xs.length = n := by simpa using el
      obtain ⟨p, hp, e⟩ := bits_rowN hx
      rw [el] at hp e
      rw [e]
      exact h p hp
  have compT : ∀ (Ψ : List PyData → Env → Prop) (a0 a2 a3 a4 a5 a6 a7 a8 a9 a10 a11 a12 a13 a14 a15 : Option Val) (p : Nat), (∀ t, BitF (2 ^ n) t → Ψ ((tab (2 ^ n) t).map .int) [a0, some .pot, a2, a3, a4, a5, a6, a7, a8, a9, a10, a11, a12, a13, a14, a15, none, none, none, none]) →
      compW (tName 16) dYes (dBin oXor (dVar 16) (dUn oInt (dBin oEq (dCall 2 sp_law_draw (dCons (dVar 1) (dCons (dC (.int 6)) dNil))) (dC (.int 0))))) [16] ((tab (2 ^ n) (par n p)).map .int) [a0, some .pot, a2, a3, a4, a5, a6, a7, a8, a9, a10, a11, a12, a13, a14, a15, none, none, none, none] [] Ψ := fun Ψ a0 a2 a3 a4 a5 a6 a7 a8 a9 a10 a11 a12 a13 a14 a15 p h => by
    rw [← ints_tab]
    refine compW_any (fun i : Nat => PyData.int (par n p i)) (fun d => ∃ r : Nat, r < 2 ∧ d = .int r) (List.range (2 ^ n)) [] (by simp; omega) (fun i hi M hM => ?_) (fun es el he => ?_)
    · simp [-dSeq]
      refine ⟨6, rfl, by decide, by decide, fun r hr => ?_⟩
      have pb : par n p i = 0 ∨ par n p i = 1 := prodR_bit _ _
      have m0 := hM (.int 0) ⟨0, by decide, rfl⟩
      have m1 := hM (.int 1) ⟨1, by decide, rfl⟩
      simp [-dSeq, oEq_int]
      by_cases c : r = 0
      · subst c
        simp
        rw [xor_bit pb (.inr rfl)]
        rcases pb with e | e <;> rw [e]
        · exact .inr m1
        · exact .inr m0
      · simp [c]
        rw [xor_bit pb (.inl rfl)]
        rcases pb with e | e <;> rw [e]
        · exact .inr m0
        · exact .inr m1
    · obtain ⟨xs, rfl, hx⟩ := bits_of he
      have el : xs.length = 2 ^ n := by simpa using el
      obtain ⟨t, e1, e2⟩ := tab_bits hx
      rw [el] at e1 e2
      rw [e1]
      exact h t e2
  rw [L78_1, dSeq]
  simp [-dSeq]
  refine ⟨⟨by omega, by omega, by decide⟩, by omega, ?_⟩
  rw [← two_cast]
  refine compS _ _ _ _ _ _ _ _ _ _ _ _ _ _ _ fun p hp => ?_
  generalize hNN : ((2 ^ n : Nat) : Int) = NN at go ⊢
  simp [-dSeq]
  rw [L78_2, dSeq]
  simp [-dSeq]
  refine ⟨n, p, rfl, by omega, ?_⟩
  simp [-dSeq]
  refine compT _ _ _ _ _ _ _ _ _ _ _ _ _ _ _ _ p fun t ht => ?_
  simp [-dSeq]
  exact go _ t ht
end
theorem v_law78 : L78_0 (kRet fun v => v = .d (.bool true)) (envPot ["script", "pot", "n", "size", "s", "table", "kept", "values", "steps", "i", "k", "shifts", "turn", "begin", "weight", "below", "bit", "own", "d", "x"]) := by
  rw [KT_eq]
  exact t0
end Ev
set_option Elab.async false
set_option linter.all false
set_option maxRecDepth 100000
set_option maxHeartbeats 0
namespace Ev
open PySem PySem.Spec PyProof.Rows L2
def tst (i : Nat) : Stmt := PySem.Challenge.pw_fewbitsread_k78_whole_spectra_to_trees.main.body.getD i (.Pass ⟨0, 0, 0, 0⟩)
def glbs : List (Str × Int) := [("MAX_LISTED", 500)]
def txs0 : List (Str × Str × Nat) := [(("row_place" : Str), ("row_place" : Str), 6), (("row_at" : Str), ("row_at" : Str), 7), (("rows_added" : Str), ("rows_added" : Str), 8), (("rows_product" : Str), ("rows_product" : Str), 9), (("all_rows" : Str), ("all_rows" : Str), 10), (("is_integer_spectra" : Str), ("is_integer" : Str), 12), (("are_integers" : Str), ("are_integers" : Str), 14), (("signs_of" : Str), ("signs_of" : Str), 15), (("stepped" : Str), ("stepped" : Str), 16), (("letter_step" : Str), ("letter_step" : Str), 17), (("led_through" : Str), ("led_through" : Str), 18), (("spectrum" : Str), ("spectrum" : Str), 19), (("spectrum_at" : Str), ("spectrum_at" : Str), 20), (("first_unlike" : Str), ("first_unlike" : Str), 21), (("spectrum_error" : Str), ("spectrum_error" : Str), 22), (("crossed_sums" : Str), ("crossed_sums" : Str), 24), (("shift_sums" : Str), ("shift_sums" : Str), 25), (("shift_sum" : Str), ("shift_sum" : Str), 26), (("shift_paper_error" : Str), ("shift_paper_error" : Str), 27), (("table_letters" : Str), ("table_letters" : Str), 29)]
def txs1 : List (Str × Str × Nat) := [(("is_integer_tapes" : Str), ("is_integer" : Str), 31), (("is_integer" : Str), ("is_integer" : Str), 31), (("power_of_two_tapes" : Str), ("power_of_two" : Str), 33), (("weight_in" : Str), ("weight_in" : Str), 36), (("begin_weight" : Str), ("begin_weight" : Str), 37), (("weight_by_shifts" : Str), ("weight_by_shifts" : Str), 38), (("weights_below" : Str), ("weights_below" : Str), 39), (("tree_levels" : Str), ("tree_levels" : Str), 41), (("tree_paper" : Str), ("tree_paper" : Str), 42), (("is_begin" : Str), ("is_begin" : Str), 43), (("is_item" : Str), ("is_item" : Str), 44), (("tree_error" : Str), ("tree_error" : Str), 45), (("tree_widths" : Str), ("tree_widths" : Str), 46), (("rows_at" : Str), ("rows_at" : Str), 48), (("great_rows" : Str), ("great_rows" : Str), 49), (("great_of_paper" : Str), ("great_of_paper" : Str), 50), (("rows_most" : Str), ("rows_most" : Str), 51), (("power_of_two_rankcounts" : Str), ("power_of_two" : Str), 53), (("power_of_two" : Str), ("power_of_two" : Str), 53), (("rows_through" : Str), ("rows_through" : Str), 56)]
def txs2 : List (Str × Str × Nat) := [(("table_size" : Str), ("table_size" : Str), 57), (("led_table" : Str), ("led_table" : Str), 58), (("led_spectrum" : Str), ("led_spectrum" : Str), 59), (("is_spectrum" : Str), ("is_spectrum" : Str), 61), (("table_of_spectrum" : Str), ("table_of_spectrum" : Str), 62), (("squares_sum" : Str), ("squares_sum" : Str), 63), (("cubes_sum" : Str), ("cubes_sum" : Str), 64), (("_law_pot" : Str), ("_law_pot" : Str), 66), (("_law_draw" : Str), ("_law_draw" : Str), 67), (("_law_pick" : Str), ("_law_pick" : Str), 68), (("_law_mixed" : Str), ("_law_mixed" : Str), 69), (("_law_rows" : Str), ("_law_rows" : Str), 70), (("_law_place" : Str), ("_law_place" : Str), 71), (("_law_row_at" : Str), ("_law_row_at" : Str), 72), (("_law_added" : Str), ("_law_added" : Str), 73), (("_law_product" : Str), ("_law_product" : Str), 74), (("_law_sum_table" : Str), ("_law_sum_table" : Str), 75), (("_law_shift" : Str), ("_law_shift" : Str), 76), (("_law_near" : Str), ("_law_near" : Str), 77), (("_law_weight" : Str), ("_law_weight" : Str), 78)]
def txs3 : List (Str × Str × Nat) := [(("_law_tree" : Str), ("_law_tree" : Str), 79), (("_law_are_trees_right" : Str), ("_law_are_trees_right" : Str), 80), (("_law_is_led_right" : Str), ("_law_is_led_right" : Str), 81)]
def txs : List (Str × Str × Nat) := txs0 ++ txs1 ++ txs2 ++ txs3
def Texts (K : PySem.W.Frag) (mg : Str → Option Value) : Prop := ∀ d ∈ txs, ∃ (a : Addr) (fd : FuncData), TextAt K mg d.1 d.2.1 (tst d.2.2) a fd
section
variable {P : Program} {w : World} {K : PySem.W.Frag} {mg : Str → Option Value} {base : Heap}
def F_row_place : FnS := ⟨"row_place", ["row"], sp_row_place⟩
theorem c_row_place : (coB 60 ⟨["row", "found", "bit"], defScope (tst 6), [], glbs, false, ["row", "found", "bit"]⟩ (defBody (tst 6))).map (·.d) = some D_row_place := by kernel_rfl
theorem ok_row_place (m : Mods K mg glbs) (tx : Texts K mg) : OkAt P w K mg base 1 F_row_place := by
  obtain ⟨a, fd, T⟩ := tx _ (List.mem_of_getElem? (i := 0) rfl)
  exact add_def (k := 0) (f := F_row_place) (N := ["row", "found", "bit"]) (own := ["row", "found", "bit"]) m AllOk.nil T ⟨rfl, rfl, rfl, by decide +kernel, rfl, by decide +kernel, by decide +kernel⟩ (fun _ _ _ _ _ _ us hl => match us, hl with | [_], _ => rfl) (cb_get c_row_place) (fun args Φ _ h => v_row_place args Φ h)
def F_row_at : FnS := ⟨"row_at", ["n", "place"], sp_row_at⟩
theorem c_row_at : (coB 60 ⟨["n", "place", "found", "step"], defScope (tst 7), [], glbs, false, ["n", "place", "found", "step"]⟩ (defBody (tst 7))).map (·.d) = some D_row_at := by kernel_rfl
theorem ok_row_at (m : Mods K mg glbs) (tx : Texts K mg) : OkAt P w K mg base 1 F_row_at := by
  obtain ⟨a, fd, T⟩ := tx _ (List.mem_of_getElem? (i := 1) rfl)
  exact add_def (k := 0) (f := F_row_at) (N := ["n", "place", "found", "step"]) (own := ["n", "place", "found", "step"]) m AllOk.nil T ⟨rfl, rfl, rfl, by decide +kernel, rfl, by decide +kernel, by decide +kernel⟩ (fun _ _ _ _ _ _ us hl => match us, hl with | [_, _], _ => rfl) (cb_get c_row_at) (fun args Φ _ h => v_row_at args Φ h)
def F_rows_added : FnS := ⟨"rows_added", ["one", "other"], sp_rows_added⟩
theorem c_rows_added : (coB 60 ⟨["one", "other", "a", "b"], defScope (tst 8), [], glbs, false, ["one", "other", "a", "b"]⟩ (defBody (tst 8))).map (·.d) = some D_rows_added := by kernel_rfl
theorem ok_rows_added (m : Mods K mg glbs) (tx : Texts K mg) : OkAt P w K mg base 1 F_rows_added := by
  obtain ⟨a, fd, T⟩ := tx _ (List.mem_of_getElem? (i := 2) rfl)
  exact add_def (k := 0) (f := F_rows_added) (N := ["one", "other", "a", "b"]) (own := ["one", "other", "a", "b"]) m AllOk.nil T ⟨rfl, rfl, rfl, by decide +kernel, rfl, by decide +kernel, by decide +kernel⟩ (fun _ _ _ _ _ _ us hl => match us, hl with | [_, _], _ => rfl) (cb_get c_rows_added) (fun args Φ _ h => v_rows_added args Φ h)
def F_rows_product : FnS := ⟨"rows_product", ["one", "other"], sp_rows_product⟩
theorem c_rows_product : (coB 60 ⟨["one", "other", "a", "b"], defScope (tst 9), [], glbs, false, ["one", "other", "a", "b"]⟩ (defBody (tst 9))).map (·.d) = some D_rows_product := by kernel_rfl
theorem ok_rows_product (m : Mods K mg glbs) (tx : Texts K mg) : OkAt P w K mg base 1 F_rows_product := by
  obtain ⟨a, fd, T⟩ := tx _ (List.mem_of_getElem? (i := 3) rfl)
  exact add_def (k := 0) (f := F_rows_product) (N := ["one", "other", "a", "b"]) (own := ["one", "other", "a", "b"]) m AllOk.nil T ⟨rfl, rfl, rfl, by decide +kernel, rfl, by decide +kernel, by decide +kernel⟩ (fun _ _ _ _ _ _ us hl => match us, hl with | [_, _], _ => rfl) (cb_get c_rows_product) (fun args Φ _ h => v_rows_product args Φ h)
def F_all_rows : FnS := ⟨"all_rows", ["n"], sp_all_rows⟩
theorem c_all_rows : (coB 60 ⟨["n", "found", "step", "longer", "row"], defScope (tst 10), [], glbs, false, ["n", "found", "step", "longer", "row"]⟩ (defBody (tst 10))).map (·.d) = some D_all_rows := by kernel_rfl
theorem ok_all_rows (m : Mods K mg glbs) (tx : Texts K mg) : OkAt P w K mg base 1 F_all_rows := by
  obtain ⟨a, fd, T⟩ := tx _ (List.mem_of_getElem? (i := 4) rfl)
  exact add_def (k := 0) (f := F_all_rows) (N := ["n", "found", "step", "longer", "row"]) (own := ["n", "found", "step", "longer", "row"]) m AllOk.nil T ⟨rfl, rfl, rfl, by decide +kernel, rfl, by decide +kernel, by decide +kernel⟩ (fun _ _ _ _ _ _ us hl => match us, hl with | [_], _ => rfl) (cb_get c_all_rows) (fun args Φ _ h => v_all_rows args Φ h)
def F_is_integer_spectra : FnS := ⟨"is_integer_spectra", ["value"], sp_is_integer⟩
theorem c_is_integer_spectra : (coB 60 ⟨["value"], defScope (tst 12), [], glbs, false, ["value"]⟩ (defBody (tst 12))).map (·.d) = some D_is_integer := by kernel_rfl
theorem ok_is_integer_spectra (m : Mods K mg glbs) (tx : Texts K mg) : OkAt P w K mg base 1 F_is_integer_spectra := by
  obtain ⟨a, fd, T⟩ := tx _ (List.mem_of_getElem? (i := 5) rfl)
  exact add_def (k := 0) (f := F_is_integer_spectra) (N := ["value"]) (own := ["value"]) m AllOk.nil T ⟨rfl, rfl, rfl, by decide +kernel, rfl, by decide +kernel, by decide +kernel⟩ (fun _ _ _ _ _ _ us hl => match us, hl with | [_], _ => rfl) (cb_get c_is_integer_spectra) (fun args Φ _ h => v_is_integer args Φ h)
def F_are_integers : FnS := ⟨"are_integers", ["value", "many"], sp_are_integers⟩
theorem c_are_integers : (coB 60 ⟨["value", "many", "item"], defScope (tst 14), [F_is_integer_spectra], glbs, false, ["value", "many", "item"]⟩ (defBody (tst 14))).map (·.d) = some D_are_integers := by kernel_rfl
theorem ok_are_integers (m : Mods K mg glbs) (tx : Texts K mg) : OkAt P w K mg base 2 F_are_integers := by
  obtain ⟨a, fd, T⟩ := tx _ (List.mem_of_getElem? (i := 6) rfl)
  exact add_def (k := 1) (f := F_are_integers) (N := ["value", "many", "item"]) (own := ["value", "many", "item"]) m (AllOk.cons AllOk.nil ((ok_is_integer_spectra m tx).mono (by decide))) T ⟨rfl, rfl, rfl, by decide +kernel, rfl, by decide +kernel, by decide +kernel⟩ (fun _ _ _ _ _ _ us hl => match us, hl with | [_, _], _ => rfl) (cb_get c_are_integers) (fun args Φ _ h => v_are_integers args Φ h)
def F_signs_of : FnS := ⟨"signs_of", ["table"], sp_signs_of⟩
theorem c_signs_of : (coB 60 ⟨["table", "bit"], defScope (tst 15), [], glbs, false, ["table", "bit"]⟩ (defBody (tst 15))).map (·.d) = some D_signs_of := by kernel_rfl
theorem ok_signs_of (m : Mods K mg glbs) (tx : Texts K mg) : OkAt P w K mg base 1 F_signs_of := by
  obtain ⟨a, fd, T⟩ := tx _ (List.mem_of_getElem? (i := 7) rfl)
  exact add_def (k := 0) (f := F_signs_of) (N := ["table", "bit"]) (own := ["table", "bit"]) m AllOk.nil T ⟨rfl, rfl, rfl, by decide +kernel, rfl, by decide +kernel, by decide +kernel⟩ (fun _ _ _ _ _ _ us hl => match us, hl with | [_], _ => rfl) (cb_get c_signs_of) (fun args Φ _ h => v_signs_of args Φ h)
def F_stepped : FnS := ⟨"stepped", ["values", "stride"], sp_stepped⟩
theorem c_stepped : (coB 60 ⟨["values", "stride", "found", "begin", "place", "one", "other"], defScope (tst 16), [], glbs, false, ["values", "stride", "found", "begin", "place", "one", "other"]⟩ (defBody (tst 16))).map (·.d) = some D_stepped := by kernel_rfl
theorem ok_stepped (m : Mods K mg glbs) (tx : Texts K mg) : OkAt P w K mg base 1 F_stepped := by
  obtain ⟨a, fd, T⟩ := tx _ (List.mem_of_getElem? (i := 8) rfl)
  exact add_def (k := 0) (f := F_stepped) (N := ["values", "stride", "found", "begin", "place", "one", "other"]) (own := ["values", "stride", "found", "begin", "place", "one", "other"]) m AllOk.nil T ⟨rfl, rfl, rfl, by decide +kernel, rfl, by decide +kernel, by decide +kernel⟩ (fun _ _ _ _ _ _ us hl => match us, hl with | [_, _], _ => rfl) (cb_get c_stepped) (fun args Φ _ h => v_stepped args Φ h)
def F_letter_step : FnS := ⟨"letter_step", ["values", "i"], sp_letter_step⟩
theorem c_letter_step : (coB 60 ⟨["values", "i", "stride", "step"], defScope (tst 17), [F_stepped], glbs, false, ["values", "i", "stride", "step"]⟩ (defBody (tst 17))).map (·.d) = some D_letter_step := by kernel_rfl
theorem ok_letter_step (m : Mods K mg glbs) (tx : Texts K mg) : OkAt P w K mg base 2 F_letter_step := by
  obtain ⟨a, fd, T⟩ := tx _ (List.mem_of_getElem? (i := 9) rfl)
  exact add_def (k := 1) (f := F_letter_step) (N := ["values", "i", "stride", "step"]) (own := ["values", "i", "stride", "step"]) m (AllOk.cons AllOk.nil ((ok_stepped m tx).mono (by decide))) T ⟨rfl, rfl, rfl, by decide +kernel, rfl, by decide +kernel, by decide +kernel⟩ (fun _ _ _ _ _ _ us hl => match us, hl with | [_, _], _ => rfl) (cb_get c_letter_step) (fun args Φ _ h => v_letter_step args Φ h)
def F_led_through : FnS := ⟨"led_through", ["values"], sp_led_through⟩
theorem c_led_through : (coB 60 ⟨["values", "stride"], defScope (tst 18), [F_stepped], glbs, false, ["values", "stride"]⟩ (defBody (tst 18))).map (·.d) = some D_led_through := by kernel_rfl
theorem ok_led_through (m : Mods K mg glbs) (tx : Texts K mg) : OkAt P w K mg base 2 F_led_through := by
  obtain ⟨a, fd, T⟩ := tx _ (List.mem_of_getElem? (i := 10) rfl)
  exact add_def (k := 1) (f := F_led_through) (N := ["values", "stride"]) (own := ["values", "stride"]) m (AllOk.cons AllOk.nil ((ok_stepped m tx).mono (by decide))) T ⟨rfl, rfl, rfl, by decide +kernel, rfl, by decide +kernel, by decide +kernel⟩ (fun _ _ _ _ _ _ us hl => match us, hl with | [_], _ => rfl) (cb_get c_led_through) (fun args Φ _ h => v_led_through args Φ h)
def F_spectrum : FnS := ⟨"spectrum", ["table"], sp_spectrum⟩
theorem c_spectrum : (coB 60 ⟨["table"], defScope (tst 19), [F_led_through, F_signs_of], glbs, false, ["table"]⟩ (defBody (tst 19))).map (·.d) = some D_spectrum := by kernel_rfl
theorem ok_spectrum (m : Mods K mg glbs) (tx : Texts K mg) : OkAt P w K mg base 3 F_spectrum := by
  obtain ⟨a, fd, T⟩ := tx _ (List.mem_of_getElem? (i := 11) rfl)
  exact add_def (k := 2) (f := F_spectrum) (N := ["table"]) (own := ["table"]) m (AllOk.cons (AllOk.cons AllOk.nil ((ok_signs_of m tx).mono (by decide))) ((ok_led_through m tx).mono (by decide))) T ⟨rfl, rfl, rfl, by decide +kernel, rfl, by decide +kernel, by decide +kernel⟩ (fun _ _ _ _ _ _ us hl => match us, hl with | [_], _ => rfl) (cb_get c_spectrum) (fun args Φ _ h => v_spectrum args Φ h)
def F_spectrum_at : FnS := ⟨"spectrum_at", ["table", "s"], sp_spectrum_at⟩
theorem c_spectrum_at : (coB 60 ⟨["table", "s"], defScope (tst 20), [F_spectrum, F_row_place], glbs, false, ["table", "s"]⟩ (defBody (tst 20))).map (·.d) = some D_spectrum_at := by kernel_rfl
theorem ok_spectrum_at (m : Mods K mg glbs) (tx : Texts K mg) : OkAt P w K mg base 4 F_spectrum_at := by
  obtain ⟨a, fd, T⟩ := tx _ (List.mem_of_getElem? (i := 12) rfl)
  exact add_def (k := 3) (f := F_spectrum_at) (N := ["table", "s"]) (own := ["table", "s"]) m (AllOk.cons (AllOk.cons AllOk.nil ((ok_row_place m tx).mono (by decide))) ((ok_spectrum m tx).mono (by decide))) T ⟨rfl, rfl, rfl, by decide +kernel, rfl, by decide +kernel, by decide +kernel⟩ (fun _ _ _ _ _ _ us hl => match us, hl with | [_, _], _ => rfl) (cb_get c_spectrum_at) (fun args Φ _ h => v_spectrum_at args Φ h)
def F_first_unlike : FnS := ⟨"first_unlike", ["value", "due"], sp_first_unlike⟩
theorem c_first_unlike : (coB 60 ⟨["value", "due", "place", "item"], defScope (tst 21), [], glbs, false, ["value", "due", "place", "item"]⟩ (defBody (tst 21))).map (·.d) = some D_first_unlike := by kernel_rfl
theorem ok_first_unlike (m : Mods K mg glbs) (tx : Texts K mg) : OkAt P w K mg base 1 F_first_unlike := by
  obtain ⟨a, fd, T⟩ := tx _ (List.mem_of_getElem? (i := 13) rfl)
  exact add_def (k := 0) (f := F_first_unlike) (N := ["value", "due", "place", "item"]) (own := ["value", "due", "place", "item"]) m AllOk.nil T ⟨rfl, rfl, rfl, by decide +kernel, rfl, by decide +kernel, by decide +kernel⟩ (fun _ _ _ _ _ _ us hl => match us, hl with | [_, _], _ => rfl) (cb_get c_first_unlike) (fun args Φ _ h => v_first_unlike args Φ h)
def F_spectrum_error : FnS := ⟨"spectrum_error", ["table", "value"], sp_spectrum_error⟩
theorem c_spectrum_error : (coB 60 ⟨["table", "value", "fault"], defScope (tst 22), [F_first_unlike, F_are_integers, F_spectrum], glbs, false, ["table", "value", "fault"]⟩ (defBody (tst 22))).map (·.d) = some D_spectrum_error := by kernel_rfl
theorem ok_spectrum_error (m : Mods K mg glbs) (tx : Texts K mg) : OkAt P w K mg base 4 F_spectrum_error := by
  obtain ⟨a, fd, T⟩ := tx _ (List.mem_of_getElem? (i := 14) rfl)
  exact add_def (k := 3) (f := F_spectrum_error) (N := ["table", "value", "fault"]) (own := ["table", "value", "fault"]) m (AllOk.cons (AllOk.cons (AllOk.cons AllOk.nil ((ok_spectrum m tx).mono (by decide))) ((ok_are_integers m tx).mono (by decide))) ((ok_first_unlike m tx).mono (by decide))) T ⟨rfl, rfl, rfl, by decide +kernel, rfl, by decide +kernel, by decide +kernel⟩ (fun _ _ _ _ _ _ us hl => match us, hl with | [_, _], _ => rfl) (cb_get c_spectrum_error) (fun args Φ _ h => v_spectrum_error args Φ h)
def F_crossed_sums : FnS := ⟨"crossed_sums", ["one", "other"], sp_crossed_sums⟩
theorem c_crossed_sums : (coB 60 ⟨["one", "other", "products", "a", "b", "item"], defScope (tst 24), [F_led_through, F_spectrum], glbs, false, ["one", "other", "products", "a", "b", "item"]⟩ (defBody (tst 24))).map (·.d) = some D_crossed_sums := by kernel_rfl
theorem ok_crossed_sums (m : Mods K mg glbs) (tx : Texts K mg) : OkAt P w K mg base 4 F_crossed_sums := by
  obtain ⟨a, fd, T⟩ := tx _ (List.mem_of_getElem? (i := 15) rfl)
  exact add_def (k := 3) (f := F_crossed_sums) (N := ["one", "other", "products", "a", "b", "item"]) (own := ["one", "other", "products", "a", "b", "item"]) m (AllOk.cons (AllOk.cons AllOk.nil ((ok_spectrum m tx).mono (by decide))) ((ok_led_through m tx).mono (by decide))) T ⟨rfl, rfl, rfl, by decide +kernel, rfl, by decide +kernel, by decide +kernel⟩ (fun _ _ _ _ _ _ us hl => match us, hl with | [_, _], _ => rfl) (cb_get c_crossed_sums) (fun args Φ _ h => v_crossed_sums args Φ h)
def F_shift_sums : FnS := ⟨"shift_sums", ["table"], sp_shift_sums⟩
theorem c_shift_sums : (coB 60 ⟨["table"], defScope (tst 25), [F_crossed_sums], glbs, false, ["table"]⟩ (defBody (tst 25))).map (·.d) = some D_shift_sums := by kernel_rfl
theorem ok_shift_sums (m : Mods K mg glbs) (tx : Texts K mg) : OkAt P w K mg base 5 F_shift_sums := by
  obtain ⟨a, fd, T⟩ := tx _ (List.mem_of_getElem? (i := 16) rfl)
  exact add_def (k := 4) (f := F_shift_sums) (N := ["table"]) (own := ["table"]) m (AllOk.cons AllOk.nil ((ok_crossed_sums m tx).mono (by decide))) T ⟨rfl, rfl, rfl, by decide +kernel, rfl, by decide +kernel, by decide +kernel⟩ (fun _ _ _ _ _ _ us hl => match us, hl with | [_], _ => rfl) (cb_get c_shift_sums) (fun args Φ _ h => v_shift_sums args Φ h)
def F_shift_sum : FnS := ⟨"shift_sum", ["table", "d"], sp_shift_sum⟩
theorem c_shift_sum : (coB 60 ⟨["table", "d"], defScope (tst 26), [F_shift_sums, F_row_place], glbs, false, ["table", "d"]⟩ (defBody (tst 26))).map (·.d) = some D_shift_sum := by kernel_rfl
theorem ok_shift_sum (m : Mods K mg glbs) (tx : Texts K mg) : OkAt P w K mg base 6 F_shift_sum := by
  obtain ⟨a, fd, T⟩ := tx _ (List.mem_of_getElem? (i := 17) rfl)
  exact add_def (k := 5) (f := F_shift_sum) (N := ["table", "d"]) (own := ["table", "d"]) m (AllOk.cons (AllOk.cons AllOk.nil ((ok_row_place m tx).mono (by decide))) ((ok_shift_sums m tx).mono (by decide))) T ⟨rfl, rfl, rfl, by decide +kernel, rfl, by decide +kernel, by decide +kernel⟩ (fun _ _ _ _ _ _ us hl => match us, hl with | [_, _], _ => rfl) (cb_get c_shift_sum) (fun args Φ _ h => v_shift_sum args Φ h)
def F_shift_paper_error : FnS := ⟨"shift_paper_error", ["table", "value"], sp_shift_paper_error⟩
theorem c_shift_paper_error : (coB 60 ⟨["table", "value", "fault"], defScope (tst 27), [F_first_unlike, F_are_integers, F_shift_sums], glbs, false, ["table", "value", "fault"]⟩ (defBody (tst 27))).map (·.d) = some D_shift_paper_error := by kernel_rfl
theorem ok_shift_paper_error (m : Mods K mg glbs) (tx : Texts K mg) : OkAt P w K mg base 6 F_shift_paper_error := by
  obtain ⟨a, fd, T⟩ := tx _ (List.mem_of_getElem? (i := 18) rfl)
  exact add_def (k := 5) (f := F_shift_paper_error) (N := ["table", "value", "fault"]) (own := ["table", "value", "fault"]) m (AllOk.cons (AllOk.cons (AllOk.cons AllOk.nil ((ok_shift_sums m tx).mono (by decide))) ((ok_are_integers m tx).mono (by decide))) ((ok_first_unlike m tx).mono (by decide))) T ⟨rfl, rfl, rfl, by decide +kernel, rfl, by decide +kernel, by decide +kernel⟩ (fun _ _ _ _ _ _ us hl => match us, hl with | [_, _], _ => rfl) (cb_get c_shift_paper_error) (fun args Φ _ h => v_shift_paper_error args Φ h)
def F_table_letters : FnS := ⟨"table_letters", ["table"], sp_table_letters⟩
theorem c_table_letters : (coB 60 ⟨["table", "n"], defScope (tst 29), [], glbs, false, ["table", "n"]⟩ (defBody (tst 29))).map (·.d) = some D_table_letters := by kernel_rfl
theorem ok_table_letters (m : Mods K mg glbs) (tx : Texts K mg) : OkAt P w K mg base 1 F_table_letters := by
  obtain ⟨a, fd, T⟩ := tx _ (List.mem_of_getElem? (i := 19) rfl)
  exact add_def (k := 0) (f := F_table_letters) (N := ["table", "n"]) (own := ["table", "n"]) m AllOk.nil T ⟨rfl, rfl, rfl, by decide +kernel, rfl, by decide +kernel, by decide +kernel⟩ (fun _ _ _ _ _ _ us hl => match us, hl with | [_], _ => rfl) (cb_get c_table_letters) (fun args Φ _ h => v_table_letters args Φ h)
def F_is_integer_tapes : FnS := ⟨"is_integer_tapes", ["value"], sp_is_integer⟩
theorem c_is_integer_tapes : (coB 60 ⟨["value"], defScope (tst 31), [], glbs, false, ["value"]⟩ (defBody (tst 31))).map (·.d) = some D_is_integer := by kernel_rfl
theorem ok_is_integer_tapes (m : Mods K mg glbs) (tx : Texts K mg) : OkAt P w K mg base 1 F_is_integer_tapes := by
  obtain ⟨a, fd, T⟩ := tx _ (List.mem_of_getElem? (i := 20) rfl)
  exact add_def (k := 0) (f := F_is_integer_tapes) (N := ["value"]) (own := ["value"]) m AllOk.nil T ⟨rfl, rfl, rfl, by decide +kernel, rfl, by decide +kernel, by decide +kernel⟩ (fun _ _ _ _ _ _ us hl => match us, hl with | [_], _ => rfl) (cb_get c_is_integer_tapes) (fun args Φ _ h => v_is_integer args Φ h)
def F_is_integer : FnS := ⟨"is_integer", ["value"], sp_is_integer⟩
theorem c_is_integer : (coB 60 ⟨["value"], defScope (tst 31), [], glbs, false, ["value"]⟩ (defBody (tst 31))).map (·.d) = some D_is_integer := by kernel_rfl
theorem ok_is_integer (m : Mods K mg glbs) (tx : Texts K mg) : OkAt P w K mg base 1 F_is_integer := by
  obtain ⟨a, fd, T⟩ := tx _ (List.mem_of_getElem? (i := 21) rfl)
  exact add_def (k := 0) (f := F_is_integer) (N := ["value"]) (own := ["value"]) m AllOk.nil T ⟨rfl, rfl, rfl, by decide +kernel, rfl, by decide +kernel, by decide +kernel⟩ (fun _ _ _ _ _ _ us hl => match us, hl with | [_], _ => rfl) (cb_get c_is_integer) (fun args Φ _ h => v_is_integer args Φ h)
def F_power_of_two_tapes : FnS := ⟨"power_of_two_tapes", ["often"], sp_power_of_two⟩
theorem c_power_of_two_tapes : (coB 60 ⟨["often", "found", "step"], defScope (tst 33), [], glbs, false, ["often", "found", "step"]⟩ (defBody (tst 33))).map (·.d) = some D_power_of_two := by kernel_rfl
theorem ok_power_of_two_tapes (m : Mods K mg glbs) (tx : Texts K mg) : OkAt P w K mg base 1 F_power_of_two_tapes := by
  obtain ⟨a, fd, T⟩ := tx _ (List.mem_of_getElem? (i := 22) rfl)
  exact add_def (k := 0) (f := F_power_of_two_tapes) (N := ["often", "found", "step"]) (own := ["often", "found", "step"]) m AllOk.nil T ⟨rfl, rfl, rfl, by decide +kernel, rfl, by decide +kernel, by decide +kernel⟩ (fun _ _ _ _ _ _ us hl => match us, hl with | [_], _ => rfl) (cb_get c_power_of_two_tapes) (fun args Φ _ h => (v_power _ rfl) args Φ h)
def F_weight_in : FnS := ⟨"weight_in", ["values", "n", "begin"], sp_weight_in⟩
theorem c_weight_in : (coB 60 ⟨["values", "n", "begin", "many", "first", "value"], defScope (tst 36), [F_power_of_two_tapes, F_row_place], glbs, false, ["values", "n", "begin", "many", "first", "value"]⟩ (defBody (tst 36))).map (·.d) = some D_weight_in := by kernel_rfl
theorem ok_weight_in (m : Mods K mg glbs) (tx : Texts K mg) : OkAt P w K mg base 2 F_weight_in := by
  obtain ⟨a, fd, T⟩ := tx _ (List.mem_of_getElem? (i := 23) rfl)
  exact add_def (k := 1) (f := F_weight_in) (N := ["values", "n", "begin", "many", "first", "value"]) (own := ["values", "n", "begin", "many", "first", "value"]) m (AllOk.cons (AllOk.cons AllOk.nil ((ok_row_place m tx).mono (by decide))) ((ok_power_of_two_tapes m tx).mono (by decide))) T ⟨rfl, rfl, rfl, by decide +kernel, rfl, by decide +kernel, by decide +kernel⟩ (fun _ _ _ _ _ _ us hl => match us, hl with | [_, _, _], _ => rfl) (cb_get c_weight_in) (fun args Φ _ h => v_weight_in args Φ h)
def F_begin_weight : FnS := ⟨"begin_weight", ["table", "begin"], sp_begin_weight⟩
theorem c_begin_weight : (coB 60 ⟨["table", "begin"], defScope (tst 37), [F_weight_in, F_spectrum, F_table_letters], glbs, false, ["table", "begin"]⟩ (defBody (tst 37))).map (·.d) = some D_begin_weight := by kernel_rfl
theorem ok_begin_weight (m : Mods K mg glbs) (tx : Texts K mg) : OkAt P w K mg base 4 F_begin_weight := by
  obtain ⟨a, fd, T⟩ := tx _ (List.mem_of_getElem? (i := 24) rfl)
  exact add_def (k := 3) (f := F_begin_weight) (N := ["table", "begin"]) (own := ["table", "begin"]) m (AllOk.cons (AllOk.cons (AllOk.cons AllOk.nil ((ok_table_letters m tx).mono (by decide))) ((ok_spectrum m tx).mono (by decide))) ((ok_weight_in m tx).mono (by decide))) T ⟨rfl, rfl, rfl, by decide +kernel, rfl, by decide +kernel, by decide +kernel⟩ (fun _ _ _ _ _ _ us hl => match us, hl with | [_, _], _ => rfl) (cb_get c_begin_weight) (fun args Φ _ h => v_begin_weight args Φ h)
def F_weight_by_shifts : FnS := ⟨"weight_by_shifts", ["table", "begin"], sp_weight_by_shifts⟩
theorem c_weight_by_shifts : (coB 60 ⟨["table", "begin", "n", "k", "sums", "many", "found", "place", "sign"], defScope (tst 38), [F_table_letters, F_shift_sums, F_power_of_two_tapes, F_rows_product, F_row_at], glbs, false, ["table", "begin", "n", "k", "sums", "many", "found", "place", "sign"]⟩ (defBody (tst 38))).map (·.d) = some D_weight_by_shifts := by kernel_rfl
theorem ok_weight_by_shifts (m : Mods K mg glbs) (tx : Texts K mg) : OkAt P w K mg base 6 F_weight_by_shifts := by
  obtain ⟨a, fd, T⟩ := tx _ (List.mem_of_getElem? (i := 25) rfl)
  exact add_def (k := 5) (f := F_weight_by_shifts) (N := ["table", "begin", "n", "k", "sums", "many", "found", "place", "sign"]) (own := ["table", "begin", "n", "k", "sums", "many", "found", "place", "sign"]) m (AllOk.cons (AllOk.cons (AllOk.cons (AllOk.cons (AllOk.cons AllOk.nil ((ok_row_at m tx).mono (by decide))) ((ok_rows_product m tx).mono (by decide))) ((ok_power_of_two_tapes m tx).mono (by decide))) ((ok_shift_sums m tx).mono (by decide))) ((ok_table_letters m tx).mono (by decide))) T ⟨rfl, rfl, rfl, by decide +kernel, rfl, by decide +kernel, by decide +kernel⟩ (fun _ _ _ _ _ _ us hl => match us, hl with | [_, _], _ => rfl) (cb_get c_weight_by_shifts) (fun args Φ _ h => v_weight_by_shifts args Φ h)
def F_weights_below : FnS := ⟨"weights_below", ["table", "begin"], sp_weights_below⟩
theorem c_weights_below : (coB 60 ⟨["table", "begin", "values", "n"], defScope (tst 39), [F_spectrum, F_table_letters, F_weight_in], glbs, false, ["table", "begin", "values", "n"]⟩ (defBody (tst 39))).map (·.d) = some D_weights_below := by kernel_rfl
theorem ok_weights_below (m : Mods K mg glbs) (tx : Texts K mg) : OkAt P w K mg base 4 F_weights_below := by
  obtain ⟨a, fd, T⟩ := tx _ (List.mem_of_getElem? (i := 26) rfl)
  exact add_def (k := 3) (f := F_weights_below) (N := ["table", "begin", "values", "n"]) (own := ["table", "begin", "values", "n"]) m (AllOk.cons (AllOk.cons (AllOk.cons AllOk.nil ((ok_weight_in m tx).mono (by decide))) ((ok_table_letters m tx).mono (by decide))) ((ok_spectrum m tx).mono (by decide))) T ⟨rfl, rfl, rfl, by decide +kernel, rfl, by decide +kernel, by decide +kernel⟩ (fun _ _ _ _ _ _ us hl => match us, hl with | [_, _], _ => rfl) (cb_get c_weights_below) (fun args Φ _ h => v_weights_below args Φ h)
def F_tree_levels : FnS := ⟨"tree_levels", ["table", "least"], sp_tree_levels⟩
theorem c_tree_levels : (coB 60 ⟨["table", "least", "values", "n", "found", "here", "below", "begin", "weight", "further", "own"], defScope (tst 41), [F_spectrum, F_table_letters, F_weight_in], glbs, false, ["table", "least", "values", "n", "found", "here", "below", "begin", "weight", "further", "own"]⟩ (defBody (tst 41))).map (·.d) = some D_tree_levels := by kernel_rfl
theorem ok_tree_levels (m : Mods K mg glbs) (tx : Texts K mg) : OkAt P w K mg base 4 F_tree_levels := by
  obtain ⟨a, fd, T⟩ := tx _ (List.mem_of_getElem? (i := 27) rfl)
  exact add_def (k := 3) (f := F_tree_levels) (N := ["table", "least", "values", "n", "found", "here", "below", "begin", "weight", "further", "own"]) (own := ["table", "least", "values", "n", "found", "here", "below", "begin", "weight", "further", "own"]) m (AllOk.cons (AllOk.cons (AllOk.cons AllOk.nil ((ok_weight_in m tx).mono (by decide))) ((ok_table_letters m tx).mono (by decide))) ((ok_spectrum m tx).mono (by decide))) T ⟨rfl, rfl, rfl, by decide +kernel, rfl, by decide +kernel, by decide +kernel⟩ (fun _ _ _ _ _ _ us hl => match us, hl with | [_, _], _ => rfl) (cb_get c_tree_levels) (fun args Φ _ h => v_tree_levels args Φ h)
def F_tree_paper : FnS := ⟨"tree_paper", ["table", "least"], sp_tree_paper⟩
theorem c_tree_paper : (coB 60 ⟨["table", "least", "found", "level"], defScope (tst 42), [F_tree_levels], glbs, false, ["table", "least", "found", "level"]⟩ (defBody (tst 42))).map (·.d) = some D_tree_paper := by kernel_rfl
theorem ok_tree_paper (m : Mods K mg glbs) (tx : Texts K mg) : OkAt P w K mg base 5 F_tree_paper := by
  obtain ⟨a, fd, T⟩ := tx _ (List.mem_of_getElem? (i := 28) rfl)
  exact add_def (k := 4) (f := F_tree_paper) (N := ["table", "least", "found", "level"]) (own := ["table", "least", "found", "level"]) m (AllOk.cons AllOk.nil ((ok_tree_levels m tx).mono (by decide))) T ⟨rfl, rfl, rfl, by decide +kernel, rfl, by decide +kernel, by decide +kernel⟩ (fun _ _ _ _ _ _ us hl => match us, hl with | [_, _], _ => rfl) (cb_get c_tree_paper) (fun args Φ _ h => v_tree_paper args Φ h)
def F_is_begin : FnS := ⟨"is_begin", ["value", "n"], sp_is_begin⟩
theorem c_is_begin : (coB 60 ⟨["value", "n", "bit"], defScope (tst 43), [F_is_integer_tapes], glbs, false, ["value", "n", "bit"]⟩ (defBody (tst 43))).map (·.d) = some D_is_begin := by kernel_rfl
theorem ok_is_begin (m : Mods K mg glbs) (tx : Texts K mg) : OkAt P w K mg base 2 F_is_begin := by
  obtain ⟨a, fd, T⟩ := tx _ (List.mem_of_getElem? (i := 29) rfl)
  exact add_def (k := 1) (f := F_is_begin) (N := ["value", "n", "bit"]) (own := ["value", "n", "bit"]) m (AllOk.cons AllOk.nil ((ok_is_integer_tapes m tx).mono (by decide))) T ⟨rfl, rfl, rfl, by decide +kernel, rfl, by decide +kernel, by decide +kernel⟩ (fun _ _ _ _ _ _ us hl => match us, hl with | [_, _], _ => rfl) (cb_get c_is_begin) (fun args Φ _ h => v_is_begin args Φ h)
def F_is_item : FnS := ⟨"is_item", ["value", "n"], sp_is_item⟩
theorem c_is_item : (coB 60 ⟨["value", "n"], defScope (tst 44), [F_is_begin, F_is_integer_tapes], glbs, false, ["value", "n"]⟩ (defBody (tst 44))).map (·.d) = some D_is_item := by kernel_rfl
theorem ok_is_item (m : Mods K mg glbs) (tx : Texts K mg) : OkAt P w K mg base 3 F_is_item := by
  obtain ⟨a, fd, T⟩ := tx _ (List.mem_of_getElem? (i := 30) rfl)
  exact add_def (k := 2) (f := F_is_item) (N := ["value", "n"]) (own := ["value", "n"]) m (AllOk.cons (AllOk.cons AllOk.nil ((ok_is_integer_tapes m tx).mono (by decide))) ((ok_is_begin m tx).mono (by decide))) T ⟨rfl, rfl, rfl, by decide +kernel, rfl, by decide +kernel, by decide +kernel⟩ (fun _ _ _ _ _ _ us hl => match us, hl with | [_, _], _ => rfl) (cb_get c_is_item) (fun args Φ _ h => v_is_item args Φ h)
def F_tree_error : FnS := ⟨"tree_error", ["table", "least", "value"], sp_tree_error⟩
theorem c_tree_error : (coB 60 ⟨["table", "least", "value", "due", "values", "n", "i", "begin", "weight", "right", "own"], defScope (tst 45), [F_tree_paper, F_spectrum, F_table_letters, F_weight_in, F_is_item], glbs, false, ["table", "least", "value", "due", "values", "n", "i", "begin", "weight", "right", "own"]⟩ (defBody (tst 45))).map (·.d) = some D_tree_error := by kernel_rfl
theorem ok_tree_error (m : Mods K mg glbs) (tx : Texts K mg) : OkAt P w K mg base 6 F_tree_error := by
  obtain ⟨a, fd, T⟩ := tx _ (List.mem_of_getElem? (i := 31) rfl)
  exact add_def (k := 5) (f := F_tree_error) (N := ["table", "least", "value", "due", "values", "n", "i", "begin", "weight", "right", "own"]) (own := ["table", "least", "value", "due", "values", "n", "i", "begin", "weight", "right", "own"]) m (AllOk.cons (AllOk.cons (AllOk.cons (AllOk.cons (AllOk.cons AllOk.nil ((ok_is_item m tx).mono (by decide))) ((ok_weight_in m tx).mono (by decide))) ((ok_table_letters m tx).mono (by decide))) ((ok_spectrum m tx).mono (by decide))) ((ok_tree_paper m tx).mono (by decide))) T ⟨rfl, rfl, rfl, by decide +kernel, rfl, by decide +kernel, by decide +kernel⟩ (fun _ _ _ _ _ _ us hl => match us, hl with | [_, _, _], _ => rfl) (cb_get c_tree_error) (fun args Φ _ h => v_tree_error args Φ h)
def F_tree_widths : FnS := ⟨"tree_widths", ["table", "least"], sp_tree_widths⟩
theorem c_tree_widths : (coB 60 ⟨["table", "least", "level"], defScope (tst 46), [F_tree_levels], glbs, false, ["table", "least", "level"]⟩ (defBody (tst 46))).map (·.d) = some D_tree_widths := by kernel_rfl
theorem ok_tree_widths (m : Mods K mg glbs) (tx : Texts K mg) : OkAt P w K mg base 5 F_tree_widths := by
  obtain ⟨a, fd, T⟩ := tx _ (List.mem_of_getElem? (i := 32) rfl)
  exact add_def (k := 4) (f := F_tree_widths) (N := ["table", "least", "level"]) (own := ["table", "least", "level"]) m (AllOk.cons AllOk.nil ((ok_tree_levels m tx).mono (by decide))) T ⟨rfl, rfl, rfl, by decide +kernel, rfl, by decide +kernel, by decide +kernel⟩ (fun _ _ _ _ _ _ us hl => match us, hl with | [_, _], _ => rfl) (cb_get c_tree_widths) (fun args Φ _ h => v_tree_widths args Φ h)
def F_rows_at : FnS := ⟨"rows_at", ["n", "places"], sp_rows_at⟩
theorem c_rows_at : (coB 60 ⟨["n", "places", "place"], defScope (tst 48), [F_row_at], glbs, false, ["n", "places", "place"]⟩ (defBody (tst 48))).map (·.d) = some D_rows_at := by kernel_rfl
theorem ok_rows_at (m : Mods K mg glbs) (tx : Texts K mg) : OkAt P w K mg base 2 F_rows_at := by
  obtain ⟨a, fd, T⟩ := tx _ (List.mem_of_getElem? (i := 33) rfl)
  exact add_def (k := 1) (f := F_rows_at) (N := ["n", "places", "place"]) (own := ["n", "places", "place"]) m (AllOk.cons AllOk.nil ((ok_row_at m tx).mono (by decide))) T ⟨rfl, rfl, rfl, by decide +kernel, rfl, by decide +kernel, by decide +kernel⟩ (fun _ _ _ _ _ _ us hl => match us, hl with | [_, _], _ => rfl) (cb_get c_rows_at) (fun args Φ _ h => v_rows_at args Φ h)
def F_great_rows : FnS := ⟨"great_rows", ["table", "least"], sp_great_rows⟩
theorem c_great_rows : (coB 60 ⟨["table", "least", "values", "place", "value"], defScope (tst 49), [F_spectrum, F_rows_at, F_table_letters], glbs, false, ["table", "least", "values", "place", "value"]⟩ (defBody (tst 49))).map (·.d) = some D_great_rows := by kernel_rfl
theorem ok_great_rows (m : Mods K mg glbs) (tx : Texts K mg) : OkAt P w K mg base 4 F_great_rows := by
  obtain ⟨a, fd, T⟩ := tx _ (List.mem_of_getElem? (i := 34) rfl)
  exact add_def (k := 3) (f := F_great_rows) (N := ["table", "least", "values", "place", "value"]) (own := ["table", "least", "values", "place", "value"]) m (AllOk.cons (AllOk.cons (AllOk.cons AllOk.nil ((ok_table_letters m tx).mono (by decide))) ((ok_rows_at m tx).mono (by decide))) ((ok_spectrum m tx).mono (by decide))) T ⟨rfl, rfl, rfl, by decide +kernel, rfl, by decide +kernel, by decide +kernel⟩ (fun _ _ _ _ _ _ us hl => match us, hl with | [_, _], _ => rfl) (cb_get c_great_rows) (fun args Φ _ h => v_great_rows args Φ h)
def F_great_of_paper : FnS := ⟨"great_of_paper", ["n", "least", "paper"], sp_great_of_paper⟩
theorem c_great_of_paper : (coB 60 ⟨["n", "least", "paper", "begin", "weight"], defScope (tst 50), [], glbs, false, ["n", "least", "paper", "begin", "weight"]⟩ (defBody (tst 50))).map (·.d) = some D_great_of_paper := by kernel_rfl
theorem ok_great_of_paper (m : Mods K mg glbs) (tx : Texts K mg) : OkAt P w K mg base 1 F_great_of_paper := by
  obtain ⟨a, fd, T⟩ := tx _ (List.mem_of_getElem? (i := 35) rfl)
  exact add_def (k := 0) (f := F_great_of_paper) (N := ["n", "least", "paper", "begin", "weight"]) (own := ["n", "least", "paper", "begin", "weight"]) m AllOk.nil T ⟨rfl, rfl, rfl, by decide +kernel, rfl, by decide +kernel, by decide +kernel⟩ (fun _ _ _ _ _ _ us hl => match us, hl with | [_, _, _], _ => rfl) (cb_get c_great_of_paper) (fun args Φ _ h => v_great_of_paper args Φ h)
def F_rows_most : FnS := ⟨"rows_most", ["n", "least"], sp_rows_most⟩
theorem c_rows_most : (coB 60 ⟨["n", "least"], defScope (tst 51), [F_power_of_two_tapes], glbs, false, ["n", "least"]⟩ (defBody (tst 51))).map (·.d) = some D_rows_most := by kernel_rfl
theorem ok_rows_most (m : Mods K mg glbs) (tx : Texts K mg) : OkAt P w K mg base 2 F_rows_most := by
  obtain ⟨a, fd, T⟩ := tx _ (List.mem_of_getElem? (i := 36) rfl)
  exact add_def (k := 1) (f := F_rows_most) (N := ["n", "least"]) (own := ["n", "least"]) m (AllOk.cons AllOk.nil ((ok_power_of_two_tapes m tx).mono (by decide))) T ⟨rfl, rfl, rfl, by decide +kernel, rfl, by decide +kernel, by decide +kernel⟩ (fun _ _ _ _ _ _ us hl => match us, hl with | [_, _], _ => rfl) (cb_get c_rows_most) (fun args Φ _ h => v_rows_most args Φ h)
def F_power_of_two_rankcounts : FnS := ⟨"power_of_two_rankcounts", ["many"], sp_power_of_two⟩
theorem c_power_of_two_rankcounts : (coB 60 ⟨["many", "found", "step"], defScope (tst 53), [], glbs, false, ["many", "found", "step"]⟩ (defBody (tst 53))).map (·.d) = some D_power_of_two := by kernel_rfl
theorem ok_power_of_two_rankcounts (m : Mods K mg glbs) (tx : Texts K mg) : OkAt P w K mg base 1 F_power_of_two_rankcounts := by
  obtain ⟨a, fd, T⟩ := tx _ (List.mem_of_getElem? (i := 37) rfl)
  exact add_def (k := 0) (f := F_power_of_two_rankcounts) (N := ["many", "found", "step"]) (own := ["many", "found", "step"]) m AllOk.nil T ⟨rfl, rfl, rfl, by decide +kernel, rfl, by decide +kernel, by decide +kernel⟩ (fun _ _ _ _ _ _ us hl => match us, hl with | [_], _ => rfl) (cb_get c_power_of_two_rankcounts) (fun args Φ _ h => (v_power _ rfl) args Φ h)
def F_power_of_two : FnS := ⟨"power_of_two", ["many"], sp_power_of_two⟩
theorem c_power_of_two : (coB 60 ⟨["many", "found", "step"], defScope (tst 53), [], glbs, false, ["many", "found", "step"]⟩ (defBody (tst 53))).map (·.d) = some D_power_of_two := by kernel_rfl
theorem ok_power_of_two (m : Mods K mg glbs) (tx : Texts K mg) : OkAt P w K mg base 1 F_power_of_two := by
  obtain ⟨a, fd, T⟩ := tx _ (List.mem_of_getElem? (i := 38) rfl)
  exact add_def (k := 0) (f := F_power_of_two) (N := ["many", "found", "step"]) (own := ["many", "found", "step"]) m AllOk.nil T ⟨rfl, rfl, rfl, by decide +kernel, rfl, by decide +kernel, by decide +kernel⟩ (fun _ _ _ _ _ _ us hl => match us, hl with | [_], _ => rfl) (cb_get c_power_of_two) (fun args Φ _ h => (v_power _ rfl) args Φ h)
def F_rows_through : FnS := ⟨"rows_through", ["n", "rows", "y"], sp_rows_through⟩
theorem c_rows_through : (coB 60 ⟨["n", "rows", "y", "found", "row", "bit"], defScope (tst 56), [F_rows_added], glbs, false, ["n", "rows", "y", "found", "row", "bit"]⟩ (defBody (tst 56))).map (·.d) = some D_rows_through := by kernel_rfl
theorem ok_rows_through (m : Mods K mg glbs) (tx : Texts K mg) : OkAt P w K mg base 2 F_rows_through := by
  obtain ⟨a, fd, T⟩ := tx _ (List.mem_of_getElem? (i := 39) rfl)
  exact add_def (k := 1) (f := F_rows_through) (N := ["n", "rows", "y", "found", "row", "bit"]) (own := ["n", "rows", "y", "found", "row", "bit"]) m (AllOk.cons AllOk.nil ((ok_rows_added m tx).mono (by decide))) T ⟨rfl, rfl, rfl, by decide +kernel, rfl, by decide +kernel, by decide +kernel⟩ (fun _ _ _ _ _ _ us hl => match us, hl with | [_, _, _], _ => rfl) (cb_get c_rows_through) (fun args Φ _ h => v_rows_through args Φ h)
def F_table_size : FnS := ⟨"table_size", ["table"], sp_table_size⟩
theorem c_table_size : (coB 60 ⟨["table", "n"], defScope (tst 57), [F_power_of_two_rankcounts], glbs, false, ["table", "n"]⟩ (defBody (tst 57))).map (·.d) = some D_table_size := by kernel_rfl
theorem ok_table_size (m : Mods K mg glbs) (tx : Texts K mg) : OkAt P w K mg base 2 F_table_size := by
  obtain ⟨a, fd, T⟩ := tx _ (List.mem_of_getElem? (i := 40) rfl)
  exact add_def (k := 1) (f := F_table_size) (N := ["table", "n"]) (own := ["table", "n"]) m (AllOk.cons AllOk.nil ((ok_power_of_two_rankcounts m tx).mono (by decide))) T ⟨rfl, rfl, rfl, by decide +kernel, rfl, by decide +kernel, by decide +kernel⟩ (fun _ _ _ _ _ _ us hl => match us, hl with | [_], _ => rfl) (cb_get c_table_size) (fun args Φ _ h => v_table_size args Φ h)
def F_led_table : FnS := ⟨"led_table", ["table", "rows"], sp_led_table⟩
theorem c_led_table : (coB 60 ⟨["table", "rows", "n", "y"], defScope (tst 58), [F_table_size, F_row_place, F_all_rows, F_rows_through], glbs, false, ["table", "rows", "n", "y"]⟩ (defBody (tst 58))).map (·.d) = some D_led_table := by kernel_rfl
theorem ok_led_table (m : Mods K mg glbs) (tx : Texts K mg) : OkAt P w K mg base 3 F_led_table := by
  obtain ⟨a, fd, T⟩ := tx _ (List.mem_of_getElem? (i := 41) rfl)
  exact add_def (k := 2) (f := F_led_table) (N := ["table", "rows", "n", "y"]) (own := ["table", "rows", "n", "y"]) m (AllOk.cons (AllOk.cons (AllOk.cons (AllOk.cons AllOk.nil ((ok_rows_through m tx).mono (by decide))) ((ok_all_rows m tx).mono (by decide))) ((ok_row_place m tx).mono (by decide))) ((ok_table_size m tx).mono (by decide))) T ⟨rfl, rfl, rfl, by decide +kernel, rfl, by decide +kernel, by decide +kernel⟩ (fun _ _ _ _ _ _ us hl => match us, hl with | [_, _], _ => rfl) (cb_get c_led_table) (fun args Φ _ h => v_led_table args Φ h)
def F_led_spectrum : FnS := ⟨"led_spectrum", ["n", "values", "rows"], sp_led_spectrum⟩
theorem c_led_spectrum : (coB 60 ⟨["n", "values", "rows", "many", "found", "s", "item", "place", "row"], defScope (tst 59), [F_power_of_two_rankcounts, F_all_rows, F_row_place, F_rows_product], glbs, false, ["n", "values", "rows", "many", "found", "s", "item", "place", "row"]⟩ (defBody (tst 59))).map (·.d) = some D_led_spectrum := by kernel_rfl
theorem ok_led_spectrum (m : Mods K mg glbs) (tx : Texts K mg) : OkAt P w K mg base 2 F_led_spectrum := by
  obtain ⟨a, fd, T⟩ := tx _ (List.mem_of_getElem? (i := 42) rfl)
  exact add_def (k := 1) (f := F_led_spectrum) (N := ["n", "values", "rows", "many", "found", "s", "item", "place", "row"]) (own := ["n", "values", "rows", "many", "found", "s", "item", "place", "row"]) m (AllOk.cons (AllOk.cons (AllOk.cons (AllOk.cons AllOk.nil ((ok_rows_product m tx).mono (by decide))) ((ok_row_place m tx).mono (by decide))) ((ok_all_rows m tx).mono (by decide))) ((ok_power_of_two_rankcounts m tx).mono (by decide))) T ⟨rfl, rfl, rfl, by decide +kernel, rfl, by decide +kernel, by decide +kernel⟩ (fun _ _ _ _ _ _ us hl => match us, hl with | [_, _, _], _ => rfl) (cb_get c_led_spectrum) (fun args Φ _ h => v_led_spectrum args Φ h)
def F_is_spectrum : FnS := ⟨"is_spectrum", ["value"], sp_is_spectrum⟩
theorem c_is_spectrum : (coB 60 ⟨["value", "many", "item"], defScope (tst 61), [F_led_through], glbs, false, ["value", "many", "item"]⟩ (defBody (tst 61))).map (·.d) = some D_is_spectrum := by kernel_rfl
theorem ok_is_spectrum (m : Mods K mg glbs) (tx : Texts K mg) : OkAt P w K mg base 3 F_is_spectrum := by
  obtain ⟨a, fd, T⟩ := tx _ (List.mem_of_getElem? (i := 43) rfl)
  exact add_def (k := 2) (f := F_is_spectrum) (N := ["value", "many", "item"]) (own := ["value", "many", "item"]) m (AllOk.cons AllOk.nil ((ok_led_through m tx).mono (by decide))) T ⟨rfl, rfl, rfl, by decide +kernel, rfl, by decide +kernel, by decide +kernel⟩ (fun _ _ _ _ _ _ us hl => match us, hl with | [_], _ => rfl) (cb_get c_is_spectrum) (fun args Φ _ h => v_is_spectrum args Φ h)
def F_table_of_spectrum : FnS := ⟨"table_of_spectrum", ["value"], sp_table_of_spectrum⟩
theorem c_table_of_spectrum : (coB 60 ⟨["value", "item"], defScope (tst 62), [F_is_spectrum, F_led_through], glbs, false, ["value", "item"]⟩ (defBody (tst 62))).map (·.d) = some D_table_of_spectrum := by kernel_rfl
theorem ok_table_of_spectrum (m : Mods K mg glbs) (tx : Texts K mg) : OkAt P w K mg base 4 F_table_of_spectrum := by
  obtain ⟨a, fd, T⟩ := tx _ (List.mem_of_getElem? (i := 44) rfl)
  exact add_def (k := 3) (f := F_table_of_spectrum) (N := ["value", "item"]) (own := ["value", "item"]) m (AllOk.cons (AllOk.cons AllOk.nil ((ok_led_through m tx).mono (by decide))) ((ok_is_spectrum m tx).mono (by decide))) T ⟨rfl, rfl, rfl, by decide +kernel, rfl, by decide +kernel, by decide +kernel⟩ (fun _ _ _ _ _ _ us hl => match us, hl with | [_], _ => rfl) (cb_get c_table_of_spectrum) (fun args Φ _ h => v_table_of_spectrum args Φ h)
def F_squares_sum : FnS := ⟨"squares_sum", ["values"], sp_squares_sum⟩
theorem c_squares_sum : (coB 60 ⟨["values", "item"], defScope (tst 63), [], glbs, false, ["values", "item"]⟩ (defBody (tst 63))).map (·.d) = some D_squares_sum := by kernel_rfl
theorem ok_squares_sum (m : Mods K mg glbs) (tx : Texts K mg) : OkAt P w K mg base 1 F_squares_sum := by
  obtain ⟨a, fd, T⟩ := tx _ (List.mem_of_getElem? (i := 45) rfl)
  exact add_def (k := 0) (f := F_squares_sum) (N := ["values", "item"]) (own := ["values", "item"]) m AllOk.nil T ⟨rfl, rfl, rfl, by decide +kernel, rfl, by decide +kernel, by decide +kernel⟩ (fun _ _ _ _ _ _ us hl => match us, hl with | [_], _ => rfl) (cb_get c_squares_sum) (fun args Φ _ h => v_squares_sum args Φ h)
def F_cubes_sum : FnS := ⟨"cubes_sum", ["values"], sp_cubes_sum⟩
theorem c_cubes_sum : (coB 60 ⟨["values", "item"], defScope (tst 64), [], glbs, false, ["values", "item"]⟩ (defBody (tst 64))).map (·.d) = some D_cubes_sum := by kernel_rfl
theorem ok_cubes_sum (m : Mods K mg glbs) (tx : Texts K mg) : OkAt P w K mg base 1 F_cubes_sum := by
  obtain ⟨a, fd, T⟩ := tx _ (List.mem_of_getElem? (i := 46) rfl)
  exact add_def (k := 0) (f := F_cubes_sum) (N := ["values", "item"]) (own := ["values", "item"]) m AllOk.nil T ⟨rfl, rfl, rfl, by decide +kernel, rfl, by decide +kernel, by decide +kernel⟩ (fun _ _ _ _ _ _ us hl => match us, hl with | [_], _ => rfl) (cb_get c_cubes_sum) (fun args Φ _ h => v_cubes_sum args Φ h)
def F_law_draw : FnS := ⟨"_law_draw", ["pot", "many"], sp_law_draw⟩
theorem ok_law_draw (m : Mods K mg glbs) (tx : Texts K mg) : OkAt P w K mg base 1 F_law_draw := by
  obtain ⟨a, fd, T⟩ := tx _ (List.mem_of_getElem? (i := 48) rfl)
  exact draw_ok (q0 := ⟨226, 4, 226, 9⟩) (q1 := ⟨226, 12, 226, 15⟩) (q2 := ⟨226, 16, 226, 23⟩) (q3 := ⟨226, 12, 226, 24⟩) (q4 := ⟨226, 4, 226, 24⟩) (q5 := ⟨227, 7, 227, 12⟩) (q6 := ⟨227, 16, 227, 18⟩) (q7 := ⟨227, 7, 227, 18⟩) (q8 := ⟨228, 8, 228, 12⟩) (q9 := ⟨228, 15, 228, 20⟩) (q10 := ⟨228, 15, 228, 24⟩) (q11 := ⟨228, 15, 228, 26⟩) (q12 := ⟨228, 8, 228, 26⟩) (q13 := ⟨229, 11, 229, 15⟩) (q14 := ⟨229, 19, 229, 23⟩) (q15 := ⟨229, 11, 229, 23⟩) (q16 := ⟨230, 12, 230, 17⟩) (q17 := ⟨230, 12, 230, 24⟩) (q18 := ⟨230, 25, 230, 29⟩) (q19 := ⟨230, 33, 230, 37⟩) (q20 := ⟨230, 25, 230, 37⟩) (q21 := ⟨230, 12, 230, 38⟩) (q22 := ⟨230, 12, 230, 38⟩) (q23 := ⟨229, 8, 230, 38⟩) (q24 := ⟨231, 15, 231, 18⟩) (q25 := ⟨231, 19, 231, 23⟩) (q26 := ⟨231, 15, 231, 24⟩) (q27 := ⟨231, 27, 231, 31⟩) (q28 := ⟨231, 15, 231, 31⟩) (q29 := ⟨231, 8, 231, 31⟩) (q30 := ⟨227, 4, 231, 31⟩) (q31 := ⟨232, 4, 232, 7⟩) (q32 := ⟨232, 8, 232, 14⟩) (q33 := ⟨232, 4, 232, 15⟩) (q34 := ⟨232, 18, 232, 21⟩) (q35 := ⟨232, 22, 232, 28⟩) (q36 := ⟨232, 18, 232, 29⟩) (q37 := ⟨232, 32, 232, 33⟩) (q38 := ⟨232, 18, 232, 33⟩) (q39 := ⟨232, 4, 232, 33⟩) (q40 := ⟨233, 4, 233, 7⟩) (q41 := ⟨233, 10, 233, 13⟩) (q42 := ⟨233, 14, 233, 17⟩) (q43 := ⟨233, 18, 233, 24⟩) (q44 := ⟨233, 14, 233, 25⟩) (q45 := ⟨233, 28, 233, 33⟩) (q46 := ⟨233, 14, 233, 33⟩) (q47 := ⟨233, 36, 233, 39⟩) (q48 := ⟨233, 40, 233, 46⟩) (q49 := ⟨233, 36, 233, 47⟩) (q50 := ⟨233, 50, 233, 55⟩) (q51 := ⟨233, 36, 233, 55⟩) (q52 := ⟨233, 14, 233, 55⟩) (q53 := ⟨233, 58, 233, 60⟩) (q54 := ⟨233, 14, 233, 60⟩) (q55 := ⟨233, 10, 233, 61⟩) (q56 := ⟨233, 64, 233, 74⟩) (q57 := ⟨233, 10, 233, 74⟩) (q58 := ⟨233, 4, 233, 74⟩) (q59 := ⟨234, 4, 234, 7⟩) (q60 := ⟨234, 10, 234, 13⟩) (q61 := ⟨234, 14, 234, 17⟩) (q62 := ⟨234, 20, 234, 23⟩) (q63 := ⟨234, 14, 234, 23⟩) (q64 := ⟨234, 26, 234, 29⟩) (q65 := ⟨234, 30, 234, 36⟩) (q66 := ⟨234, 26, 234, 37⟩) (q67 := ⟨234, 40, 234, 41⟩) (q68 := ⟨234, 26, 234, 41⟩) (q69 := ⟨234, 14, 234, 41⟩) (q70 := ⟨234, 10, 234, 42⟩) (q71 := ⟨234, 45, 234, 55⟩) (q72 := ⟨234, 10, 234, 55⟩) (q73 := ⟨234, 4, 234, 55⟩) (q74 := ⟨235, 4, 235, 7⟩) (q75 := ⟨235, 8, 235, 14⟩) (q76 := ⟨235, 4, 235, 15⟩) (q77 := ⟨235, 18, 235, 21⟩) (q78 := ⟨235, 22, 235, 25⟩) (q79 := ⟨235, 26, 235, 32⟩) (q80 := ⟨235, 22, 235, 33⟩) (q81 := ⟨235, 36, 235, 41⟩) (q82 := ⟨235, 22, 235, 41⟩) (q83 := ⟨235, 44, 235, 47⟩) (q84 := ⟨235, 22, 235, 47⟩) (q85 := ⟨235, 18, 235, 48⟩) (q86 := ⟨235, 51, 235, 61⟩) (q87 := ⟨235, 18, 235, 61⟩) (q88 := ⟨235, 4, 235, 61⟩) (q89 := ⟨236, 11, 236, 14⟩) (q90 := ⟨236, 15, 236, 18⟩) (q91 := ⟨236, 22, 236, 24⟩) (q92 := ⟨236, 15, 236, 24⟩) (q93 := ⟨236, 11, 236, 25⟩) (q94 := ⟨236, 28, 236, 32⟩) (q95 := ⟨236, 11, 236, 32⟩) (q96 := ⟨236, 4, 236, 32⟩) m T (by kernel_rfl) (by kernel_rfl) (fun _ _ _ _ _ _ us hl => match us, hl with | [_, _], _ => rfl) rfl rfl
def F_law_pick : FnS := ⟨"_law_pick", ["pot", "some"], sp_law_pick⟩
theorem c_law_pick : (coB 60 ⟨["pot", "some"], defScope (tst 68), [F_law_draw], glbs, false, ["pot", "some"]⟩ (defBody (tst 68))).map (·.d) = some D_law_pick := by kernel_rfl
theorem ok_law_pick (m : Mods K mg glbs) (tx : Texts K mg) : OkAt P w K mg base 2 F_law_pick := by
  obtain ⟨a, fd, T⟩ := tx _ (List.mem_of_getElem? (i := 49) rfl)
  exact add_def (k := 1) (f := F_law_pick) (N := ["pot", "some"]) (own := ["pot", "some"]) m (AllOk.cons AllOk.nil ((ok_law_draw m tx).mono (by decide))) T ⟨rfl, rfl, rfl, by decide +kernel, rfl, by decide +kernel, by decide +kernel⟩ (fun _ _ _ _ _ _ us hl => match us, hl with | [_, _], _ => rfl) (cb_get c_law_pick) (fun args Φ _ h => v_law_pick args Φ h)
def F_law_mixed : FnS := ⟨"_law_mixed", ["pot", "items"], sp_law_mixed⟩
theorem c_law_mixed : (coB 60 ⟨["pot", "items", "left", "found"], defScope (tst 69), [F_law_draw], glbs, false, ["pot", "items", "left", "found"]⟩ (defBody (tst 69))).map (·.d) = some D_law_mixed := by kernel_rfl
theorem ok_law_mixed (m : Mods K mg glbs) (tx : Texts K mg) : OkAt P w K mg base 2 F_law_mixed := by
  obtain ⟨a, fd, T⟩ := tx _ (List.mem_of_getElem? (i := 50) rfl)
  exact add_def (k := 1) (f := F_law_mixed) (N := ["pot", "items", "left", "found"]) (own := ["pot", "items", "left", "found"]) m (AllOk.cons AllOk.nil ((ok_law_draw m tx).mono (by decide))) T ⟨rfl, rfl, rfl, by decide +kernel, rfl, by decide +kernel, by decide +kernel⟩ (fun _ _ _ _ _ _ us hl => match us, hl with | [_, _], _ => rfl) (cb_get c_law_mixed) (fun args Φ _ h => v_law_mixed args Φ h)
def F_law_rows : FnS := ⟨"_law_rows", ["n"], sp_law_rows⟩
theorem c_law_rows : (coB 60 ⟨["n", "found", "turn", "longer", "own"], defScope (tst 70), [], glbs, false, ["n", "found", "turn", "longer", "own"]⟩ (defBody (tst 70))).map (·.d) = some D_law_rows := by kernel_rfl
theorem ok_law_rows (m : Mods K mg glbs) (tx : Texts K mg) : OkAt P w K mg base 1 F_law_rows := by
  obtain ⟨a, fd, T⟩ := tx _ (List.mem_of_getElem? (i := 51) rfl)
  exact add_def (k := 0) (f := F_law_rows) (N := ["n", "found", "turn", "longer", "own"]) (own := ["n", "found", "turn", "longer", "own"]) m AllOk.nil T ⟨rfl, rfl, rfl, by decide +kernel, rfl, by decide +kernel, by decide +kernel⟩ (fun _ _ _ _ _ _ us hl => match us, hl with | [_], _ => rfl) (cb_get c_law_rows) (fun args Φ _ h => v_law_rows args Φ h)
def F_law_place : FnS := ⟨"_law_place", ["row"], sp_law_place⟩
theorem c_law_place : (coB 60 ⟨["row", "found", "bit"], defScope (tst 71), [], glbs, false, ["row", "found", "bit"]⟩ (defBody (tst 71))).map (·.d) = some D_row_place := by kernel_rfl
theorem ok_law_place (m : Mods K mg glbs) (tx : Texts K mg) : OkAt P w K mg base 1 F_law_place := by
  obtain ⟨a, fd, T⟩ := tx _ (List.mem_of_getElem? (i := 52) rfl)
  exact add_def (k := 0) (f := F_law_place) (N := ["row", "found", "bit"]) (own := ["row", "found", "bit"]) m AllOk.nil T ⟨rfl, rfl, rfl, by decide +kernel, rfl, by decide +kernel, by decide +kernel⟩ (fun _ _ _ _ _ _ us hl => match us, hl with | [_], _ => rfl) (cb_get c_law_place) (fun args Φ _ h => v_row_place args Φ h)
def F_law_row_at : FnS := ⟨"_law_row_at", ["n", "place"], sp_law_row_at⟩
theorem c_law_row_at : (coB 60 ⟨["n", "place", "i"], defScope (tst 72), [], glbs, false, ["n", "place", "i"]⟩ (defBody (tst 72))).map (·.d) = some D_law_row_at := by kernel_rfl
theorem ok_law_row_at (m : Mods K mg glbs) (tx : Texts K mg) : OkAt P w K mg base 1 F_law_row_at := by
  obtain ⟨a, fd, T⟩ := tx _ (List.mem_of_getElem? (i := 53) rfl)
  exact add_def (k := 0) (f := F_law_row_at) (N := ["n", "place", "i"]) (own := ["n", "place", "i"]) m AllOk.nil T ⟨rfl, rfl, rfl, by decide +kernel, rfl, by decide +kernel, by decide +kernel⟩ (fun _ _ _ _ _ _ us hl => match us, hl with | [_, _], _ => rfl) (cb_get c_law_row_at) (fun args Φ _ h => v_law_row_at args Φ h)
def F_law_added : FnS := ⟨"_law_added", ["one", "other"], sp_law_added⟩
theorem c_law_added : (coB 60 ⟨["one", "other", "a", "b"], defScope (tst 73), [], glbs, false, ["one", "other", "a", "b"]⟩ (defBody (tst 73))).map (·.d) = some D_law_added := by kernel_rfl
theorem ok_law_added (m : Mods K mg glbs) (tx : Texts K mg) : OkAt P w K mg base 1 F_law_added := by
  obtain ⟨a, fd, T⟩ := tx _ (List.mem_of_getElem? (i := 54) rfl)
  exact add_def (k := 0) (f := F_law_added) (N := ["one", "other", "a", "b"]) (own := ["one", "other", "a", "b"]) m AllOk.nil T ⟨rfl, rfl, rfl, by decide +kernel, rfl, by decide +kernel, by decide +kernel⟩ (fun _ _ _ _ _ _ us hl => match us, hl with | [_, _], _ => rfl) (cb_get c_law_added) (fun args Φ _ h => v_law_added args Φ h)
def F_law_product : FnS := ⟨"_law_product", ["one", "other"], sp_law_product⟩
theorem c_law_product : (coB 60 ⟨["one", "other", "a", "b"], defScope (tst 74), [], glbs, false, ["one", "other", "a", "b"]⟩ (defBody (tst 74))).map (·.d) = some D_law_product := by kernel_rfl
theorem ok_law_product (m : Mods K mg glbs) (tx : Texts K mg) : OkAt P w K mg base 1 F_law_product := by
  obtain ⟨a, fd, T⟩ := tx _ (List.mem_of_getElem? (i := 55) rfl)
  exact add_def (k := 0) (f := F_law_product) (N := ["one", "other", "a", "b"]) (own := ["one", "other", "a", "b"]) m AllOk.nil T ⟨rfl, rfl, rfl, by decide +kernel, rfl, by decide +kernel, by decide +kernel⟩ (fun _ _ _ _ _ _ us hl => match us, hl with | [_, _], _ => rfl) (cb_get c_law_product) (fun args Φ _ h => v_law_product args Φ h)
def F_law_sum_table : FnS := ⟨"_law_sum_table", ["s"], sp_law_sum_table⟩
theorem c_law_sum_table : (coB 60 ⟨["s", "x"], defScope (tst 75), [F_law_product, F_law_rows], glbs, false, ["s", "x"]⟩ (defBody (tst 75))).map (·.d) = some D_law_sum_table := by kernel_rfl
theorem ok_law_sum_table (m : Mods K mg glbs) (tx : Texts K mg) : OkAt P w K mg base 2 F_law_sum_table := by
  obtain ⟨a, fd, T⟩ := tx _ (List.mem_of_getElem? (i := 56) rfl)
  exact add_def (k := 1) (f := F_law_sum_table) (N := ["s", "x"]) (own := ["s", "x"]) m (AllOk.cons (AllOk.cons AllOk.nil ((ok_law_rows m tx).mono (by decide))) ((ok_law_product m tx).mono (by decide))) T ⟨rfl, rfl, rfl, by decide +kernel, rfl, by decide +kernel, by decide +kernel⟩ (fun _ _ _ _ _ _ us hl => match us, hl with | [_], _ => rfl) (cb_get c_law_sum_table) (fun args Φ _ h => v_law_sum_table args Φ h)
def F_law_shift : FnS := ⟨"_law_shift", ["table", "d"], sp_law_shift⟩
theorem c_law_shift : (coB 60 ⟨["table", "d", "k", "bit"], defScope (tst 76), [], glbs, false, ["table", "d", "k", "bit"]⟩ (defBody (tst 76))).map (·.d) = some D_law_shift := by kernel_rfl
theorem ok_law_shift (m : Mods K mg glbs) (tx : Texts K mg) : OkAt P w K mg base 1 F_law_shift := by
  obtain ⟨a, fd, T⟩ := tx _ (List.mem_of_getElem? (i := 57) rfl)
  exact add_def (k := 0) (f := F_law_shift) (N := ["table", "d", "k", "bit"]) (own := ["table", "d", "k", "bit"]) m AllOk.nil T ⟨rfl, rfl, rfl, by decide +kernel, rfl, by decide +kernel, by decide +kernel⟩ (fun _ _ _ _ _ _ us hl => match us, hl with | [_, _], _ => rfl) (cb_get c_law_shift) (fun args Φ _ h => v_law_shift args Φ h)
def F_law_near : FnS := ⟨"_law_near", ["table"], sp_law_near⟩
theorem c_law_near : (coB 60 ⟨["table", "n", "s", "a", "b"], defScope (tst 77), [F_law_rows, F_law_sum_table], glbs, false, ["table", "n", "s", "a", "b"]⟩ (defBody (tst 77))).map (·.d) = some D_law_near := by kernel_rfl
theorem ok_law_near (m : Mods K mg glbs) (tx : Texts K mg) : OkAt P w K mg base 3 F_law_near := by
  obtain ⟨a, fd, T⟩ := tx _ (List.mem_of_getElem? (i := 58) rfl)
  exact add_def (k := 2) (f := F_law_near) (N := ["table", "n", "s", "a", "b"]) (own := ["table", "n", "s", "a", "b"]) m (AllOk.cons (AllOk.cons AllOk.nil ((ok_law_sum_table m tx).mono (by decide))) ((ok_law_rows m tx).mono (by decide))) T ⟨rfl, rfl, rfl, by decide +kernel, rfl, by decide +kernel, by decide +kernel⟩ (fun _ _ _ _ _ _ us hl => match us, hl with | [_], _ => rfl) (cb_get c_law_near) (fun args Φ _ h => v_law_near args Φ h)
def F_law_weight : FnS := ⟨"_law_weight", ["values", "begin"], sp_law_weight⟩
theorem c_law_weight : (coB 60 ⟨["values", "begin", "n", "low", "own"], defScope (tst 78), [F_law_place], glbs, false, ["values", "begin", "n", "low", "own"]⟩ (defBody (tst 78))).map (·.d) = some D_law_weight := by kernel_rfl
theorem ok_law_weight (m : Mods K mg glbs) (tx : Texts K mg) : OkAt P w K mg base 2 F_law_weight := by
  obtain ⟨a, fd, T⟩ := tx _ (List.mem_of_getElem? (i := 59) rfl)
  exact add_def (k := 1) (f := F_law_weight) (N := ["values", "begin", "n", "low", "own"]) (own := ["values", "begin", "n", "low", "own"]) m (AllOk.cons AllOk.nil ((ok_law_place m tx).mono (by decide))) T ⟨rfl, rfl, rfl, by decide +kernel, rfl, by decide +kernel, by decide +kernel⟩ (fun _ _ _ _ _ _ us hl => match us, hl with | [_, _], _ => rfl) (cb_get c_law_weight) (fun args Φ _ h => v_law_weight args Φ h)
def F_law_tree : FnS := ⟨"_law_tree", ["values", "n", "least"], sp_law_tree⟩
theorem c_law_tree : (coB 60 ⟨["values", "n", "least", "found", "level", "size", "own", "begin", "weight"], defScope (tst 79), [F_law_weight], glbs, false, ["values", "n", "least", "found", "level", "size", "own", "begin", "weight"]⟩ (defBody (tst 79))).map (·.d) = some D_law_tree := by kernel_rfl
theorem ok_law_tree (m : Mods K mg glbs) (tx : Texts K mg) : OkAt P w K mg base 3 F_law_tree := by
  obtain ⟨a, fd, T⟩ := tx _ (List.mem_of_getElem? (i := 60) rfl)
  exact add_def (k := 2) (f := F_law_tree) (N := ["values", "n", "least", "found", "level", "size", "own", "begin", "weight"]) (own := ["values", "n", "least", "found", "level", "size", "own", "begin", "weight"]) m (AllOk.cons AllOk.nil ((ok_law_weight m tx).mono (by decide))) T ⟨rfl, rfl, rfl, by decide +kernel, rfl, by decide +kernel, by decide +kernel⟩ (fun _ _ _ _ _ _ us hl => match us, hl with | [_, _, _], _ => rfl) (cb_get c_law_tree) (fun args Φ _ h => v_law_tree args Φ h)
def F_law_are_trees_right : FnS := ⟨"_law_are_trees_right", ["pot", "table", "values", "n", "least"], sp_law_are_trees_right⟩
theorem c_law_are_trees_right : (coB 60 ⟨["pot", "table", "values", "n", "least", "tree", "widths", "great", "most", "i", "begin", "weight", "size", "row", "own"], defScope (tst 80), [F_law_tree, F_law_draw, F_tree_error, F_tree_paper, F_tree_widths, F_great_rows, F_great_of_paper, F_rows_most, F_law_rows], glbs, false, ["pot", "table", "values", "n", "least", "tree", "widths", "great", "most", "i", "begin", "weight", "size", "row", "own"]⟩ (defBody (tst 80))).map (·.d) = some D_law_are_trees_right := by kernel_rfl
theorem ok_law_are_trees_right (m : Mods K mg glbs) (tx : Texts K mg) : OkAt P w K mg base 7 F_law_are_trees_right := by
  obtain ⟨a, fd, T⟩ := tx _ (List.mem_of_getElem? (i := 61) rfl)
  exact add_def (k := 6) (f := F_law_are_trees_right) (N := ["pot", "table", "values", "n", "least", "tree", "widths", "great", "most", "i", "begin", "weight", "size", "row", "own"]) (own := ["pot", "table", "values", "n", "least", "tree", "widths", "great", "most", "i", "begin", "weight", "size", "row", "own"]) m (AllOk.cons (AllOk.cons (AllOk.cons (AllOk.cons (AllOk.cons (AllOk.cons (AllOk.cons (AllOk.cons (AllOk.cons AllOk.nil ((ok_law_rows m tx).mono (by decide))) ((ok_rows_most m tx).mono (by decide))) ((ok_great_of_paper m tx).mono (by decide))) ((ok_great_rows m tx).mono (by decide))) ((ok_tree_widths m tx).mono (by decide))) ((ok_tree_paper m tx).mono (by decide))) ((ok_tree_error m tx).mono (by decide))) ((ok_law_draw m tx).mono (by decide))) ((ok_law_tree m tx).mono (by decide))) T ⟨rfl, rfl, rfl, by decide +kernel, rfl, by decide +kernel, by decide +kernel⟩ (fun _ _ _ _ _ _ us hl => match us, hl with | [_, _, _, _, _], _ => rfl) (cb_get c_law_are_trees_right) (fun args Φ _ h => v_law_are_trees_right args Φ h)
def F_law_is_led_right : FnS := ⟨"_law_is_led_right", ["pot", "table", "values", "n"], sp_law_is_led_right⟩
theorem c_law_is_led_right : (coB 60 ⟨["pot", "table", "values", "n", "rows", "ys", "due", "y", "own", "bit", "row", "turn", "i"], defScope (tst 81), [F_law_rows, F_led_table, F_led_spectrum, F_rows_through, F_law_added, F_law_place, F_law_draw, F_law_near], glbs, false, ["pot", "table", "values", "n", "rows", "ys", "due", "y", "own", "bit", "row", "turn", "i"]⟩ (defBody (tst 81))).map (·.d) = some D_law_is_led_right := by kernel_rfl
theorem ok_law_is_led_right (m : Mods K mg glbs) (tx : Texts K mg) : OkAt P w K mg base 4 F_law_is_led_right := by
  obtain ⟨a, fd, T⟩ := tx _ (List.mem_of_getElem? (i := 62) rfl)
  exact add_def (k := 3) (f := F_law_is_led_right) (N := ["pot", "table", "values", "n", "rows", "ys", "due", "y", "own", "bit", "row", "turn", "i"]) (own := ["pot", "table", "values", "n", "rows", "ys", "due", "y", "own", "bit", "row", "turn", "i"]) m (AllOk.cons (AllOk.cons (AllOk.cons (AllOk.cons (AllOk.cons (AllOk.cons (AllOk.cons (AllOk.cons AllOk.nil ((ok_law_near m tx).mono (by decide))) ((ok_law_draw m tx).mono (by decide))) ((ok_law_place m tx).mono (by decide))) ((ok_law_added m tx).mono (by decide))) ((ok_rows_through m tx).mono (by decide))) ((ok_led_spectrum m tx).mono (by decide))) ((ok_led_table m tx).mono (by decide))) ((ok_law_rows m tx).mono (by decide))) T ⟨rfl, rfl, rfl, by decide +kernel, rfl, by decide +kernel, by decide +kernel⟩ (fun _ _ _ _ _ _ us hl => match us, hl with | [_, _, _, _], _ => rfl) (cb_get c_law_is_led_right) (fun args Φ _ h => v_law_is_led_right args Φ h)
theorem c_law : (coB 60 ⟨["script", "pot", "n", "size", "s", "table", "kept", "values", "steps", "i", "k", "shifts", "turn", "begin", "weight", "below", "bit", "own", "d", "x"], defScope (tst 82), [F_law_mixed, F_law_draw, F_cubes_sum, F_letter_step, F_spectrum_at, F_spectrum_error, F_law_weight, F_law_are_trees_right, F_law_is_led_right, F_law_pick, F_law_sum_table, F_spectrum, F_table_of_spectrum, F_is_spectrum, F_squares_sum, F_law_row_at, F_law_shift, F_shift_sums, F_shift_sum, F_crossed_sums, F_shift_paper_error, F_begin_weight, F_weight_by_shifts, F_weights_below, F_law_near], glbs, true, ["script", "pot", "n", "size", "s", "table", "kept", "values", "steps", "i", "k", "shifts", "turn", "begin", "weight", "below", "bit", "own", "d", "x"]⟩ (defBody (tst 82)).tail).map (·.d) = some L78_0 := by kernel_rfl
theorem law_end (m : Mods K mg glbs) (tx : Texts K mg) {f : Addr} {fd : FuncData} (T : FunD K "law" "law" (defArgs (tst 82)) (defBody (tst 82)) (defScope (tst 82)) [] [] f fd) :
    RunsAt P w K mg base f fd ["script"] (fun vs H Q _ => (∃ (a : Addr) (ns : List Int), vs = [.ref a] ∧ SqL K H a (ns.map V.int) ∧ ns.length ≤ 63) ∧ ∀ H', Q (.bl true) H') := by
  obtain ⟨a, fd2, T2⟩ := tx _ (List.mem_of_getElem? (i := 47) rfl)
  have po := pot_ok (P := P) (w := w) (base := base) (q0 := ⟨221, 4, 221, 9⟩) (q1 := ⟨221, 11, 221, 15⟩) (q2 := ⟨221, 4, 221, 15⟩) (q3 := ⟨221, 20, 221, 21⟩) (q4 := ⟨221, 24, 221, 27⟩) (q5 := ⟨221, 28, 221, 31⟩) (q6 := ⟨221, 24, 221, 32⟩) (q7 := ⟨221, 20, 221, 32⟩) (q8 := ⟨221, 35, 221, 38⟩) (q9 := ⟨221, 39, 221, 42⟩) (q10 := ⟨221, 45, 221, 46⟩) (q11 := ⟨221, 39, 221, 46⟩) (q12 := ⟨221, 35, 221, 47⟩) (q13 := ⟨221, 20, 221, 47⟩) (q14 := ⟨221, 52, 221, 55⟩) (q15 := ⟨221, 59, 221, 65⟩) (q16 := ⟨221, 67, 221, 69⟩) (q17 := ⟨221, 66, 221, 69⟩) (q18 := ⟨221, 59, 221, 70⟩) (q19 := ⟨221, 19, 221, 71⟩) (q20 := ⟨221, 73, 221, 78⟩) (q21 := ⟨221, 81, 221, 84⟩) (q22 := ⟨221, 87, 221, 90⟩) (q23 := ⟨221, 91, 221, 97⟩) (q24 := ⟨221, 87, 221, 98⟩) (q25 := ⟨221, 81, 221, 98⟩) (q26 := ⟨221, 73, 221, 98⟩) (q27 := ⟨221, 18, 221, 99⟩) (q28 := ⟨221, 4, 221, 99⟩) (q29 := ⟨222, 8, 222, 12⟩) (q30 := ⟨222, 16, 222, 21⟩) (q31 := ⟨223, 8, 223, 12⟩) (q32 := ⟨223, 15, 223, 18⟩) (q33 := ⟨223, 19, 223, 23⟩) (q34 := ⟨223, 26, 223, 31⟩) (q35 := ⟨223, 19, 223, 31⟩) (q36 := ⟨223, 34, 223, 38⟩) (q37 := ⟨223, 19, 223, 38⟩) (q38 := ⟨223, 41, 223, 42⟩) (q39 := ⟨223, 19, 223, 42⟩) (q40 := ⟨223, 15, 223, 43⟩) (q41 := ⟨223, 46, 223, 56⟩) (q42 := ⟨223, 15, 223, 56⟩) (q43 := ⟨223, 8, 223, 56⟩) (q44 := ⟨222, 4, 223, 56⟩) (q45 := ⟨224, 12, 224, 19⟩) (q46 := ⟨224, 70, 224, 76⟩) (q47 := ⟨224, 84, 224, 90⟩) (q48 := ⟨224, 22, 224, 25⟩) (q49 := ⟨224, 30, 224, 33⟩) (q50 := ⟨224, 37, 224, 42⟩) (q51 := ⟨224, 46, 224, 49⟩) (q52 := ⟨224, 53, 224, 55⟩) (q53 := ⟨224, 59, 224, 61⟩) (q54 := ⟨224, 53, 224, 61⟩) (q55 := ⟨224, 46, 224, 61⟩) (q56 := ⟨224, 21, 224, 62⟩) (q57 := ⟨224, 66, 224, 67⟩) (q58 := ⟨224, 65, 224, 67⟩) (q59 := ⟨224, 63, 224, 67⟩) (q60 := ⟨224, 21, 224, 68⟩) (q61 := ⟨224, 78, 224, 82⟩) (q62 := ⟨224, 92, 224, 93⟩) (q63 := ⟨224, 11, 224, 94⟩) (q64 := ⟨224, 4, 224, 94⟩) m T2 (by kernel_rfl) (by kernel_rfl) rfl
  exact law_runs (k := 7) (N := ["script", "pot", "n", "size", "s", "table", "kept", "values", "steps", "i", "k", "shifts", "turn", "begin", "weight", "below", "bit", "own", "d", "x"]) (own := ["script", "pot", "n", "size", "s", "table", "kept", "values", "steps", "i", "k", "shifts", "turn", "begin", "weight", "below", "bit", "own", "d", "x"]) (px := ⟨314, 4, 314, 7⟩) (pf := ⟨314, 10, 314, 18⟩) (pa := ⟨314, 19, 314, 25⟩) (pc := ⟨314, 10, 314, 26⟩) (ps := ⟨314, 4, 314, 26⟩) (rest := (defBody (tst 82)).tail) (kp := 1) T m (AllOk.cons (AllOk.cons (AllOk.cons (AllOk.cons (AllOk.cons (AllOk.cons (AllOk.cons (AllOk.cons (AllOk.cons (AllOk.cons (AllOk.cons (AllOk.cons (AllOk.cons (AllOk.cons (AllOk.cons (AllOk.cons (AllOk.cons (AllOk.cons (AllOk.cons (AllOk.cons (AllOk.cons (AllOk.cons (AllOk.cons (AllOk.cons (AllOk.cons AllOk.nil ((ok_law_near m tx).mono (by decide))) ((ok_weights_below m tx).mono (by decide))) ((ok_weight_by_shifts m tx).mono (by decide))) ((ok_begin_weight m tx).mono (by decide))) ((ok_shift_paper_error m tx).mono (by decide))) ((ok_crossed_sums m tx).mono (by decide))) ((ok_shift_sum m tx).mono (by decide))) ((ok_shift_sums m tx).mono (by decide))) ((ok_law_shift m tx).mono (by decide))) ((ok_law_row_at m tx).mono (by decide))) ((ok_squares_sum m tx).mono (by decide))) ((ok_is_spectrum m tx).mono (by decide))) ((ok_table_of_spectrum m tx).mono (by decide))) ((ok_spectrum m tx).mono (by decide))) ((ok_law_sum_table m tx).mono (by decide))) ((ok_law_pick m tx).mono (by decide))) ((ok_law_is_led_right m tx).mono (by decide))) ((ok_law_are_trees_right m tx).mono (by decide))) ((ok_law_weight m tx).mono (by decide))) ((ok_spectrum_error m tx).mono (by decide))) ((ok_spectrum_at m tx).mono (by decide))) ((ok_letter_step m tx).mono (by decide))) ((ok_cubes_sum m tx).mono (by decide))) ((ok_law_draw m tx).mono (by decide))) ((ok_law_mixed m tx).mono (by decide))) ⟨rfl, rfl, rfl, by decide +kernel, rfl, by decide +kernel, by decide +kernel⟩ ⟨rfl, by decide, by decide⟩ (by kernel_rfl) po (by decide) T2.mg T2.fun_.kp (T2.fun_.bindsN fun _ _ _ _ _ _ us hl => match us, hl with | [_], _ => rfl) rfl rfl (by decide +kernel) (loc_ok (by decide +kernel)) (by decide +kernel) (cb_get c_law) v_law78
end
def dAt (d : Str × Str × Nat) : He.DefD := ⟨(d.1, none), d.2.1, d.2.1, defArgs (tst d.2.2), defBody (tst d.2.2), defScope (tst d.2.2), [], []⟩
def hfn : List He.DefD := (txs ++ [(("law" : Str), ("law" : Str), 82)]).map dAt
def hfa : List He.Fa := (txs ++ [(("law" : Str), ("law" : Str), 82)]).map (fun d : Str × Str × Nat => He.Fa.glo d.1) ++ bltNames.map He.Fa.free ++ glbs.map fun p => .int p.1 p.2
def loose0 : List Str := ["MAX_LISTED", "__name__", "BitError", "Unfit", "TooMany", "row_place", "row_at", "rows_added", "rows_product", "all_rows", "is_integer", "is_integer_spectra", "are_integers", "signs_of", "stepped", "letter_step", "led_through", "spectrum", "spectrum_at", "first_unlike", "spectrum_error", "crossed_sums", "shift_sums", "shift_sum", "shift_paper_error", "table_letters", "is_integer_tapes", "power_of_two", "power_of_two_tapes", "weight_in"]
def loose1 : List Str := ["begin_weight", "weight_by_shifts", "weights_below", "tree_levels", "tree_paper", "is_begin", "is_item", "tree_error", "tree_widths", "rows_at", "great_rows", "great_of_paper", "rows_most", "power_of_two_rankcounts", "rows_through", "table_size", "led_table", "led_spectrum", "is_spectrum", "table_of_spectrum", "squares_sum", "cubes_sum", "_law_pot", "_law_draw", "_law_pick", "_law_mixed", "_law_rows", "_law_place", "_law_row_at", "_law_added"]
def loose2 : List Str := ["_law_product", "_law_sum_table", "_law_shift", "_law_near", "_law_weight", "_law_tree", "_law_are_trees_right", "_law_is_led_right"]
def loose : List Str := loose0 ++ loose1 ++ loose2
abbrev RR : PySem.W.OpenRow := PySem.W.OpenLaw.row PySem.Challenge.rw_fewbitsread_k78_whole_spectra_to_trees
abbrev hk : PySem.W.Hook := He.hookD 4 hfa hfn
def ob (s : PySem.W.SharedT) : He.AlD := He.obsDG 4 hfa hfn (HandSHeadRun.getT s)
theorem ob_eq (s : PySem.W.SharedT) : ob s = hk.obs s.abs := He.obsDG_eq (HandSHeadRun.getT_eq s)
theorem hrun (w : World) : HandSHeadRun.RunEq RR (PySem.W.view RR.prog [82]) hk ob 6000 loose w := by
  intro os
  kernel_rfl
theorem texts_of {K : PySem.W.Frag} {h : Heap} {mg : Str → Option Value} (X : K.In h) (G : h.Ns mainGlobals mg) (c : He.SaysD hfa hfn K) : Texts K mg := by
  intro d hd
  obtain ⟨i, hi⟩ := List.getElem?_of_mem hd
  have hl : i < txs.length := (List.getElem?_eq_some_iff.mp hi).1
  have e1 : hfn[i]? = some (dAt d) := by
    unfold hfn
    rw [List.getElem?_map, List.getElem?_append_left hl, hi]; rfl
  have e2 : hfa[i]? = some (.glo d.1) := by
    unfold hfa
    rw [List.getElem?_append_left (by simp; omega), List.getElem?_append_left (by simp; omega), List.getElem?_map, List.getElem?_append_left hl, hi]; rfl
  obtain ⟨fd, F⟩ := c.def_ i e1
  exact ⟨_, fd, F, He.glo_ok X G (c.fact i e2)⟩
theorem mods_of {K : PySem.W.Frag} {h : Heap} {mg : Str → Option Value} (X : K.In h) (G : h.Ns mainGlobals mg) (c : He.SaysD hfa hfn K) : Mods K mg glbs := by
  refine ⟨fun x hx => ?_, fun p hp => ?_⟩
  · obtain ⟨i, hi⟩ := List.getElem?_of_mem (show He.Fa.free x ∈ hfa by unfold hfa; simp [hx])
    exact He.free_ok X G (c.fact i hi)
  · obtain ⟨i, hi⟩ := List.getElem?_of_mem (show He.Fa.int p.1 p.2 ∈ hfa by unfold hfa; exact List.mem_append_right _ (List.mem_map.mpr ⟨p, hp, rfl⟩))
    exact He.int_ok X G (c.fact i hi)
theorem law_fact {K : PySem.W.Frag} {h : Heap} {mg : Str → Option Value} {f : Addr} (X : K.In h) (G : h.Ns mainGlobals mg) (hf : mg ("law" : Str) = some (.ref f)) (c : He.SaysD hfa hfn K) :
    ∃ fd, FunD K "law" "law" (defArgs (tst 82)) (defBody (tst 82)) (defScope (tst 82)) [] [] f fd := by
  obtain ⟨fd, F⟩ := c.def_ 63 (d := dAt ("law", "law", 82)) (by rfl)
  have e := hf.symm.trans (He.glo_ok X G (c.fact 63 (f := .glo "law") (by rfl)))
  cases e
  exact ⟨fd, F⟩
end Ev
open PySem PySem.W PySem.Calls PyProof.Rows
theorem PySem.Challenge.cw_fewbitsread_k78_whole_spectra_to_trees_holds : PySem.Challenge.rw_fewbitsread_k78_whole_spectra_to_trees.Holds := by
  w_on; o_law
  refine HandSHeadRun.head_any (r := OpenLaw.row PySem.Challenge.rw_fewbitsread_k78_whole_spectra_to_trees) (q := view (OpenLaw.row PySem.Challenge.rw_fewbitsread_k78_whole_spectra_to_trees).prog [82]) (H := Ev.hk) (ob := Ev.ob) (M := 6000) (loose := Ev.loose) (d := HandSHeadRun.topDef (OpenLaw.row PySem.Challenge.rw_fewbitsread_k78_whole_spectra_to_trees).prog 82) (kwd := []) Ev.ob_eq
    (by kernel_rfl) (fun s => by kernel_rfl) Ev.hrun (by kernel_rfl) (by kernel_rfl) (by kernel_rfl) (by rfl) (by first | assumption | decide +kernel) (by decide +kernel) ⟨rfl, rfl, rfl, rfl, rfl, by decide +kernel⟩ ?hw ?hc
  case hw => w_witness2
  case hc =>
    refine Ev.walk_law (l := PySem.Challenge.rw_fewbitsread_k78_whole_spectra_to_trees) (n := 63) (x := "script") rfl (by decide) (by kernel_rfl) ?F
    intro w mg fa h Y G hmg0
    obtain ⟨K, KX, c⟩ := Y
    have hmg : mg ("law" : PySem.Str) = some (.ref fa) := by
      have e : (HandSHeadRun.topDef (OpenLaw.row PySem.Challenge.rw_fewbitsread_k78_whole_spectra_to_trees).prog 82).name = ("law" : PySem.Str) := by kernel_rfl
      rw [← e]
      exact hmg0
    obtain ⟨fd, F⟩ := Ev.law_fact KX G hmg c
    have b := L2.FunD.bindsA (ps := ["script"]) F fun _ _ _ _ _ _ us hl => match us, hl with | [_], _ => rfl
    refine ⟨K, fd, _, KX, fun s v => b s [v] rfl, ?_, fun base _ _ => Ev.law_end (Ev.mods_of KX G c) (Ev.texts_of KX G c) F⟩
    exact fun H a ns hl _ hS => ⟨⟨a, ns, rfl, hS, hl⟩, fun _ => rfl⟩
