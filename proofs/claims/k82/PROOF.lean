import PyProof.Rows.All
import Wide.All
import OpenK.AllK
import Wide.FinOn
import HandS.ForMost
import HandS.Deep
import HandS.TupAny
import HandS.TupMul
import HandS.Zip
import HandS.Style
import HandS.WideBits
import HandS.Conv
import HandS.IsInst
import HandS.SortInts
import HandS.Defaults
import HandS.DictComp
import HandS.DictTup
import HandS.TryOnly
import KE.KRevSl
import PyProof.Walk
import PyProof.WalkLemmas
import PyProof.RaisesAny
import PyProof.FactsSeq
import PyProof.SeqWrite
import PyProof.AutoSeq1
import KE.GoesNew
import KE.GoesMore
import KE.GoesZip
import HandS.TupSets
import HandS.SetFor
import PyProof.ReprRoads
import KE.KIndexOf
import KE.DataFind
import HandS.HeadEnd
import HandS.HeadHook2
import KE.BitLaws
import KE.OsArith
import KE.IntBitsLaws
import HandS.Head0
import HandS.Head1
import HandS.Head2
import HandS.HeadHook1
import KE.KStateDown
import PySem.Challenge.RW_fewbitsread_k82_whole_beside_along
set_option Elab.async false
set_option linter.all false
set_option maxRecDepth 100000
/-! Ev1: values by value, their place in the abstract heap, what a step may change. -/
namespace Ev
open PySem PySem.Spec PyProof.Rows L2

/-- a value as the evaluator sees it: shared data (never changed any more), a list or a dict that one name alone holds, the pot -/
inductive Val where
  | d (x : PyData)
  | own (xs : List PyData)
  | odk (b : Bool) (kvs : List (PyData × PyData))
  | pot

abbrev Env := List (Option Val)
abbrev AP1 := Addr → Prop

mutual
def RepD (F : AP1) (H : Hp) : PyData → V → Prop
  | .none, v => v = .non
  | .bool b, v => v = .bl b
  | .int i, v => v = .int i
  | .str s, v => v = .str s
  | .tuple xs, v => ∃ a vs, v = .ref a ∧ F a ∧ H a = some (.tup vs) ∧ RepAll F H xs vs
  | .list xs, v => ∃ a vs, v = .ref a ∧ F a ∧ H a = some (.lst vs) ∧ RepAll F H xs vs
  | .dict _, _ => False
def RepAll (F : AP1) (H : Hp) : List PyData → List V → Prop
  | [], vs => vs = []
  | x :: xs, vs => ∃ v r, vs = v :: r ∧ RepD F H x v ∧ RepAll F H xs r
end

section
variable {F F' : AP1} {H H' : Hp}
mutual
theorem RepD.mono (g : ∀ a, F a → F' a) (k : ∀ a o, F a → H a = some o → H' a = some o) : ∀ (x : PyData) (v : V), RepD F H x v → RepD F' H' x v
  | .none, v, h => by simp only [RepD] at h ⊢; exact h
  | .bool b, v, h => by simp only [RepD] at h ⊢; exact h
  | .int i, v, h => by simp only [RepD] at h ⊢; exact h
  | .str s, v, h => by simp only [RepD] at h ⊢; exact h
  | .tuple xs, v, h => by
    simp only [RepD] at h ⊢
    obtain ⟨a, vs, e, fa, ha, r⟩ := h
    exact ⟨a, vs, e, g a fa, k a _ fa ha, RepAll.mono g k xs vs r⟩
  | .list xs, v, h => by
    simp only [RepD] at h ⊢
    obtain ⟨a, vs, e, fa, ha, r⟩ := h
    exact ⟨a, vs, e, g a fa, k a _ fa ha, RepAll.mono g k xs vs r⟩
  | .dict _, v, h => by simp only [RepD] at h
theorem RepAll.mono (g : ∀ a, F a → F' a) (k : ∀ a o, F a → H a = some o → H' a = some o) : ∀ (xs : List PyData) (vs : List V), RepAll F H xs vs → RepAll F' H' xs vs
  | [], vs, h => by simp only [RepAll] at h ⊢; exact h
  | x :: xs, vs, h => by
    simp only [RepAll] at h ⊢
    obtain ⟨v, r, e, h1, h2⟩ := h
    exact ⟨v, r, e, RepD.mono g k x v h1, RepAll.mono g k xs r h2⟩
end
mutual
/-- what is shown as data is read as data -/
theorem RepD.dp {K : PySem.W.Frag} : ∀ (x : PyData) (v : V), RepD F H x v → Dp K H v x
  | .none, v, h => by simp only [RepD] at h; subst h; exact .non
  | .bool b, v, h => by simp only [RepD] at h; subst h; exact .bl b
  | .int i, v, h => by simp only [RepD] at h; subst h; exact .int i
  | .str s, v, h => by simp only [RepD] at h; subst h; exact .str s
  | .tuple xs, v, h => by
    simp only [RepD] at h
    obtain ⟨a, vs, e, fa, ha, r⟩ := h
    subst e
    exact .tup (SqT.of ha) (RepAll.dp xs vs r)
  | .list xs, v, h => by
    simp only [RepD] at h
    obtain ⟨a, vs, e, fa, ha, r⟩ := h
    subst e
    exact .lst (SqL.of ha) (RepAll.dp xs vs r)
  | .dict _, v, h => by simp only [RepD] at h
theorem RepAll.dp {K : PySem.W.Frag} : ∀ (xs : List PyData) (vs : List V), RepAll F H xs vs → DpAll K H vs xs
  | [], vs, h => by simp only [RepAll] at h; subst h; exact .nil
  | x :: xs, vs, h => by
    simp only [RepAll] at h
    obtain ⟨v, r, e, h1, h2⟩ := h
    subst e
    exact .cons (RepD.dp x v h1) (RepAll.dp xs r h2)
end
end

/-! ### the pot: a dict of the law's own, with a list in it -/
structure PotOk (H : Hp) (p g : Addr) : Prop where
  ex : ∃ (ns : List Int) (sl tn : Int), H p = some (.dK [(Sum.inr (Str.ofString "great"), V.ref g), (Sum.inr (Str.ofString "seal"), V.int sl), (Sum.inr (Str.ofString "turn"), V.int tn)]) ∧
    H g = some (.lst (ns.map V.int)) ∧ (∀ n ∈ ns, 0 ≤ n) ∧ ns.length ≤ 62 ∧ 0 ≤ sl ∧ sl < 4294967291 ∧ 0 ≤ tn

abbrev Gh := Option (Addr × Addr)
def InPot (G : Gh) (a : Addr) : Prop := ∃ p g, G = some (p, g) ∧ (a = p ∨ a = g)

def isOwn : Val → Bool
  | .own _ => true
  | .odk _ _ => true
  | _ => false

/-- a dict that one name alone holds: keys are ints, texts -/
def keyOf : PyData → Option Key
  | .int i => some (.inl i)
  | .str s => some (.inr s)
  | _ => none
def codes {κ : Type} (c : PyData → Option κ) : List PyData → Option (List κ)
  | [] => some []
  | x :: xs => (c x).bind fun k => (codes c xs).map fun r => k :: r

/-- keys that are tuples of ints, texts -/
def keyOfT : PyData → Option (List Key)
  | .tuple xs => codes keyOf xs
  | _ => none
/-- what stands in the heap: a dict of plain keys (false), of tuples (true) -/
def DictHO (b : Bool) (ks : List PyData) (vs : List V) (o : HO) : Prop :=
  if b = true then ∃ kk, codes keyOfT ks = some kk ∧ kk.Nodup ∧ o = .dT (kk.zip vs) else ∃ kk, codes keyOf ks = some kk ∧ kk.Nodup ∧ o = .dK (kk.zip vs)
theorem DictHO.not_tup {b : Bool} {ks : List PyData} {vs : List V} {o : HO} (h : DictHO b ks vs o) : ∀ xs, o ≠ .tup xs := by
  intro xs e
  unfold DictHO at h
  split at h
  · obtain ⟨_, _, _, q⟩ := h; rw [e] at q; cases q
  · obtain ⟨_, _, _, q⟩ := h; rw [e] at q; cases q
def RepV (G : Gh) (F : AP1) (H : Hp) : Val → V → Prop
  | .d x, v => RepD F H x v
  | .own xs, v => ∃ a vs, v = .ref a ∧ ¬ F a ∧ H a = some (.lst vs) ∧ RepAll F H xs vs
  | .odk b kvs, v => ∃ a vs o, v = .ref a ∧ ¬ F a ∧ RepAll F H (kvs.map (·.2)) vs ∧ H a = some o ∧ DictHO b (kvs.map (·.1)) vs o
  | .pot, v => ∃ p g, G = some (p, g) ∧ v = .ref p

def OwnS (env : Env) (σ : L2.St) (a : Addr) : Prop := ∃ (i : Nat) (v : Val), env[i]? = some (some v) ∧ isOwn v = true ∧ σ[i]? = some (some (V.ref a))

/-- how a frame's names stand in the heap -/
structure R (G : Gh) (F : AP1) (env : Env) (σ : L2.St) (H : Hp) : Prop where
  len : env.length = σ.length
  rep : ∀ (i : Nat) (v : Val), env[i]? = some (some v) → ∃ x, σ[i]? = some (some x) ∧ RepV G F H v x
  sep : ∀ (i j : Nat) (v w : Val) (a : Addr), env[i]? = some (some v) → env[j]? = some (some w) → isOwn v = true → isOwn w = true → σ[i]? = some (some (V.ref a)) → σ[j]? = some (some (V.ref a)) → i = j
  al : ∀ a, F a → ∃ o, H a = some o
  pt : ∀ p g, G = some (p, g) → PotOk H p g ∧ ¬ F p ∧ ¬ F g ∧ ∀ a, OwnS env σ a → a ≠ p ∧ a ≠ g

/-- what an expression may have changed -/
structure Ext (G : Gh) (F : AP1) (env : Env) (σ : L2.St) (H : Hp) (F' : AP1) (env' : Env) (H' : Hp) : Prop where
  r : R G F' env' σ H'
  keep : ∀ a o, H a = some o → ¬ OwnS env σ a → ¬ InPot G a → H' a = some o
  live : ∀ a o, H a = some o → ∃ o', H' a = some o'
  grow : ∀ a, F a → F' a
  fro : ∀ a, F' a → F a ∨ OwnS env σ a ∨ H a = none ∨ ∃ xs, H a = some (.tup xs)
  ownd : ∀ a, OwnS env' σ a → OwnS env σ a

/-- where a value that has come stands -/
structure Res (G : Gh) (env : Env) (σ : L2.St) (H : Hp) (F' : AP1) (env' : Env) (H' : Hp) (v : Val) (x : V) : Prop where
  rep : RepV G F' H' v x
  one : isOwn v = true → ∀ a, x = .ref a → (OwnS env σ a ∨ H a = none) ∧ ¬ OwnS env' σ a ∧ ¬ InPot G a

section
variable {G : Gh} {F F1 F2 : AP1} {env env1 env2 : Env} {σ : L2.St} {H H1 H2 : Hp} {v w : Val} {x y : V}

theorem R.ownF (r : R G F env σ H) {a : Addr} (h : OwnS env σ a) : ¬ F a := by
  obtain ⟨i, v, e, o, s⟩ := h
  obtain ⟨x, s', rv⟩ := r.rep i v e
  rw [s] at s'; cases s'
  cases v with
  | d _ => cases o
  | pot => cases o
  | own xs => obtain ⟨a', vs, e1, h1, _⟩ := rv; cases e1; exact h1
  | odk b kvs => obtain ⟨a', vs, o, e1, h1, _⟩ := rv; cases e1; exact h1
theorem R.ownL (r : R G F env σ H) {a : Addr} (h : OwnS env σ a) : ∃ o, H a = some o := by
  obtain ⟨i, v, e, o, s⟩ := h
  obtain ⟨x, s', rv⟩ := r.rep i v e
  rw [s] at s'; cases s'
  cases v with
  | d _ => cases o
  | pot => cases o
  | own xs => obtain ⟨a', vs, e1, _, h1, _⟩ := rv; cases e1; exact ⟨_, h1⟩
  | odk b kvs => obtain ⟨a', vs, o, e1, _, _, h1, _⟩ := rv; cases e1; exact ⟨_, h1⟩
theorem R.potF (r : R G F env σ H) {a : Addr} (h : InPot G a) : ¬ F a := by
  obtain ⟨p, g, e, h⟩ := h
  obtain ⟨_, h1, h2, _⟩ := r.pt p g e
  rcases h with rfl | rfl
  · exact h1
  · exact h2
theorem R.potL (r : R G F env σ H) {a : Addr} (h : InPot G a) : ∃ o, H a = some o := by
  obtain ⟨p, g, e, h⟩ := h
  obtain ⟨⟨ns, sl, tn, h1, h2, _⟩, _⟩ := r.pt p g e
  rcases h with rfl | rfl
  · exact ⟨_, h1⟩
  · exact ⟨_, h2⟩
theorem R.potO (r : R G F env σ H) {a : Addr} (h : InPot G a) : ¬ OwnS env σ a := fun o => by
  obtain ⟨p, g, e, h⟩ := h
  obtain ⟨_, _, _, n⟩ := r.pt p g e
  have := n a o
  rcases h with rfl | rfl
  · exact this.1 rfl
  · exact this.2 rfl
theorem R.ownT (r : R G F env σ H) {a : Addr} (h : OwnS env σ a) {xs : List V} (e : H a = some (.tup xs)) : False := by
  obtain ⟨i, v, ei, o, s⟩ := h
  obtain ⟨x, s', rv⟩ := r.rep i v ei
  rw [s] at s'; cases s'
  cases v with
  | d _ => cases o
  | pot => cases o
  | own ys => obtain ⟨a', vs, e1, _, h1, _⟩ := rv; cases e1; rw [e] at h1; cases h1
  | odk b kvs => obtain ⟨a', vs, ob, e1, _, _, h1, h2⟩ := rv; cases e1; rw [e] at h1; cases h1; exact h2.not_tup xs rfl
theorem R.potT (r : R G F env σ H) {a : Addr} (h : InPot G a) {xs : List V} (e : H a = some (.tup xs)) : False := by
  obtain ⟨p, g, eg, h⟩ := h
  obtain ⟨⟨ns, sl, tn, h1, h2, _⟩, _⟩ := r.pt p g eg
  rcases h with rfl | rfl
  · rw [e] at h1; cases h1
  · rw [e] at h2; cases h2
theorem R.freshF (r : R G F env σ H) {a : Addr} (h : H a = none) : ¬ F a := fun f => by
  obtain ⟨o, e⟩ := r.al a f
  rw [h] at e; cases e
theorem R.freshO (r : R G F env σ H) {a : Addr} (h : H a = none) : ¬ OwnS env σ a := fun f => by
  obtain ⟨o, e⟩ := r.ownL f
  rw [h] at e; cases e
theorem R.freshP (r : R G F env σ H) {a : Addr} (h : H a = none) : ¬ InPot G a := fun f => by
  obtain ⟨o, e⟩ := r.potL f
  rw [h] at e; cases e

theorem Ext.stab (r : R G F env σ H) (e : Ext G F env σ H F1 env1 H1) : ∀ a o, F a → H a = some o → H1 a = some o :=
  fun a o f h => e.keep a o h (fun z => r.ownF z f) (fun z => r.potF z f)
theorem Ext.repD (r : R G F env σ H) (e : Ext G F env σ H F1 env1 H1) {d : PyData} (h : RepD F H d x) : RepD F1 H1 d x :=
  RepD.mono e.grow (e.stab r) d x h
theorem Ext.repA (r : R G F env σ H) (e : Ext G F env σ H F1 env1 H1) {ds : List PyData} {xs : List V} (h : RepAll F H ds xs) : RepAll F1 H1 ds xs :=
  RepAll.mono e.grow (e.stab r) ds xs h
theorem Ext.refl (r : R G F env σ H) : Ext G F env σ H F env H :=
  ⟨r, fun _ _ h _ _ => h, fun _ o h => ⟨o, h⟩, fun _ h => h, fun _ h => .inl h, fun _ h => h⟩
theorem Ext.trans (a : Ext G F env σ H F1 env1 H1) (b : Ext G F1 env1 σ H1 F2 env2 H2) : Ext G F env σ H F2 env2 H2 where
  r := b.r
  keep := fun c o h n p => b.keep c o (a.keep c o h n p) (fun z => n (a.ownd c z)) p
  live := fun c o h => let ⟨o1, h1⟩ := a.live c o h; b.live c o1 h1
  grow := fun c h => b.grow c (a.grow c h)
  fro := fun c h => by
    rcases b.fro c h with z | z | z | ⟨xs, z⟩
    · exact a.fro c z
    · exact .inr (.inl (a.ownd c z))
    · refine .inr (.inr (.inl ?_))
      cases q : H c with
      | none => rfl
      | some o => obtain ⟨o', e⟩ := a.live c o q; rw [z] at e; cases e
    · cases q : H c with
      | none => exact .inr (.inr (.inl rfl))
      | some o =>
        by_cases ho : OwnS env σ c
        · exact .inr (.inl ho)
        · by_cases hp : InPot G c
          · obtain ⟨p, g, e, hc⟩ := hp
            obtain ⟨⟨ns, sl, tn, h1, h2, _⟩, _⟩ := a.r.pt p g e
            rcases hc with rfl | rfl
            · rw [z] at h1; cases h1
            · rw [z] at h2; cases h2
          · have := a.keep c o q ho hp
            rw [z] at this; cases this
            exact .inr (.inr (.inr ⟨xs, rfl⟩))
  ownd := fun c h => a.ownd c (b.ownd c h)
/-- what was a tuple half way was one before, or was not there, or was one's own -/
theorem Ext.tup (a : Ext G F env σ H F1 env1 H1) {c : Addr} {xs : List V} (z : H1 c = some (.tup xs)) : OwnS env σ c ∨ H c = none ∨ ∃ xs, H c = some (.tup xs) := by
  cases q : H c with
  | none => exact .inr (.inl rfl)
  | some o =>
    by_cases ho : OwnS env σ c
    · exact .inl ho
    · by_cases hp : InPot G c
      · exact (a.r.potT hp z).elim
      · have := a.keep c o q ho hp
        rw [z] at this; cases this
        exact .inr (.inr ⟨xs, rfl⟩)
theorem Ext.free (a : Ext G F env σ H F1 env1 H1) {c : Addr} (h : H1 c = none) : H c = none := by
  cases q : H c with
  | none => rfl
  | some o => obtain ⟨o', e⟩ := a.live c o q; rw [h] at e; cases e

/-- a value that stood stays through a further step -/
theorem Res.step (r1 : R G F1 env1 σ H1) (q : Res G env σ H F1 env1 H1 v x) (e : Ext G F1 env1 σ H1 F2 env2 H2) : Res G env σ H F2 env2 H2 v x := by
  have kp : ∀ a o, H1 a = some o → ¬ OwnS env1 σ a → ¬ InPot G a → H2 a = some o := e.keep
  have nF : ∀ a o, H1 a = some o → (∀ xs, o ≠ .tup xs) → ¬ F1 a → ¬ OwnS env1 σ a → ¬ F2 a := fun a o h nt n n2 f => by
    rcases e.fro a f with z | z | z | ⟨xs, z⟩
    · exact n z
    · exact n2 z
    · rw [h] at z; cases z
    · rw [h] at z; cases z; exact nt xs rfl
  refine ⟨?_, fun ho a ea => ?_⟩
  · cases v with
    | d z => exact e.repD r1 q.rep
    | pot => exact q.rep
    | own xs =>
      obtain ⟨a, vs, ea, n, ha, rr⟩ := q.rep
      obtain ⟨_, o2, o3⟩ := q.one rfl a ea
      exact ⟨a, vs, ea, nF a _ ha (fun _ z => by cases z) n o2, kp a _ ha o2 o3, e.repA r1 rr⟩
    | odk b kvs =>
      obtain ⟨a, vs, o, ea, n, rr, ha, ho⟩ := q.rep
      obtain ⟨_, o2, o3⟩ := q.one rfl a ea
      exact ⟨a, vs, o, ea, nF a _ ha ho.not_tup n o2, e.repA r1 rr, kp a _ ha o2 o3, ho⟩
  · obtain ⟨o1, o2, o3⟩ := q.one ho a ea
    exact ⟨o1, fun z => o2 (e.ownd a z), o3⟩
/-- .. from the beginning of a step further back -/
theorem Res.back (a : Ext G F env σ H F1 env1 H1) (q : Res G env1 σ H1 F2 env2 H2 v x) : Res G env σ H F2 env2 H2 v x :=
  ⟨q.rep, fun ho c ec => by
    obtain ⟨o1, o2, o3⟩ := q.one ho c ec
    refine ⟨?_, o2, o3⟩
    rcases o1 with z | z
    · exact .inl (a.ownd c z)
    · exact .inr (a.free z)⟩
theorem Res.imm {z : PyData} (h : RepD F1 H1 z x) : Res G env σ H F1 env1 H1 (.d z) x := ⟨h, fun ho => by cases ho⟩

/-- a new object, which nobody writes any more -/
theorem Ext.shared (r : R G F env σ H) {p : Addr} {o : HO} (hp : H p = none) : Ext G F env σ H (fun a => F a ∨ a = p) env (upd H p o) := by
  have np : ∀ a u, H a = some u → a ≠ p := fun a u h e => by subst e; rw [hp] at h; cases h
  have k : ∀ a u, H a = some u → upd H p o a = some u := fun a u h => by rw [upd_ne (np a u h)]; exact h
  refine ⟨⟨r.len, fun i v e => ?_, r.sep, fun a f => ?_, fun q g e => ?_⟩, fun a u h _ _ => k a u h, fun a u h => ⟨u, k a u h⟩, fun a h => .inl h, fun a h => ?_, fun _ h => h⟩
  · obtain ⟨x, sx, rv⟩ := r.rep i v e
    refine ⟨x, sx, ?_⟩
    have gr : ∀ a, F a → F a ∨ a = p := fun a h => .inl h
    have st : ∀ a u, F a → H a = some u → upd H p o a = some u := fun a u _ h => k a u h
    cases v with
    | d z => exact RepD.mono gr st _ _ rv
    | pot => exact rv
    | own xs =>
      obtain ⟨a, vs, ea, n, ha, rr⟩ := rv
      exact ⟨a, vs, ea, fun z => z.elim n (np a _ ha), k a _ ha, RepAll.mono gr st _ _ rr⟩
    | odk b kvs =>
      obtain ⟨a, vs, ob, ea, n, rr, ha, ho⟩ := rv
      exact ⟨a, vs, ob, ea, fun z => z.elim n (np a _ ha), RepAll.mono gr st _ _ rr, k a _ ha, ho⟩
  · rcases f with f | rfl
    · obtain ⟨u, h⟩ := r.al a f
      exact ⟨u, k a u h⟩
    · exact ⟨o, upd_same⟩
  · obtain ⟨⟨ns, sl, tn, h1, h2, h3⟩, h4, h5, h6⟩ := r.pt q g e
    exact ⟨⟨ns, sl, tn, k _ _ h1, k _ _ h2, h3⟩, fun z => z.elim h4 (np _ _ h1), fun z => z.elim h5 (np _ _ h2), h6⟩
  · rcases h with h | rfl
    · exact .inl h
    · exact .inr (.inr (.inl hp))
/-- a new object that the one who made it holds alone -/
theorem Ext.lone (r : R G F env σ H) {p : Addr} {o : HO} (hp : H p = none) : Ext G F env σ H F env (upd H p o) := by
  have np : ∀ a u, H a = some u → a ≠ p := fun a u h e => by subst e; rw [hp] at h; cases h
  have k : ∀ a u, H a = some u → upd H p o a = some u := fun a u h => by rw [upd_ne (np a u h)]; exact h
  refine ⟨⟨r.len, fun i v e => ?_, r.sep, fun a f => ?_, fun q g e => ?_⟩, fun a u h _ _ => k a u h, fun a u h => ⟨u, k a u h⟩, fun a h => h, fun a h => .inl h, fun _ h => h⟩
  · obtain ⟨x, sx, rv⟩ := r.rep i v e
    refine ⟨x, sx, ?_⟩
    have gr : ∀ a, F a → F a := fun a h => h
    have st : ∀ a u, F a → H a = some u → upd H p o a = some u := fun a u _ h => k a u h
    cases v with
    | d z => exact RepD.mono gr st _ _ rv
    | pot => exact rv
    | own xs =>
      obtain ⟨a, vs, ea, n, ha, rr⟩ := rv
      exact ⟨a, vs, ea, n, k a _ ha, RepAll.mono gr st _ _ rr⟩
    | odk b kvs =>
      obtain ⟨a, vs, ob, ea, n, rr, ha, ho⟩ := rv
      exact ⟨a, vs, ob, ea, n, RepAll.mono gr st _ _ rr, k a _ ha, ho⟩
  · obtain ⟨u, h⟩ := r.al a f
    exact ⟨u, k a u h⟩
  · obtain ⟨⟨ns, sl, tn, h1, h2, h3⟩, h4, h5, h6⟩ := r.pt q g e
    exact ⟨⟨ns, sl, tn, k _ _ h1, k _ _ h2, h3⟩, h4, h5, h6⟩
/-- an object that is held alone by nobody's name is from now on shared: at a, of the list vs -/
theorem Ext.froze (r : R G F env σ H) {a : Addr} {o : HO} (ha : H a = some o) (n1 : ¬ OwnS env σ a) (n2 : ¬ InPot G a) (hn : ∀ c, ¬ F c → (fun c => F c ∨ c = a) c → c = a := fun c h h2 => h2.resolve_left h) :
    R G (fun c => F c ∨ c = a) env σ H := by
  refine ⟨r.len, fun i v e => ?_, r.sep, fun c f => ?_, fun q g e => ?_⟩
  · obtain ⟨x, sx, rv⟩ := r.rep i v e
    refine ⟨x, sx, ?_⟩
    have gr : ∀ c, F c → F c ∨ c = a := fun c h => .inl h
    have st : ∀ c u, F c → H c = some u → H c = some u := fun c u _ h => h
    cases v with
    | d z => exact RepD.mono gr st _ _ rv
    | pot => exact rv
    | own xs =>
      obtain ⟨c, vs, ea, n, hc, rr⟩ := rv
      subst ea
      exact ⟨c, vs, rfl, fun z => z.elim n fun z => n1 ⟨i, _, e, rfl, by rw [← z]; exact sx⟩, hc, RepAll.mono gr st _ _ rr⟩
    | odk b kvs =>
      obtain ⟨c, vs, ob, ea, n, rr, hc, ho⟩ := rv
      subst ea
      exact ⟨c, vs, ob, rfl, fun z => z.elim n fun z => n1 ⟨i, _, e, rfl, by rw [← z]; exact sx⟩, RepAll.mono gr st _ _ rr, hc, ho⟩
  · rcases f with f | rfl
    · exact r.al c f
    · exact ⟨o, ha⟩
  · obtain ⟨h1, h4, h5, h6⟩ := r.pt q g e
    exact ⟨h1, fun z => z.elim h4 fun z => n2 ⟨q, g, e, .inl z.symm⟩, fun z => z.elim h5 fun z => n2 ⟨q, g, e, .inr z.symm⟩, h6⟩
end
end Ev
set_option Elab.async false
set_option linter.all false
set_option maxRecDepth 100000
/-! Ev2: the evaluator's judgements; names, constants, operators, tests, displays, subscripts. -/
namespace Ev
open PySem PySem.Spec PyProof.Rows L2

/-! ### weakest readings -/
section
variable (X : Cx)
def wE (e : Expr) : TE := fun σ H Q => ∀ (pins : List (Addr × Obj)) (s : Shared), Inv X pins σ H s → wpAny (model X.prog X.w) X.A (eval e X.env) (EP X pins σ Q) X.xe s
def wT (e : Expr) : TT := fun σ H Q => ∀ (pins : List (Addr × Obj)) (s : Shared), Inv X pins σ H s → wpAny (model X.prog X.w) X.A (isTrue e X.env (eval e X.env)) (TP X pins σ Q) X.xe s
def wW (e : Expr) : TT := fun σ H Q => ∀ (whole : Sem Value) (pins : List (Addr × Obj)) (s : Shared), Inv X pins σ H s → wpAny (model X.prog X.w) X.A (isTrue e X.env whole) (TP X pins σ Q) X.xe s
def wA (es : List Expr) : TA := fun σ H Q => ∀ (pos : Pos) (pins : List (Addr × Obj)) (s : Shared), Inv X pins σ H s → wpAny (model X.prog X.w) X.A (spliced (backTo pos (starEach es X.env))) (AP X pins σ Q) X.xe s
def wS (st : Stmt) : TS := fun D σ H => ∀ (pins : List (Addr × Obj)) (s : Shared), Inv X pins σ H s → wpAny (model X.prog X.w) X.A (exec st X.env) (SP X pins D) X.xe s
def wB (st : List Stmt) : TS := fun D σ H => ∀ (pins : List (Addr × Obj)) (s : Shared), Inv X pins σ H s → wpAny (model X.prog X.w) X.A (execs st X.env) (SP X pins D) X.xe s
variable {X}
theorem pe_w {e : Expr} : PE X e (wE X e) := ⟨fun pins s _ _ _ I h => h pins s I⟩
theorem pt_w {e : Expr} : PT X e (wT X e) := ⟨fun pins s _ _ _ I h => h pins s I⟩
theorem pw_w {e : Expr} : PW X e (wW X e) := ⟨fun wh pins s _ _ _ I h => h wh pins s I⟩
theorem pa_w {e : List Expr} : PA X e (wA X e) := ⟨fun pos pins s _ _ _ I h => h pos pins s I⟩
theorem ps_w {e : Stmt} : PS X e (wS X e) := ⟨fun pins s _ _ _ I h => h pins s I⟩
theorem pb_w {e : List Stmt} : PSs X e (wB X e) := ⟨fun pins s _ _ _ I h => h pins s I⟩
theorem w_of {e : Expr} {t : TE} {σ H Q} (h : PE X e t) (q : t σ H Q) : wE X e σ H Q := fun pins s I => h.run pins s σ H Q I q
theorem wt_of {e : Expr} {t : TT} {σ H Q} (h : PT X e t) (q : t σ H Q) : wT X e σ H Q := fun pins s I => h.run pins s σ H Q I q
theorem ww_of {e : Expr} {t : TT} {σ H Q} (h : PW X e t) (q : t σ H Q) : wW X e σ H Q := fun wh pins s I => h.run wh pins s σ H Q I q
theorem wa_of {e : List Expr} {t : TA} {σ H Q} (h : PA X e t) (q : t σ H Q) : wA X e σ H Q := fun pos pins s I => h.run pos pins s σ H Q I q
theorem ws_of {e : Stmt} {t : TS} {D σ H} (h : PS X e t) (q : t D σ H) : wS X e D σ H := fun pins s I => h.run pins s σ H D I q
theorem wb_of {e : List Stmt} {t : TS} {D σ H} (h : PSs X e t) (q : t D σ H) : wB X e D σ H := fun pins s I => h.run pins s σ H D I q
end

/-! ### a def's promise by values -/
abbrev FSpec := List Val → (Val → Prop) → Prop
def RepVs (G : Gh) (F : AP1) (H : Hp) : List Val → List V → Prop
  | [], xs => xs = []
  | v :: vs, xs => ∃ x r, xs = x :: r ∧ (RepV G F H v x ∧ isOwn v = false) ∧ RepVs G F H vs r
/-- behind a call -/
structure CEnd (G : Gh) (F : AP1) (H : Hp) (F' : AP1) (H' : Hp) : Prop where
  keep : ∀ a o, H a = some o → ¬ InPot G a → H' a = some o
  live : ∀ a o, H a = some o → ∃ o', H' a = some o'
  grow : ∀ a, F a → F' a
  fro : ∀ a, F' a → F a ∨ H a = none ∨ ∃ xs, H a = some (.tup xs)
  al : ∀ a, F' a → ∃ o, H' a = some o
  pt : ∀ p g, G = some (p, g) → PotOk H' p g
structure CBeg (G : Gh) (F : AP1) (H : Hp) : Prop where
  al : ∀ a, F a → ∃ o, H a = some o
  pt : ∀ p g, G = some (p, g) → PotOk H p g ∧ ¬ F p ∧ ¬ F g
structure CRes (G : Gh) (H : Hp) (F' : AP1) (H' : Hp) (v : Val) (x : V) : Prop where
  rep : RepV G F' H' v x
  one : isOwn v = true → ∀ a, x = .ref a → H a = none ∧ ¬ InPot G a
def spV (n : Nat) (sp : FSpec) : Sp := fun vs H Q _ => vs.length = n ∧ ∃ (G : Gh) (F : AP1) (args : List Val) (Φ : Val → Prop), CBeg G F H ∧ RepVs G F H args vs ∧ sp args Φ ∧
  ∀ v F' H' x, CEnd G F H F' H' → CRes G H F' H' v x → Φ v → Q x H'
/-- a def under a name, its parameters, what it promises; kws: the keyword calls that are met (the names as they are written, the place of each parameter among them) -/
structure FnS where
  name : Str
  ps : List Str
  sp : FSpec
  kws : List (List Str × List Nat)
def selL {α : Type} (ix : List Nat) (xs : List α) : List α := ix.filterMap fun i => xs[i]?
theorem selL_vals {xs : List V} {us : List Value} (r : Vals xs us) : ∀ ix : List Nat, Vals (selL ix xs) (selL ix us)
  | [] => .nil
  | i :: ix => by
    have ih := selL_vals r ix
    unfold selL at ih ⊢
    rw [List.filterMap_cons, List.filterMap_cons]
    cases h : xs[i]? with
    | none => rw [r.none_of h]; exact ih
    | some x => obtain ⟨u, hu, ru⟩ := r.get h; rw [hu]; exact .cons ru ih
def KwOk (K : PySem.W.Frag) (fd : FuncData) (ps : List Str) (q : List Str × List Nat) : Prop := KBn K fd ps 0 q.1 (fun _ ws => selL q.2 ws) (fun _ zs => selL q.2 zs)
structure CallOk (X : Cx) (f : FnS) : Prop where
  ex : ∃ (k : Nat) (a : Addr) (fd : FuncData), FnOk X.prog X.w X.K X.mg X.base CX0 k a fd f.ps (spV f.ps.length f.sp) ∧ Room k X.A ∧ X.mg f.name = some (.ref a) ∧ PySem.W.keepIn X.K (.ref a) = true ∧ Binds X.K fd f.ps [] ∧ ∀ q ∈ f.kws, KwOk X.K fd f.ps q

/-! ### where one stands -/
def bltNames : List Str := ["len", "range", "tuple", "list", "sum", "abs", "min", "max", "sorted", "enumerate", "zip", "isinstance", "int", "bool", "repr", "any", "all", "set", "dict", "str", "reversed"]
structure SC where
  N : List Str
  sc : Scope
  fns : List FnS
  glb : List (Str × Int)
  grd : Bool
  own : List Str
structure Fits (C : SC) (X : Cx) : Prop where
  n : X.N = C.N
  nd : X.N.Nodup
  sc : X.env.scope = C.sc
  kind : X.env.scope.kind = .function
  calm : X.calm = true
  xe : X.xe = fun _ _ => False
  fn : ∀ x ∈ C.own, X.fn x = true
  blt : ∀ x ∈ bltNames, X.mg x = none
  glb : ∀ p ∈ C.glb, ∃ t, X.mg p.1 = some (.int p.2 t)
  fns : ∀ f ∈ C.fns, CallOk X f
  grd : C.grd = true → X.A.guards = some []
  units : X.A.units + 65 < cLine

/-! ### operands -/
inductive Rv where
  | v (x : Val)
  | s (i : Nat)
def Rv.get (env : Env) : Rv → Option Val
  | .v x => some x
  | .s i => match env[i]? with
    | some (some x) => some x
    | _ => none
abbrev DO := Env → (Rv → Env → Prop) → Prop
abbrev DV := Env → (Val → Env → Prop) → Prop
abbrev DB := Env → (Bool → Env → Prop) → Prop
abbrev DA := Env → (List Val → Env → Prop) → Prop
def ResR (G : Gh) (env : Env) (σ : L2.St) (H : Hp) (F' : AP1) (env' : Env) (H' : Hp) : Rv → V → Prop
  | .v v, x => Res G env σ H F' env' H' v x
  | .s i, x => σ[i]? = some (some x)
/-- the soundness of an operand, a test, an argument list -/
def SO (C : SC) (e : Expr) (d : DO) : Prop := ∀ (X : Cx), Fits C X → ∀ (G : Gh) (F : AP1) (env : Env) (σ : L2.St) (H : Hp) (Q : VK) (Φ : Rv → Env → Prop), R G F env σ H → d env Φ →
  (∀ r env' F' H' x, Ext G F env σ H F' env' H' → ResR G env σ H F' env' H' r x → Φ r env' → Q x H') → wE X e σ H Q
def STe (C : SC) (e : Expr) (d : DB) : Prop := ∀ (X : Cx), Fits C X → ∀ (G : Gh) (F : AP1) (env : Env) (σ : L2.St) (H : Hp) (Q : Bool → Hp → Prop) (Φ : Bool → Env → Prop), R G F env σ H → d env Φ →
  (∀ b env' F' H', Ext G F env σ H F' env' H' → Φ b env' → Q b H') → wT X e σ H Q
def SW (C : SC) (e : Expr) (d : DB) : Prop := ∀ (X : Cx), Fits C X → ∀ (G : Gh) (F : AP1) (env : Env) (σ : L2.St) (H : Hp) (Q : Bool → Hp → Prop) (Φ : Bool → Env → Prop), R G F env σ H → d env Φ →
  (∀ b env' F' H', Ext G F env σ H F' env' H' → Φ b env' → Q b H') → wW X e σ H Q
def SA (C : SC) (es : List Expr) (d : DA) : Prop := ∀ (X : Cx), Fits C X → ∀ (G : Gh) (F : AP1) (env : Env) (σ : L2.St) (H : Hp) (Q : List V → Hp → Prop) (Φ : List Val → Env → Prop), R G F env σ H → d env Φ →
  (∀ vs env' F' H' xs, Ext G F env σ H F' env' H' → RepVs G F' H' vs xs → Φ vs env' → Q xs H') → wA X es σ H Q

section
variable {G : Gh} {F F1 F2 : AP1} {env env1 env2 : Env} {σ : L2.St} {H H1 H2 : Hp} {v w : Val} {x y : V} {r : Rv}
theorem get_s {i : Nat} (h : Rv.get env (.s i) = some v) : env[i]? = some (some v) := by
  have h : (match env[i]? with
    | some (some x) => some x
    | _ => none) = some v := h
  split at h
  · rename_i z q; cases h; exact q
  · cases h
/-- an operand as it is when it is used -/
theorem ResR.at (r1 : R G F1 env1 σ H1) (q : ResR G env σ H F1 env1 H1 r x) (g : r.get env1 = some v) : RepV G F1 H1 v x := by
  cases r with
  | v z => cases g; exact q.rep
  | s i =>
    obtain ⟨x', s', rv⟩ := r1.rep i v (get_s g)
    have q' : σ[i]? = some (some x) := q
    rw [q'] at s'; cases s'
    exact rv
theorem ResR.step (r1 : R G F1 env1 σ H1) (q : ResR G env σ H F1 env1 H1 r x) (e : Ext G F1 env1 σ H1 F2 env2 H2) : ResR G env σ H F2 env2 H2 r x := by
  cases r with
  | v z => exact Res.step r1 q e
  | s i => exact q
theorem ResR.back (a : Ext G F env σ H F1 env1 H1) (q : ResR G env1 σ H1 F2 env2 H2 r x) : ResR G env σ H F2 env2 H2 r x := by
  cases r with
  | v z => exact Res.back a q
  | s i => exact q
end

/-! ### sharing -/
def shR : Rv → Env → (Val → Env → Prop) → Prop
  | .v (.own xs), env, Φ => Φ (.d (.list xs)) env
  | .v (.d x), env, Φ => Φ (.d x) env
  | .v .pot, env, Φ => Φ .pot env
  | .v (.odk _ _), _, _ => False
  | .s i, env, Φ => match env[i]? with
    | some (some (.own xs)) => Φ (.d (.list xs)) (env.set i (some (.d (.list xs))))
    | some (some (.d x)) => Φ (.d x) env
    | some (some .pot) => Φ .pot env
    | _ => False
section
variable {G : Gh} {F F1 F2 : AP1} {env env1 env2 : Env} {σ : L2.St} {H H1 H2 : Hp} {v w : Val} {x y : V} {r : Rv}
theorem setEnv_get {i j : Nat} {z : Val} (h : (env.set i (some z))[j]? = some (some w)) : (j = i ∧ w = z) ∨ (j ≠ i ∧ env[j]? = some (some w)) := by
  by_cases e : i = j
  · subst e
    by_cases hl : i < env.length
    · rw [List.getElem?_set_self hl] at h; cases h; exact .inl ⟨rfl, rfl⟩
    · rw [List.getElem?_eq_none (by simpa using hl)] at h; cases h
  · rw [List.getElem?_set_ne e] at h
    exact .inr ⟨fun z => e z.symm, h⟩
theorem ownS_unset {i : Nat} {z : PyData} {a : Addr} (h : OwnS (env.set i (some (.d z))) σ a) : OwnS env σ a ∧ ∀ x, σ[i]? = some (some x) → (∃ v, env[i]? = some (some v) ∧ isOwn v = true) → True := by
  obtain ⟨j, v, e, o, s⟩ := h
  rcases setEnv_get e with ⟨_, rfl⟩ | ⟨_, e⟩
  · cases o
  · exact ⟨⟨j, v, e, o, s⟩, fun _ _ _ => trivial⟩
theorem share {Φ : Val → Env → Prop} (e1 : Ext G F env σ H F1 env1 H1) (q : ResR G env σ H F1 env1 H1 r x) (h : shR r env1 Φ) :
    ∃ F2 env2 v, Ext G F env σ H F2 env2 H1 ∧ (∀ a, F1 a → F2 a) ∧ RepV G F2 H1 v x ∧ isOwn v = false ∧ Φ v env2 := by
  cases r with
  | v z =>
    have q : Res G env σ H F1 env1 H1 z x := q
    cases z with
    | d u => exact ⟨F1, env1, .d u, e1, fun _ h => h, q.rep, rfl, h⟩
    | pot => exact ⟨F1, env1, .pot, e1, fun _ h => h, q.rep, rfl, h⟩
    | odk _ _ => exact h.elim
    | own xs =>
      obtain ⟨a, vs, ea, n, ha, rr⟩ := q.rep
      obtain ⟨o1, o2, o3⟩ := q.one rfl a ea
      refine ⟨fun c => F1 c ∨ c = a, env1, .d (.list xs), ⟨Ext.froze e1.r ha o2 o3 (fun c h h2 => h2.resolve_left h), e1.keep, e1.live, fun c hc => .inl (e1.grow c hc), fun c hc => ?_, e1.ownd⟩, fun _ h => .inl h, ?_, rfl, h⟩
      · rcases hc with hc | rfl
        · exact e1.fro c hc
        · exact .inr (o1.imp id .inl)
      · show RepD _ _ _ _
        simp only [RepD]
        exact ⟨a, vs, ea, .inr rfl, ha, RepAll.mono (fun _ h => .inl h) (fun _ _ _ h => h) _ _ rr⟩
  | s i =>
    have q : σ[i]? = some (some x) := q
    have h : (match env1[i]? with
      | some (some (.own xs)) => Φ (.d (.list xs)) (env1.set i (some (.d (.list xs))))
      | some (some (.d x)) => Φ (.d x) env1
      | some (some .pot) => Φ .pot env1
      | _ => False) := h
    split at h
    · rename_i xs ei
      obtain ⟨x', sx, rv⟩ := e1.r.rep i _ ei
      rw [q] at sx; cases sx
      obtain ⟨a, vs, ea, n, ha, rr⟩ := rv
      subst ea
      have hi : i < env1.length := (List.getElem?_eq_some_iff.mp ei).1
      have oa : OwnS env1 σ a := ⟨i, _, ei, rfl, q⟩
      have un : ∀ c, OwnS (env1.set i (some (.d (.list xs)))) σ c → OwnS env1 σ c := fun c hc => (ownS_unset hc).1
      have na : ¬ OwnS (env1.set i (some (.d (.list xs)))) σ a := fun ⟨j, v, e, o, s⟩ => by
        rcases setEnv_get e with ⟨_, rfl⟩ | ⟨ne, e⟩
        · cases o
        · exact ne (e1.r.sep j i v _ a e ei o rfl s q)
      have np : ¬ InPot G a := fun z => e1.r.potO z oa
      have gr : ∀ c, F1 c → F1 c ∨ c = a := fun c h => .inl h
      have rd : RepD (fun c => F1 c ∨ c = a) H1 (.list xs) (.ref a) := by
        simp only [RepD]
        exact ⟨a, vs, rfl, .inr rfl, ha, RepAll.mono gr (fun _ _ _ h => h) _ _ rr⟩
      refine ⟨fun c => F1 c ∨ c = a, env1.set i (some (.d (.list xs))), .d (.list xs), ⟨⟨?_, fun j w ej => ?_, fun j k w u c ej ek ow ou sj sk => ?_, fun c fc => ?_, fun p g eg => ?_⟩, e1.keep, e1.live, fun c hc => .inl (e1.grow c hc), fun c hc => ?_, fun c hc => e1.ownd c (un c hc)⟩, gr, rd, rfl, h⟩
      · rw [List.length_set]; exact e1.r.len
      · rcases setEnv_get ej with ⟨rfl, rfl⟩ | ⟨ne, ej⟩
        · exact ⟨_, q, rd⟩
        · obtain ⟨z, sz, rz⟩ := e1.r.rep j w ej
          refine ⟨z, sz, ?_⟩
          cases w with
          | d u => exact RepD.mono gr (fun _ _ _ h => h) _ _ rz
          | pot => exact rz
          | own ys =>
            obtain ⟨c, us, ec, nc, hc, rc⟩ := rz
            subst ec
            exact ⟨c, us, rfl, fun z => z.elim nc fun z => na ⟨j, _, by rw [List.getElem?_set_ne (fun z => ne z.symm)]; exact ej, rfl, by rw [← z]; exact sz⟩, hc, RepAll.mono gr (fun _ _ _ h => h) _ _ rc⟩
          | odk b kvs =>
            obtain ⟨c, us, ob, ec, nc, rc, hc, ho⟩ := rz
            subst ec
            exact ⟨c, us, ob, rfl, fun z => z.elim nc fun z => na ⟨j, _, by rw [List.getElem?_set_ne (fun z => ne z.symm)]; exact ej, rfl, by rw [← z]; exact sz⟩, RepAll.mono gr (fun _ _ _ h => h) _ _ rc, hc, ho⟩
      · rcases setEnv_get ej with ⟨_, rfl⟩ | ⟨_, ej⟩
        · cases ow
        · rcases setEnv_get ek with ⟨_, rfl⟩ | ⟨_, ek⟩
          · cases ou
          · exact e1.r.sep j k w u c ej ek ow ou sj sk
      · rcases fc with fc | rfl
        · exact e1.r.al c fc
        · exact ⟨_, ha⟩
      · obtain ⟨h1, h2, h3, h4⟩ := e1.r.pt p g eg
        refine ⟨h1, fun z => z.elim h2 fun z => np ⟨p, g, eg, .inl z.symm⟩, fun z => z.elim h3 fun z => np ⟨p, g, eg, .inr z.symm⟩, fun c hc => h4 c (un c hc)⟩
      · rcases hc with hc | rfl
        · exact e1.fro c hc
        · exact .inr (.inl (e1.ownd c oa))
    · rename_i u ei
      obtain ⟨x', sx, rv⟩ := e1.r.rep i _ ei
      rw [q] at sx; cases sx
      exact ⟨F1, env1, _, e1, fun _ h => h, rv, rfl, h⟩
    · rename_i ei
      obtain ⟨x', sx, rv⟩ := e1.r.rep i _ ei
      rw [q] at sx; cases sx
      exact ⟨F1, env1, _, e1, fun _ h => h, rv, rfl, h⟩
    · exact h.elim
end
end Ev
set_option Elab.async false
set_option linter.all false
set_option maxRecDepth 100000
/-! Ev3: lists of values; operators and comparisons by value. -/
namespace Ev
open PySem PySem.Spec PyProof.Rows L2

section
variable {F : AP1} {H : Hp}
theorem RepAll.nil : RepAll F H [] [] := by simp only [RepAll]
theorem RepAll.cons {x : PyData} {v : V} {xs : List PyData} {vs : List V} (h : RepD F H x v) (t : RepAll F H xs vs) : RepAll F H (x :: xs) (v :: vs) := by
  simp only [RepAll]; exact ⟨v, vs, rfl, h, t⟩
theorem RepAll.inv {x : PyData} {xs : List PyData} {vs : List V} (h : RepAll F H (x :: xs) vs) : ∃ v r, vs = v :: r ∧ RepD F H x v ∧ RepAll F H xs r := by
  simp only [RepAll] at h; exact h
theorem RepAll.inv0 {vs : List V} (h : RepAll F H [] vs) : vs = [] := by
  simp only [RepAll] at h; exact h
theorem RepAll.append {xs ys : List PyData} {vs ws : List V} (h : RepAll F H xs vs) (t : RepAll F H ys ws) : RepAll F H (xs ++ ys) (vs ++ ws) := by
  induction xs generalizing vs with
  | nil => cases h.inv0; exact t
  | cons x xs ih => obtain ⟨v, r, rfl, h1, h2⟩ := h.inv; exact .cons h1 (ih h2)
theorem RepAll.length {xs : List PyData} {vs : List V} (h : RepAll F H xs vs) : vs.length = xs.length := by
  induction xs generalizing vs with
  | nil => cases h.inv0; rfl
  | cons x xs ih => obtain ⟨v, r, rfl, h1, h2⟩ := h.inv; simp [ih h2]
theorem RepAll.get {xs : List PyData} {vs : List V} (h : RepAll F H xs vs) {i : Nat} {x : PyData} (e : xs[i]? = some x) : ∃ v, vs[i]? = some v ∧ RepD F H x v := by
  induction xs generalizing vs i with
  | nil => simp at e
  | cons y xs ih =>
    obtain ⟨v, r, rfl, h1, h2⟩ := h.inv
    cases i with
    | zero => simp at e; subst e; exact ⟨v, by simp, h1⟩
    | succ i => simpa using ih h2 (i := i) (by simpa using e)
theorem RepAll.take {xs : List PyData} {vs : List V} (h : RepAll F H xs vs) (n : Nat) : RepAll F H (xs.take n) (vs.take n) := by
  induction n generalizing xs vs with
  | zero => simpa using RepAll.nil
  | succ n ih => cases xs with
    | nil => cases h.inv0; simpa using RepAll.nil
    | cons x xs => obtain ⟨v, r, rfl, h1, h2⟩ := h.inv; exact .cons h1 (ih h2)
theorem RepAll.drop {xs : List PyData} {vs : List V} (h : RepAll F H xs vs) (n : Nat) : RepAll F H (xs.drop n) (vs.drop n) := by
  induction n generalizing xs vs with
  | zero => simpa using h
  | succ n ih => cases xs with
    | nil => cases h.inv0; simpa using RepAll.nil
    | cons x xs => obtain ⟨v, r, rfl, h1, h2⟩ := h.inv; simpa using ih h2
theorem RepAll.reverse {xs : List PyData} {vs : List V} (h : RepAll F H xs vs) : RepAll F H xs.reverse vs.reverse := by
  induction xs generalizing vs with
  | nil => cases h.inv0; exact .nil
  | cons x xs ih => obtain ⟨v, r, rfl, h1, h2⟩ := h.inv; simpa using (ih h2).append (.cons h1 .nil)
theorem RepAll.set {xs : List PyData} {vs : List V} (h : RepAll F H xs vs) {x : PyData} {v : V} (hx : RepD F H x v) (i : Nat) : RepAll F H (xs.set i x) (vs.set i v) := by
  induction xs generalizing vs i with
  | nil => cases h.inv0; exact .nil
  | cons y xs ih =>
    obtain ⟨w, r, rfl, h1, h2⟩ := h.inv
    cases i with
    | zero => exact .cons hx h2
    | succ i => exact .cons h1 (ih h2 i)
theorem RepAll.eraseIdx {xs : List PyData} {vs : List V} (h : RepAll F H xs vs) (i : Nat) : RepAll F H (xs.eraseIdx i) (vs.eraseIdx i) := by
  induction xs generalizing vs i with
  | nil => cases h.inv0; exact .nil
  | cons y xs ih =>
    obtain ⟨w, r, rfl, h1, h2⟩ := h.inv
    cases i with
    | zero => exact h2
    | succ i => exact .cons h1 (ih h2 i)
theorem RepAll.dropLast {xs : List PyData} {vs : List V} (h : RepAll F H xs vs) : RepAll F H xs.dropLast vs.dropLast := by
  rw [List.dropLast_eq_take, List.dropLast_eq_take, h.length]
  exact h.take _
theorem RepAll.rep {xs : List PyData} {vs : List V} (h : RepAll F H xs vs) : ∀ k : Nat, RepAll F H (List.replicate k xs).flatten (List.replicate k vs).flatten
  | 0 => by simpa using RepAll.nil
  | k + 1 => by rw [List.replicate_succ, List.replicate_succ, List.flatten_cons, List.flatten_cons]; exact h.append (RepAll.rep h k)
theorem RepAll.ints {ns : List Int} {vs : List V} (h : RepAll F H (ns.map PyData.int) vs) : vs = ns.map V.int := by
  induction ns generalizing vs with
  | nil => exact h.inv0
  | cons n ns ih => obtain ⟨v, r, rfl, h1, h2⟩ := h.inv; simp only [RepD] at h1; subst h1; rw [ih h2]; rfl
theorem RepAll.ofInts (ns : List Int) : RepAll F H (ns.map PyData.int) (ns.map V.int) := by
  induction ns with
  | nil => exact .nil
  | cons n ns ih => exact .cons (by simp only [RepD]) ih
theorem RepAll.bools {bs : List Bool} {vs : List V} (h : RepAll F H (bs.map PyData.bool) vs) : vs = bs.map V.bl := by
  induction bs generalizing vs with
  | nil => exact h.inv0
  | cons n ns ih => obtain ⟨v, r, rfl, h1, h2⟩ := h.inv; simp only [RepD] at h1; subst h1; rw [ih h2]; rfl
end

/-! ### operators by value -/
section
variable (X : Cx)
def wOp (f : Value → Value → Sem Value) : R2 := fun x y H Q => ∀ (pins : List (Addr × Obj)) (s : Shared) (σ : L2.St) (v u : Value), Inv X pins σ H s → RelV x v → RelV y u → wpAny (model X.prog X.w) X.A (f v u) (EP X pins σ Q) X.xe s
variable {X}
theorem opr_w {f : Value → Value → Sem Value} : OpR X f (wOp X f) := fun pins s σ _ _ _ v u _ I rx ry h => h pins s σ v u I rx ry
theorem wop_of {f : Value → Value → Sem Value} {r : R2} {x y : V} {H : Hp} {Q : VK} (h : OpR X f r) (q : r x y H Q) : wOp X f x y H Q := fun pins s σ v u I rx ry => h pins s σ _ x y v u Q I rx ry q
end
abbrev Opd := Val → Val → (Val → Prop) → Prop
def OpS (f : Value → Value → Sem Value) (o : Opd) : Prop := ∀ (C : SC) (X : Cx), Fits C X → ∀ (G : Gh) (F : AP1) (env : Env) (σ : L2.St) (H : Hp) (v w : Val) (x y : V) (Q : VK) (Φ : Val → Prop), R G F env σ H → RepV G F H v x → RepV G F H w y → o v w Φ →
  (∀ z F' H' zx, Ext G F env σ H F' env H' → Res G env σ H F' env H' z zx → Φ z → Q zx H') → wOp X f x y H Q
@[simp] def dBin (o : Opd) (da db : DO) : DO := fun env Φ => da env fun ra env1 => db env1 fun rb env2 => ∃ v w, ra.get env2 = some v ∧ rb.get env2 = some w ∧ o v w fun z => Φ (.v z) env2
section
variable {C : SC} {a b : Expr} {da db : DO} {pos : Pos}
/-- two operands, then what is done with them -/
theorem two {X : Cx} (fx : Fits C X) {G : Gh} {F : AP1} {env : Env} {σ : L2.St} {H : Hp} {P : V → V → Hp → Prop} {Φ : Val → Val → Env → Prop} (ha : SO C a da) (hb : SO C b db) (r : R G F env σ H)
    (h : da env fun ra env1 => db env1 fun rb env2 => ∃ v w, ra.get env2 = some v ∧ rb.get env2 = some w ∧ Φ v w env2)
    (k : ∀ v w env2 F2 H2 x y, Ext G F env σ H F2 env2 H2 → RepV G F2 H2 v x → RepV G F2 H2 w y → Φ v w env2 → P x y H2) :
    wE X a σ H fun x H1 => wE X b σ H1 fun y H2 => P x y H2 := by
  refine ha X fx G F env σ H _ _ r h fun r1 env1 F1 H1 x e1 q1 h1 => ?_
  refine hb X fx G F1 env1 σ H1 _ _ e1.r h1 fun r2 env2 F2 H2 y e2 q2 h2 => ?_
  obtain ⟨v, w, g1, g2, h2⟩ := h2
  have q1' := q1.step e1.r e2
  exact k v w env2 F2 H2 x y (e1.trans e2) (q1'.at e2.r g1) ((q2.back e1).at e2.r g2) h2
theorem so_bin {op : Operator} {o : Opd} (ho : OpS (binaryOp op) o) (ha : SO C a da) (hb : SO C b db) : SO C (.BinOp a op b pos) (dBin o da db) := by
  intro X fx G F env σ H Q Φ r h hQ
  refine w_of (pe_op opr_w pe_w pe_w) ?_
  refine two fx (Φ := fun v w env2 => o v w fun z => Φ (.v z) env2) ha hb r h fun v w env2 F2 H2 x y e rv rw' h2 => ?_
  exact ho C X fx G F2 env2 σ H2 v w x y Q _ e.r rv rw' h2 fun z F3 H3 zx e3 q3 h3 => hQ (.v z) _ _ _ _ (e.trans e3) (Res.back e q3) h3
theorem so_cmp {op : CmpOp} {o : Opd} (ho : OpS (compareOp op) o) (ha : SO C a da) (hb : SO C b db) (hm : behindInMarks op b = false) : SO C (.Compare a [op] [b] pos) (dBin o da db) := by
  intro X fx G F env σ H Q Φ r h hQ
  refine w_of (pe_cmpR opr_w pe_w pe_w hm) ?_
  refine two fx (Φ := fun v w env2 => o v w fun z => Φ (.v z) env2) ha hb r h fun v w env2 F2 H2 x y e rv rw' h2 => ?_
  exact ho C X fx G F2 env2 σ H2 v w x y Q _ e.r rv rw' h2 fun z F3 H3 zx e3 q3 h3 => hQ (.v z) _ _ _ _ (e.trans e3) (Res.back e q3) h3
end

section
variable {G : Gh} {F : AP1} {env : Env} {σ : L2.St} {H : Hp}
theorem res_tup (r : R G F env σ H) {p : Addr} (hp : H p = none) {zs : List PyData} {vs : List V} (rr : RepAll F H zs vs) :
    Ext G F env σ H (fun a => F a ∨ a = p) env (upd H p (.tup vs)) ∧ Res G env σ H (fun a => F a ∨ a = p) env (upd H p (.tup vs)) (.d (.tuple zs)) (.ref p) := by
  have e := Ext.shared r (o := .tup vs) hp
  refine ⟨e, .imm ?_⟩
  simp only [RepD]
  exact ⟨p, vs, rfl, .inr rfl, upd_same, e.repA r rr⟩
theorem res_own (r : R G F env σ H) {p : Addr} (hp : H p = none) {zs : List PyData} {vs : List V} (rr : RepAll F H zs vs) :
    Ext G F env σ H F env (upd H p (.lst vs)) ∧ Res G env σ H F env (upd H p (.lst vs)) (.own zs) (.ref p) := by
  have e := Ext.lone r (o := .lst vs) hp
  refine ⟨e, ⟨⟨p, vs, rfl, r.freshF hp, upd_same, e.repA r rr⟩, fun _ a ea => ?_⟩⟩
  cases ea
  exact ⟨.inr hp, r.freshO hp, r.freshP hp⟩
end

/-! ### views -/
def toI : Val → Option Int
  | .d (.int i) => some i
  | _ => none
def toL : Val → Option (List PyData)
  | .own xs => some xs
  | .d (.list xs) => some xs
  | _ => none
def toT : Val → Option (List PyData)
  | .d (.tuple xs) => some xs
  | _ => none
def toD : Val → Option PyData
  | .d x => some x
  | .own xs => some (.list xs)
  | _ => none
/-- a list or a tuple -/
def toS : Val → Option (List PyData)
  | .own xs => some xs
  | .d (.list xs) => some xs
  | .d (.tuple xs) => some xs
  | _ => none
section
variable {G : Gh} {F : AP1} {env : Env} {σ : L2.St} {H : Hp} {v : Val} {x : V}
theorem rep_I {i : Int} (h : toI v = some i) (r : RepV G F H v x) : v = .d (.int i) ∧ x = .int i := by
  unfold toI at h
  split at h
  · rename_i j
    cases h
    have r : RepD F H (.int i) x := r
    simp only [RepD] at r
    exact ⟨rfl, r⟩
  · cases h
theorem rep_L {xs : List PyData} (h : toL v = some xs) (r : RepV G F H v x) : ∃ a vs, x = .ref a ∧ H a = some (.lst vs) ∧ RepAll F H xs vs := by
  unfold toL at h
  split at h
  · cases h
    obtain ⟨a, vs, e, _, ha, rr⟩ := r
    exact ⟨a, vs, e, ha, rr⟩
  · cases h
    have r : RepD F H (.list xs) x := r
    simp only [RepD] at r
    obtain ⟨a, vs, e, _, ha, rr⟩ := r
    exact ⟨a, vs, e, ha, rr⟩
  · cases h
theorem rep_T {xs : List PyData} (h : toT v = some xs) (r : RepV G F H v x) : ∃ a vs, x = .ref a ∧ H a = some (.tup vs) ∧ RepAll F H xs vs ∧ F a := by
  unfold toT at h
  split at h
  · cases h
    have r : RepD F H (.tuple xs) x := r
    simp only [RepD] at r
    obtain ⟨a, vs, e, f, ha, rr⟩ := r
    exact ⟨a, vs, e, ha, rr, f⟩
  · cases h
theorem rep_S {xs : List PyData} (h : toS v = some xs) (r : RepV G F H v x) : ∃ a vs, x = .ref a ∧ (H a = some (.lst vs) ∨ H a = some (.tup vs)) ∧ RepAll F H xs vs := by
  unfold toS at h
  split at h
  · cases h
    obtain ⟨a, vs, e, _, ha, rr⟩ := r
    exact ⟨a, vs, e, .inl ha, rr⟩
  · cases h
    have r : RepD F H (.list xs) x := r
    simp only [RepD] at r
    obtain ⟨a, vs, e, _, ha, rr⟩ := r
    exact ⟨a, vs, e, .inl ha, rr⟩
  · cases h
    have r : RepD F H (.tuple xs) x := r
    simp only [RepD] at r
    obtain ⟨a, vs, e, _, ha, rr⟩ := r
    exact ⟨a, vs, e, .inr ha, rr⟩
  · cases h
theorem rep_Dp {K : PySem.W.Frag} {d : PyData} (h : toD v = some d) (r : RepV G F H v x) : Dp K H x d := by
  unfold toD at h
  split at h
  · cases h
    exact RepD.dp _ _ r
  · cases h
    obtain ⟨a, vs, e, _, ha, rr⟩ := r
    subst e
    exact .lst (SqL.of ha) (RepAll.dp _ _ rr)
  · cases h
end

/-! ### ints -/
@[simp] def oI (c : Int → Int → Prop) (g : Int → Int → Int) : Opd := fun v w Φ => ∃ i j, toI v = some i ∧ toI w = some j ∧ c i j ∧ Φ (.d (.int (g i j)))
@[simp] def oB (g : Int → Int → Bool) : Opd := fun v w Φ => ∃ i j, toI v = some i ∧ toI w = some j ∧ Φ (.d (.bool (g i j)))
theorem ops_I {f : Value → Value → Sem Value} {c : Int → Int → Prop} {g : Int → Int → Int} (ho : ∀ X, OpR X f (rI c fun i j => .int (g i j))) : OpS f (oI c g) := by
  intro C X fx G F env σ H v w x y Q Φ r rv rw' h k
  obtain ⟨i, j, e1, e2, hc, h⟩ := h
  obtain ⟨_, rfl⟩ := rep_I e1 rv
  obtain ⟨_, rfl⟩ := rep_I e2 rw'
  exact wop_of (ho X) ⟨i, j, rfl, rfl, hc, k _ _ _ _ (.refl r) (.imm (by simp only [RepD])) h⟩
theorem ops_I0 {f : Value → Value → Sem Value} {g : Int → Int → Int} (ho : ∀ X, OpR X f (rI0 fun i j => .int (g i j))) : OpS f (oI (fun _ _ => True) g) := by
  intro C X fx G F env σ H v w x y Q Φ r rv rw' h k
  obtain ⟨i, j, e1, e2, hc, h⟩ := h
  obtain ⟨_, rfl⟩ := rep_I e1 rv
  obtain ⟨_, rfl⟩ := rep_I e2 rw'
  exact wop_of (ho X) ⟨i, j, rfl, rfl, k _ _ _ _ (.refl r) (.imm (by simp only [RepD])) h⟩
theorem ops_B {f : Value → Value → Sem Value} {g : Int → Int → Bool} (ho : ∀ X, OpR X f (rI0 fun i j => .bl (g i j))) : OpS f (oB g) := by
  intro C X fx G F env σ H v w x y Q Φ r rv rw' h k
  obtain ⟨i, j, e1, e2, h⟩ := h
  obtain ⟨_, rfl⟩ := rep_I e1 rv
  obtain ⟨_, rfl⟩ := rep_I e2 rw'
  exact wop_of (ho X) ⟨i, j, rfl, rfl, k _ _ _ _ (.refl r) (.imm (by simp only [RepD])) h⟩
theorem OpS.or {f : Value → Value → Sem Value} {o o' : Opd} (h : OpS f o) (h' : OpS f o') : OpS f fun v w Φ => o v w Φ ∨ o' v w Φ := by
  intro C X fx G F env σ H v w x y Q Φ r rv rw' q k
  rcases q with q | q
  · exact h C X fx G F env σ H v w x y Q Φ r rv rw' q k
  · exact h' C X fx G F env σ H v w x y Q Φ r rv rw' q k
/-- t + u, l + m, of tuples, lists -/
def oCatT : Opd := fun v w Φ => ∃ xs ys, toT v = some xs ∧ toT w = some ys ∧ xs.length + ys.length ≤ 16777216 ∧ Φ (.d (.tuple (xs ++ ys)))
def oCatL : Opd := fun v w Φ => ∃ xs ys, toL v = some xs ∧ toL w = some ys ∧ xs.length + ys.length ≤ 16777216 ∧ Φ (.own (xs ++ ys))
def oCatS : Opd := fun v w Φ => ∃ x y, v = .d (.str x) ∧ w = .d (.str y) ∧ x.length + y.length ≤ 16777216 ∧ Φ (.d (.str (x ++ y)))
theorem ops_catT : OpS (binaryOp .Add) oCatT := by
  intro C X fx G F env σ H v w x y Q Φ r rv rw' h k
  obtain ⟨xs, ys, e1, e2, hl, h⟩ := h
  obtain ⟨a, vs, rfl, ha, ra, fa⟩ := rep_T e1 rv
  obtain ⟨b, ws, rfl, hb, rb, fb⟩ := rep_T e2 rw'
  refine wop_of op_catA ⟨a, b, vs, ws, rfl, rfl, SqT.of ha, SqT.of hb, by rw [ra.length, rb.length, sizeLine_eq]; exact hl, fun e0 => ?_, fun _ e0 => ?_, fun _ _ p hp => ?_⟩
  · have hx : xs = [] := List.eq_nil_of_length_eq_zero (by rw [← ra.length, e0]; rfl)
    subst hx
    exact k _ _ _ _ (.refl r) (.imm (by simp only [RepD, List.nil_append]; exact ⟨b, ws, rfl, fb, hb, rb⟩)) h
  · have hy : ys = [] := List.eq_nil_of_length_eq_zero (by rw [← rb.length, e0]; rfl)
    subst hy
    exact k _ _ _ _ (.refl r) (.imm (by simp only [RepD, List.append_nil]; exact ⟨a, vs, rfl, fa, ha, ra⟩)) h
  · obtain ⟨e, q⟩ := res_tup r hp (ra.append rb)
    exact k _ _ _ _ e q h
theorem ops_catL : OpS (binaryOp .Add) oCatL := by
  intro C X fx G F env σ H v w x y Q Φ r rv rw' h k
  obtain ⟨xs, ys, e1, e2, hl, h⟩ := h
  obtain ⟨a, vs, rfl, ha, ra⟩ := rep_L e1 rv
  obtain ⟨b, ws, rfl, hb, rb⟩ := rep_L e2 rw'
  refine wop_of op_cat ⟨a, b, vs, ws, rfl, rfl, ha, hb, by rw [ra.length, rb.length, sizeLine_eq]; exact hl, fun p hp => ?_⟩
  obtain ⟨e, q⟩ := res_own r hp (ra.append rb)
  exact k _ _ _ _ e q h
theorem ops_catS : OpS (binaryOp .Add) oCatS := by
  intro C X fx G F env σ H v w x y Q Φ r rv rw' h k
  obtain ⟨a, b, rfl, rfl, hl, h⟩ := h
  have rv : RepD F H (.str a) x := rv
  have rw' : RepD F H (.str b) y := rw'
  simp only [RepD] at rv rw'
  subst rv rw'
  exact wop_of op_add_str ⟨a, b, rfl, rfl, by rw [sizeLine_eq]; exact hl, k _ _ _ _ (.refl r) (.imm (by simp only [RepD])) h⟩
/-- l * k -/
def oRepL : Opd := fun v w Φ => ∃ xs k, toL v = some xs ∧ toI w = some k ∧ -(2 ^ 63) ≤ k ∧ k < 2 ^ 63 ∧ xs.length * k.toNat ≤ 16777216 ∧ Φ (.own (List.replicate k.toNat xs).flatten)
theorem ops_repL : OpS (binaryOp .Mult) oRepL := by
  intro C X fx G F env σ H v w x y Q Φ r rv rw' h k
  obtain ⟨xs, n, e1, e2, h1, h2, hl, h⟩ := h
  obtain ⟨a, vs, rfl, ha, ra⟩ := rep_L e1 rv
  obtain ⟨_, rfl⟩ := rep_I e2 rw'
  refine wop_of op_rep ⟨a, n, vs, rfl, rfl, ha, h1, h2, by rw [ra.length, sizeLine_eq]; exact hl, fun p hp => ?_⟩
  obtain ⟨e, q⟩ := res_own r hp (ra.rep n.toNat)
  exact k _ _ _ _ e q h
def oRepT : Opd := fun v w Φ => ∃ xs k, toT v = some xs ∧ toI w = some k ∧ xs ≠ [] ∧ 2 ≤ k ∧ k ≤ 1000 ∧ xs.length ≤ 1000 ∧ Φ (.d (.tuple (List.replicate k.toNat xs).flatten))
theorem ops_repT : OpS (binaryOp .Mult) oRepT := by
  intro C X fx G F env σ H v w x y Q Φ r rv rw' h k
  obtain ⟨xs, n, e1, e2, h0, h1, h2, hl, h⟩ := h
  obtain ⟨a, vs, rfl, ha, ra, _⟩ := rep_T e1 rv
  obtain ⟨_, rfl⟩ := rep_I e2 rw'
  refine wop_of op_repT ⟨a, n, vs, rfl, rfl, SqT.of ha, fun z => h0 (List.eq_nil_of_length_eq_zero (by rw [← ra.length, z]; rfl)), h1, h2, by rw [ra.length]; exact hl, fun p hp => ?_⟩
  obtain ⟨e, q⟩ := res_tup r hp (ra.rep n.toNat)
  exact k _ _ _ _ e q h

/-! a tuple repeated: by 1 (itself), by 0 and less (an empty one) -/
theorem tuple_same (l : Addr) (items : Array Value) (n : Nat) (dd : Option Addr) (sl : Array (Option Value)) (x : Int) (u : Tok) (c0 : (decide (x < -(2 ^ 63)) || decide (x ≥ 2 ^ 63)) = false) (c1 : (items.isEmpty || x == 1) = true) :
    Meets (Builtin.«tuple.__mul__» ⟨[.ref l, .int x u], []⟩) (fun _ R s => s.heap.get? l = some { cls := .type "tuple", dict := dd, data := .seq items n, slots := sl } ∧ R (.ok (.ret (Value.ref l))) s) :=
  .of_wp fun prog w A R s h => by
    obtain ⟨hp, g, d, tk, os⟩ := s
    obtain ⟨hl, h⟩ := h
    have f1 := AutoSeq1.idx_int
    wp_walk using wpAny_loadPart' hl
    repeat (first
      | (refine wpAny_ite_false (decide_eq_false (by rw [c0]; exact Bool.false_ne_true)) ?_; wp_walk using wpAny_loadPart' hl)
      | (refine wpAny_ite_true (decide_eq_true (by rw [c1])) ?_; wp_walk using wpAny_loadPart' hl))
    exact ⟨_, rfl, h⟩
theorem tuple_nought (l : Addr) (items : Array Value) (n : Nat) (dd : Option Addr) (sl : Array (Option Value)) (x : Int) (u : Tok) (c0 : (decide (x < -(2 ^ 63)) || decide (x ≥ 2 ^ 63)) = false) (c1 : (items.isEmpty || x == 1) = false) (c2 : (decide (x ≤ 0) || items.isEmpty) = true) :
    Meets (Builtin.«tuple.__mul__» ⟨[.ref l, .int x u], []⟩) (fun _ R s => s.heap.get? l = some { cls := .type "tuple", dict := dd, data := .seq items n, slots := sl } ∧
      R (.ok (.ret (Value.ref s.heap.objs.size))) { s with heap := s.heap.push { cls := Value.type "tuple", data := Data.seq #[] }, toks := s.toks }) :=
  .of_wp fun prog w A R s h => by
    obtain ⟨hp, g, d, tk, os⟩ := s
    obtain ⟨hl, h⟩ := h
    have f1 := AutoSeq1.idx_int
    wp_walk using wpAny_loadPart' hl
    repeat (first
      | (refine wpAny_ite_false (decide_eq_false (by rw [c0]; exact Bool.false_ne_true)) ?_; wp_walk using wpAny_loadPart' hl)
      | (refine wpAny_ite_false (decide_eq_false (by rw [c1]; exact Bool.false_ne_true)) ?_; wp_walk using wpAny_loadPart' hl)
      | (refine wpAny_ite_true (decide_eq_true (by rw [c2])) ?_; wp_walk using wpAny_loadPart' hl))
    exact ⟨_, rfl, h⟩
def rRepFew (K : PySem.W.Frag) : R2 := fun x y H Q => ∃ (l : Addr) (k : Int) (xs : List V), x = .ref l ∧ y = .int k ∧ SqT K H l xs ∧ -(2 ^ 62) ≤ k ∧ k < 2 ^ 62 ∧ ((k = 1 ∧ Q (.ref l) H) ∨ (k ≤ 0 ∧ xs ≠ [] ∧ ∀ p, H p = none → Q (.ref p) (upd H p (.tup []))))
theorem op_repFew {X : Cx} : OpR X (binaryOp .Mult) (rRepFew X.K) := by
  intro pins s σ H x y v u Q J rx ry h
  obtain ⟨l, k, xs, rfl, rfl, hT, b1, b2, q⟩ := h
  cases rx
  obtain ⟨t, rfl⟩ := ry
  obtain ⟨its, r, ⟨⟨cls, dd, data, sl⟩, ho, hc, n, hd⟩, hs⟩ := J.tuple hT
  simp only at hc hd
  subst hc hd
  have c0 : (decide (k < -(2 ^ 63)) || decide (k ≥ 2 ^ 63)) = false := by
    rw [decide_eq_false (by omega), decide_eq_false (by omega)] <;> rfl
  rcases q with ⟨rfl, q⟩ | ⟨hk, hne, q⟩
  · refine wpAny_binaryOp_repeat_ref (T := "tuple") (U := "int") (by decide) ⟨_, ho, rfl⟩ (fun s' => typeIs_int s' 1 t) noFill_tuple_mul F.fills_int_mul F.slot_int_rmul repeat_tuple F.slot_int_index.lookup
      (call_meets F.slot_int_rmul (typeIs_int s 1 t) F.entry_int_rmul (F.args_int_rmul_2 _ _) (int_rmul_tuple 1 t l its.toArray n dd sl)
        ⟨ho, rfl, ⟨_, ho, rfl⟩, call_meets F.slot_tuple_mul ⟨_, ho, rfl⟩ F.entry_tuple_mul (F.args_tuple_mul_2 _ _) (tuple_same l its.toArray n dd sl 1 t c0 (by simp)) ⟨ho, ?_⟩⟩)
    exact ⟨.ref l, H, J, rfl, q⟩
  · have hi : its.toArray.isEmpty = false := by
      cases its with
      | nil => have e := r.length; exact absurd (List.eq_nil_of_length_eq_zero e) hne
      | cons a b => rfl
    have c1 : (its.toArray.isEmpty || k == 1) = false := by
      rw [hi, Bool.false_or]
      exact beq_eq_false_iff_ne.mpr (by omega)
    have c2 : (decide (k ≤ 0) || its.toArray.isEmpty) = true := by
      rw [decide_eq_true hk]; rfl
    refine wpAny_binaryOp_repeat_ref (T := "tuple") (U := "int") (by decide) ⟨_, ho, rfl⟩ (fun s' => typeIs_int s' k t) noFill_tuple_mul F.fills_int_mul F.slot_int_rmul repeat_tuple F.slot_int_index.lookup
      (call_meets F.slot_int_rmul (typeIs_int s k t) F.entry_int_rmul (F.args_int_rmul_2 _ _) (int_rmul_tuple k t l its.toArray n dd sl)
        ⟨ho, rfl, ⟨_, ho, rfl⟩, call_meets F.slot_tuple_mul ⟨_, ho, rfl⟩ F.entry_tuple_mul (F.args_tuple_mul_2 _ _) (tuple_nought l its.toArray n dd sl k t c0 c1 c2) ⟨ho, ?_⟩⟩)
    refine ⟨.ref s.heap.objs.size, _, J.laid (t' := s.toks) (o := .tup []) (fun b ob q => Heap.get?_push_of_some _ q) (Nat.le_refl _) ?_, rfl, q _ (J.hok.fresh (Nat.le_refl _))⟩
    exact ⟨Nat.zero_le _, _, .nil, IsTup.new _ _⟩
def oRepF : Opd := fun v w Φ => ∃ xs k, toT v = some xs ∧ toI w = some k ∧ ((k = 1 ∧ Φ (.d (.tuple xs))) ∨ (k ≤ 0 ∧ -(2 ^ 62) ≤ k ∧ xs ≠ [] ∧ Φ (.d (.tuple []))))
theorem ops_repF : OpS (binaryOp .Mult) oRepF := by
  intro C X fx G F env σ H v w x y Q Φ r rv rw' h k
  obtain ⟨xs, n, e1, e2, h⟩ := h
  obtain ⟨a, vs, rfl, ha, ra, fa⟩ := rep_T e1 rv
  obtain ⟨_, rfl⟩ := rep_I e2 rw'
  rcases h with ⟨rfl, h⟩ | ⟨hk, hb, hne, h⟩
  · refine wop_of op_repFew ⟨a, 1, vs, rfl, rfl, SqT.of ha, by omega, by omega, .inl ⟨rfl, k _ _ _ _ (.refl r) (.imm ?_) h⟩⟩
    simp only [RepD]
    exact ⟨a, vs, rfl, fa, ha, ra⟩
  · refine wop_of op_repFew ⟨a, n, vs, rfl, rfl, SqT.of ha, hb, by omega, .inr ⟨hk, fun z => hne (List.eq_nil_of_length_eq_zero (by rw [← ra.length, z]; rfl)), fun p hp => ?_⟩⟩
    obtain ⟨e, q⟩ := res_tup r hp (.nil : RepAll F H [] [])
    exact k _ _ _ _ e q h

def oAdd : Opd := fun v w Φ => oI (fun _ _ => True) (· + ·) v w Φ ∨ oCatT v w Φ ∨ oCatL v w Φ ∨ oCatS v w Φ
theorem ops_add : OpS (binaryOp .Add) oAdd := (ops_I0 fun _ => op_add).or (ops_catT.or (ops_catL.or ops_catS))
@[simp] def oSub : Opd := oI (fun _ _ => True) (· - ·)
theorem ops_sub : OpS (binaryOp .Sub) oSub := ops_I0 fun _ => op_sub
/-- products: one factor below 2 ^ 64, or both together below a great size -/
def CM (i j : Int) : Prop := CMul i j ∨ CMulX i j
def oMul : Opd := fun v w Φ => oI CM (· * ·) v w Φ ∨ oRepL v w Φ ∨ oRepT v w Φ ∨ oRepF v w Φ
theorem ops_mul : OpS (binaryOp .Mult) oMul := (ops_I (c := CM) (g := (· * ·)) fun X => opI fun _ _ _ _ _ _ _ hc q => mul_int q (hc.elim CMul.ok CMulX.ok)).or (ops_repL.or (ops_repT.or ops_repF))
def oDiv : Opd := oI CDiv (· / ·)
theorem ops_div : OpS (binaryOp .FloorDiv) oDiv := ops_I fun _ => op_fdiv
@[simp] def oMod : Opd := oI (fun _ j => 0 < j) (· % ·)
theorem ops_mod : OpS (binaryOp .Mod) oMod := ops_I fun _ => op_mod
@[simp] def oPow : Opd := oI CPow (fun i j => i ^ j.toNat)
theorem ops_pow : OpS (binaryOp .Pow) oPow := ops_I (g := fun i j => i ^ j.toNat) fun _ => op_pow
@[simp] def oShl : Opd := oI CPow (fun i j => i * 2 ^ j.toNat)
theorem ops_shl : OpS (binaryOp .LShift) oShl := ops_I (g := fun i j => i * 2 ^ j.toNat) fun _ => op_shl
@[simp] def oShr : Opd := oI (fun _ j => 0 ≤ j) (fun i j => i / 2 ^ j.toNat)
theorem ops_shr : OpS (binaryOp .RShift) oShr := ops_I (g := fun i j => i / 2 ^ j.toNat) fun _ => op_shr
@[simp] def oAnd : Opd := oI (fun _ _ => True) Builtin.bitAnd
theorem ops_and : OpS (binaryOp .BitAnd) oAnd := ops_I0 fun _ => op_and
@[simp] def oOr : Opd := oI (fun _ _ => True) Builtin.bitOr
theorem ops_or : OpS (binaryOp .BitOr) oOr := ops_I0 fun _ => op_or
@[simp] def oXor : Opd := oI (fun _ _ => True) Builtin.bitXor
theorem ops_xor : OpS (binaryOp .BitXor) oXor := ops_I0 fun _ => op_xor
def opOf : (op : Operator) → Option { o : Opd // OpS (binaryOp op) o }
  | .Add => some ⟨oAdd, ops_add⟩
  | .Sub => some ⟨oSub, ops_sub⟩
  | .Mult => some ⟨oMul, ops_mul⟩
  | .FloorDiv => some ⟨oDiv, ops_div⟩
  | .Mod => some ⟨oMod, ops_mod⟩
  | .Pow => some ⟨oPow, ops_pow⟩
  | .LShift => some ⟨oShl, ops_shl⟩
  | .RShift => some ⟨oShr, ops_shr⟩
  | .BitAnd => some ⟨oAnd, ops_and⟩
  | .BitOr => some ⟨oOr, ops_or⟩
  | .BitXor => some ⟨oXor, ops_xor⟩
  | _ => none

/-! ### comparisons -/
def oEqD : Opd := fun v w Φ => ∃ d e, toD v = some d ∧ toD w = some e ∧ SeqAt.shaped d = true ∧ SeqAt.shaped e = true ∧ Φ (.d (.bool (PyData.eqv d e)))
def oNeD : Opd := fun v w Φ => ∃ d e, toD v = some d ∧ toD w = some e ∧ SeqAt.shaped d = true ∧ SeqAt.shaped e = true ∧ Φ (.d (.bool (!PyData.eqv d e)))
theorem ops_eqD : OpS (compareOp .Eq) oEqD := by
  intro C X fx G F env σ H v w x y Q Φ r rv rw' h k
  obtain ⟨d, e, h1, h2, s1, s2, h⟩ := h
  exact wop_of (op_eqD (by have := fx.units; omega)) ⟨d, e, rep_Dp h1 rv, rep_Dp h2 rw', s1, s2, k _ _ _ _ (.refl r) (.imm (by simp only [RepD])) h⟩
theorem ops_neD : OpS (compareOp .NotEq) oNeD := by
  intro C X fx G F env σ H v w x y Q Φ r rv rw' h k
  obtain ⟨d, e, h1, h2, s1, s2, h⟩ := h
  exact wop_of (op_neD (by have := fx.units; omega)) ⟨d, e, rep_Dp h1 rv, rep_Dp h2 rw', s1, s2, k _ _ _ _ (.refl r) (.imm (by simp only [RepD])) h⟩
/-- two texts, whatever their signs are -/
def oEqS : Opd := fun v w Φ => ∃ a b, v = .d (.str a) ∧ w = .d (.str b) ∧ Φ (.d (.bool (decide (a = b))))
def oNeS : Opd := fun v w Φ => ∃ a b, v = .d (.str a) ∧ w = .d (.str b) ∧ Φ (.d (.bool (!decide (a = b))))
theorem dec_strV {a b : Str} : decide (V.str a = V.str b) = decide (a = b) := by
  by_cases h : a = b <;> simp [h]
theorem ops_eqS : OpS (compareOp .Eq) oEqS := by
  intro C X fx G F env σ H v w x y Q Φ r rv rw' h k
  obtain ⟨a, b, rfl, rfl, h⟩ := h
  have rv : RepD F H (.str a) x := rv
  have rw' : RepD F H (.str b) y := rw'
  simp only [RepD] at rv rw'
  subst rv rw'
  exact wop_of op_eq ⟨rfl, k _ _ _ _ (.refl r) (.imm (by simp only [RepD]; rw [dec_strV])) h⟩
theorem ops_neS : OpS (compareOp .NotEq) oNeS := by
  intro C X fx G F env σ H v w x y Q Φ r rv rw' h k
  obtain ⟨a, b, rfl, rfl, h⟩ := h
  have rv : RepD F H (.str a) x := rv
  have rw' : RepD F H (.str b) y := rw'
  simp only [RepD] at rv rw'
  subst rv rw'
  exact wop_of op_ne ⟨rfl, k _ _ _ _ (.refl r) (.imm (by simp only [RepD]; rw [dec_strV])) h⟩
def oEq : Opd := fun v w Φ => oEqD v w Φ ∨ oEqS v w Φ
def oNe : Opd := fun v w Φ => oNeD v w Φ ∨ oNeS v w Φ
theorem ops_eq : OpS (compareOp .Eq) oEq := ops_eqD.or ops_eqS
theorem ops_ne : OpS (compareOp .NotEq) oNe := ops_neD.or ops_neS
@[simp] def oLt : Opd := oB fun i j => decide (i < j)
@[simp] def oLe : Opd := oB fun i j => decide (i ≤ j)
@[simp] def oGt : Opd := oB fun i j => decide (j < i)
@[simp] def oGe : Opd := oB fun i j => decide (j ≤ i)
theorem ops_lt : OpS (compareOp .Lt) oLt := ops_B fun _ => op_lt
theorem ops_le : OpS (compareOp .LtE) oLe := ops_B fun _ => op_le
theorem ops_gt : OpS (compareOp .Gt) oGt := ops_B fun _ => op_gt
theorem ops_ge : OpS (compareOp .GtE) oGe := ops_B fun _ => op_ge
def isNone : Val → Bool
  | .d .none => true
  | _ => false
theorem rep_none {G : Gh} {F : AP1} {H : Hp} {v : Val} {x : V} (r : RepV G F H v x) : decide (x = .non) = isNone v := by
  cases v with
  | own xs => obtain ⟨a, vs, e, _⟩ := r; subst e; rfl
  | odk b xs => obtain ⟨a, vs, o, e, _⟩ := r; subst e; rfl
  | pot => obtain ⟨p, g, _, e⟩ := r; subst e; rfl
  | d z =>
    have r : RepD F H z x := r
    cases z <;> simp only [RepD] at r
    · subst r; rfl
    · subst r; rfl
    · subst r; rfl
    · subst r; rfl
    · obtain ⟨a, vs, e, _⟩ := r; subst e; rfl
    · obtain ⟨a, vs, e, _⟩ := r; subst e; rfl
def oIs : Opd := fun v w Φ => (w = .d .none ∧ Φ (.d (.bool (isNone v)))) ∨ ∃ a b, v = .d (.bool a) ∧ w = .d (.bool b) ∧ Φ (.d (.bool (decide (a = b))))
def oIsNot : Opd := fun v w Φ => (w = .d .none ∧ Φ (.d (.bool (!isNone v)))) ∨ ∃ a b, v = .d (.bool a) ∧ w = .d (.bool b) ∧ Φ (.d (.bool (!decide (a = b))))
theorem ops_is : OpS (compareOp .Is) oIs := by
  intro C X fx G F env σ H v w x y Q Φ r rv rw' h k
  rcases h with ⟨rfl, h⟩ | ⟨a, b, rfl, rfl, h⟩
  · have rw' : RepD F H .none y := rw'
    simp only [RepD] at rw'
    exact wop_of op_isN ⟨rw', k _ _ _ _ (.refl r) (.imm (by simp only [RepD, rep_none rv])) h⟩
  · have rv : RepD F H (.bool a) x := rv
    have rw' : RepD F H (.bool b) y := rw'
    simp only [RepD] at rv rw'
    exact wop_of op_isBl ⟨a, b, rv, rw', k _ _ _ _ (.refl r) (.imm (by simp only [RepD])) h⟩
theorem ops_isNot : OpS (compareOp .IsNot) oIsNot := by
  intro C X fx G F env σ H v w x y Q Φ r rv rw' h k
  rcases h with ⟨rfl, h⟩ | ⟨a, b, rfl, rfl, h⟩
  · have rw' : RepD F H .none y := rw'
    simp only [RepD] at rw'
    exact wop_of op_notN ⟨rw', k _ _ _ _ (.refl r) (.imm (by simp only [RepD, rep_none rv])) h⟩
  · have rv : RepD F H (.bool a) x := rv
    have rw' : RepD F H (.bool b) y := rw'
    simp only [RepD] at rv rw'
    exact wop_of op_notBl ⟨a, b, rv, rw', k _ _ _ _ (.refl r) (.imm (by simp only [RepD])) h⟩
/-- x in a list of data; x in a tuple of flat values -/
def flatD : PyData → Bool
  | .none => true
  | .bool _ => true
  | .int _ => true
  | .str _ => true
  | _ => false
theorem flat_V {F : AP1} {H : Hp} {d : PyData} {x : V} (h : flatD d = true) (r : RepD F H d x) : flatV x = true := by
  cases d <;> simp only [RepD] at r <;> first | (subst r; rfl) | cases h
theorem eqv_V {F : AP1} {H : Hp} {d e : PyData} {x y : V} (h : flatD d = true) (h' : flatD e = true) (r : RepD F H d x) (r' : RepD F H e y) : eqV x y = PyData.eqv d e := by
  cases d <;> simp only [RepD] at r <;> first | cases h | skip
  all_goals (cases e <;> simp only [RepD] at r' <;> first | cases h' | skip)
  all_goals (subst r r'; simp [eqV, PyData.eqv])
theorem flatAll_V {F : AP1} {H : Hp} {ds : List PyData} {vs : List V} (h : ds.all flatD = true) (r : RepAll F H ds vs) : vs.all flatV = true := by
  induction ds generalizing vs with
  | nil => cases r.inv0; rfl
  | cons d ds ih =>
    obtain ⟨v, t, rfl, r1, r2⟩ := r.inv
    rw [List.all_cons, Bool.and_eq_true] at h ⊢
    exact ⟨flat_V h.1 r1, ih h.2 r2⟩
theorem inV_D {F : AP1} {H : Hp} {d : PyData} {x : V} (h0 : flatD d = true) (r0 : RepD F H d x) {ds : List PyData} {vs : List V} (h : ds.all flatD = true) (r : RepAll F H ds vs) : inV x vs = ds.any fun z => PyData.eqv z d := by
  induction ds generalizing vs with
  | nil => cases r.inv0; rfl
  | cons e ds ih =>
    obtain ⟨v, t, rfl, r1, r2⟩ := r.inv
    rw [List.all_cons, Bool.and_eq_true] at h
    have e1 : inV x (v :: t) = (eqV v x || inV x t) := by simp [inV]
    rw [e1, List.any_cons, ih h.2 r2, eqv_V h.1 h0 r1 r0]
def oInG (neg : Bool) : Opd := fun v w Φ => (∃ d ds, toD v = some d ∧ toL w = some ds ∧ SeqAt.shaped d = true ∧ SeqAt.shaped (.list ds) = true ∧ Φ (.d (.bool (xor neg (ds.any fun z => PyData.eqv z d))))) ∨
  ∃ d ds, v = .d d ∧ toS w = some ds ∧ flatD d = true ∧ ds.all flatD = true ∧ Φ (.d (.bool (xor neg (ds.any fun z => PyData.eqv z d))))
theorem toL_D {w : Val} {ds : List PyData} (h : toL w = some ds) : toD w = some (.list ds) := by
  unfold toL at h
  split at h
  · cases h; rfl
  · cases h; rfl
  · cases h
theorem ops_in : OpS (compareOp .In) (oInG false) := by
  intro C X fx G F env σ H v w x y Q Φ r rv rw' h k
  rcases h with ⟨d, ds, h1, h2, s1, s2, h⟩ | ⟨d, ds, rfl, h2, f1, f2, h⟩
  · rw [Bool.false_xor] at h
    exact wop_of (op_inD (by have := fx.units; omega)) ⟨d, ds, rep_Dp h1 rv, rep_Dp (toL_D h2) rw', s1, s2, k _ _ _ _ (.refl r) (.imm (by simp only [RepD])) h⟩
  · rw [Bool.false_xor] at h
    obtain ⟨a, vs, rfl, ha, ra⟩ := rep_S h2 rw'
    refine wop_of op_in_seq ⟨a, vs, rfl, ha.imp SqL.of SqT.of, flat_V f1 rv, flatAll_V f2 ra, k _ _ _ _ (.refl r) (.imm (by simp only [RepD]; rw [inV_D f1 rv f2 ra]; simp)) h⟩
theorem ops_notIn : OpS (compareOp .NotIn) (oInG true) := by
  intro C X fx G F env σ H v w x y Q Φ r rv rw' h k
  rcases h with ⟨d, ds, h1, h2, s1, s2, h⟩ | ⟨d, ds, rfl, h2, f1, f2, h⟩
  · rw [Bool.true_xor] at h
    exact wop_of (op_notInD (by have := fx.units; omega)) ⟨d, ds, rep_Dp h1 rv, rep_Dp (toL_D h2) rw', s1, s2, k _ _ _ _ (.refl r) (.imm (by simp only [RepD])) h⟩
  · rw [Bool.true_xor] at h
    obtain ⟨a, vs, rfl, ha, ra⟩ := rep_S h2 rw'
    refine wop_of op_notIn_seq ⟨a, vs, rfl, ha.imp SqL.of SqT.of, flat_V f1 rv, flatAll_V f2 ra, k _ _ _ _ (.refl r) (.imm (by simp only [RepD]; rw [inV_D f1 rv f2 ra]; simp)) h⟩

def cmpOf : (op : CmpOp) → Option { o : Opd // OpS (compareOp op) o }
  | .Eq => some ⟨oEq, ops_eq⟩
  | .NotEq => some ⟨oNe, ops_ne⟩
  | .Lt => some ⟨oLt, ops_lt⟩
  | .LtE => some ⟨oLe, ops_le⟩
  | .Gt => some ⟨oGt, ops_gt⟩
  | .GtE => some ⟨oGe, ops_ge⟩
  | .Is => some ⟨oIs, ops_is⟩
  | .IsNot => some ⟨oIsNot, ops_isNot⟩
  | .In => some ⟨oInG false, ops_in⟩
  | .NotIn => some ⟨oInG true, ops_notIn⟩
end Ev
set_option Elab.async false
set_option linter.all false
set_option maxRecDepth 100000
set_option maxHeartbeats 4000000
/-! Er: t[::-1] of a tuple. -/
namespace Ev
open PySem PySem.Spec PyProof.Rows L2 HT
section
variable {prog : Program} {w : World} {A : Around} {E : Value → Shared → Prop} {s : Shared}
theorem rev_applied {sl : Addr} {vs : Value} {n : Nat} {Q : Int × Int × Nat → Shared → Prop} (hs : s.heap.IsSliceOf sl .none .none vs) (ps : IsPart vs (some (-1)))
    (h : Q ((n : Int) - 1, -1, n) s) : wpAny (model prog w) A (Builtin.Slice.sliceApplied (.ref sl) (pure (n : Int))) Q E s := by
  obtain ⟨os, hos, hcs, hds⟩ := id hs
  unfold Builtin.Slice.sliceApplied Builtin.Slice.sliceFields
  refine wpAny_bind (wpAny_bind (wpAny_field hos hds (x := .none) rfl (wpAny_bind (wpAny_field hos hds (x := .none) rfl (wpAny_bind (wpAny_field hos hds (x := vs) rfl (wpAny_pure ?_)))))))
  refine wpAny_bind (slicePart_ ps ?_)
  show wpAny _ _ (if ((-1 : Int) == 0) = true then _ else _) _ _ s
  rw [if_neg (by decide)]
  refine wpAny_bind (slicePart_none (wpAny_bind (slicePart_none (wpAny_bind (wpAny_pure ?_)))))
  show wpAny _ _ (match Builtin.Slice.sliceAdjust none none (-1) (n : Int) with | (lo, hi) => pure (lo, (-1 : Int), Builtin.Slice.slicePlaces lo hi (-1))) _ _ s
  have e1 : Builtin.Slice.sliceAdjust none none (-1) (n : Int) = ((n : Int) - 1, -1) := by
    unfold Builtin.Slice.sliceAdjust
    simp
  rw [e1]
  show wpAny _ _ (pure ((n : Int) - 1, (-1 : Int), Builtin.Slice.slicePlaces ((n : Int) - 1) (-1) (-1))) _ _ s
  have e2 : Builtin.Slice.slicePlaces ((n : Int) - 1) (-1) (-1) = n := by
    unfold Builtin.Slice.slicePlaces
    have h1 : ¬ ((-1 : Int) > 0) := by omega
    simp only [h1, if_false]
    have e3 : (- (-1) : Int) = 1 := by omega
    rw [e3, Int.ediv_one]
    split <;> omega
  rw [e2]
  exact wpAny_pure h
theorem fm_congr {α β : Type} {f g : α → Option β} : ∀ {l : List α}, (∀ x ∈ l, f x = g x) → l.filterMap f = l.filterMap g
  | [], _ => rfl
  | x :: l, h => by
    rw [List.filterMap_cons, List.filterMap_cons, h x (List.mem_cons_self ..), fm_congr fun y hy => h y (List.mem_cons_of_mem _ hy)]
theorem rev_pick (xs : Array Value) : ((List.range xs.size).filterMap fun (k : Nat) => xs[(((xs.size : Int) - 1) + (k : Int) * (-1)).toNat]?).toArray = xs.toList.reverse.toArray := by
  congr 1
  have e : (List.range xs.size).filterMap (fun (k : Nat) => xs[(((xs.size : Int) - 1) + (k : Int) * (-1)).toNat]?) = ((List.range xs.size).map fun k => xs.size - 1 - k).filterMap (xs[·]?) := by
    rw [List.filterMap_map]
    refine fm_congr fun k hk => ?_
    have := List.mem_range.mp hk
    have e : (((xs.size : Int) - 1) + (k : Int) * (-1)).toNat = xs.size - 1 - k := by omega
    rw [e]; rfl
  rw [e, PySem.W.krv_range, List.filterMap_reverse, PySem.W.krv_all]
theorem getItem_tuple_rev {t sl : Addr} {items : Array Value} {vs : Value} {Q : Value → Shared → Prop} (ht : IsTup s.heap t items) (hs : s.heap.IsSliceOf sl .none .none vs) (ps : IsPart vs (some (-1)))
    (h : Q (.ref s.heap.objs.size) { s with heap := s.heap.push { cls := .type "tuple", data := .seq items.toList.reverse.toArray } })
    (hsz : items.size ≤ sizeLine) : wpAny (model prog w) A (getItem (.ref t) (.ref sl)) Q E s := by
  have htake : sizeOk (.seq items.toList.reverse.toArray) := by
    show items.toList.reverse.toArray.size ≤ sizeLine
    rw [List.size_toArray, List.length_reverse, Array.length_toList]
    exact hsz
  obtain ⟨os, hos, hcs, hds⟩ := id hs
  have hTs : s.TypeIs (.ref sl) "slice" := ⟨os, hos, hcs⟩
  unfold getItem
  try with_reducible refine wpAny_holding ?_
  first | refine wpAny_bind (wpAny_pure ?_) | skip
  refine wpAny_bind (wpAny_sequenceKey ht.typeIs (by decide) ?_)
  refine wpAny_bind (wpAny_callSpecial?_slot (name := Str.ofString "__getitem__") ht.typeIs PyProof.Rows.slot_tuple_getitem
    (wpAny_call_entry PyProof.Rows.slot_tuple_getitem ht.typeIs entry_tuple_getitem ?_ (args_tuple_getitem _ _)))
  show wpAny _ _ (Builtin.Tuple.tupleItemsOf (.ref t) >>= _) _ _ s
  refine wpAny_bind (tupleItemsOf_ ht ?_)
  refine wpAny_bind (wpAny_typeOf hTs ?_)
  rw [if_pos (by decide)]
  refine wpAny_bind (rev_applied hs ps ?_)
  have hno : ¬ (((items.size : Int) - 1 == 0 && (-1 : Int) == 1 && items.size == items.size) = true) := by simp
  show wpAny _ _ (if ((items.size : Int) - 1 == 0 && (-1 : Int) == 1 && items.size == items.size) = true then _ else _) _ _ s
  rw [if_neg hno, rev_pick]
  first
    | exact wpAny_bind (m := Builtin.Tuple.tupleExact _) (wpAny_newObj_type (wpAny_pure ⟨_, rfl, wpAny_pure h⟩) htake)
    | exact wpAny_bind (m := Builtin.Tuple.tupleExact _) (wpAny_newObj_type (wpAny_bind (wpAny_pure (wpAny_pure ⟨_, rfl, wpAny_pure h⟩))) htake)
    | exact wpAny_bind (wpAny_bind (m := Builtin.Tuple.tupleExact _) (wpAny_newObj_type (wpAny_pure (wpAny_pure ⟨_, rfl, wpAny_pure h⟩)) htake))
    | exact wpAny_bind (wpAny_bind (m := Builtin.Tuple.tupleExact _) (wpAny_newObj_type (wpAny_pure ⟨_, rfl, wpAny_pure h⟩) htake))
end
section
variable {X : Cx}
/-- x[::-1] of a list or a tuple -/
def tRevA (K : PySem.W.Frag) (te : TE) : TE := fun σ H Q => te σ H fun x H1 => ∃ a xs, x = .ref a ∧ ((SqL K H1 a xs ∧ ∀ p, H1 p = none → Q (.ref p) (upd H1 p (.lst xs.reverse))) ∨ (SqT K H1 a xs ∧ ∀ p, H1 p = none → Q (.ref p) (upd H1 p (.tup xs.reverse))))
theorem pe_revA {e : Expr} {te : TE} {k : Nat} {p1 p2 p3 pos : Pos} (he : PE X e te) : PE X (.Subscript e (.Slice none none (some (.UnaryOp .USub (.Constant (.int 1) k p1) p2)) p3) pos) (tRevA X.K te) := by
  refine ⟨fun pins s σ H Q I h => ?_⟩
  refine Subscript_ (thn (he.run pins s σ H _ I h) fun v s1 ⟨x, H1, I1, r1, q1⟩ => ?_)
  obtain ⟨a, xs, ex, q⟩ := q1
  subst ex
  cases r1
  have hst : PO X (some (.UnaryOp .USub (.Constant (.int 1) k p1) p2)) (tPart (tUn (rU fun i => .int (-i)) (tC (.int 1)))) := po_some (pe_un un_neg pe_int)
  refine wpAny_Slice (thn (po_none.run pins s1 σ H1 (fun o H2 => o = none ∧ H2 = H1) I1 ⟨rfl, rfl⟩) fun vl s2 ⟨l, H2, I2, pl, el, e2⟩ => ?_)
  subst el e2
  refine thn (po_none.run pins s2 σ H2 (fun o H3 => o = none ∧ H3 = H2) I2 ⟨rfl, rfl⟩) fun vu s3 ⟨u, H3, I3, pu, eu, e3⟩ => ?_
  subst eu e3
  refine thn (hst.run pins s3 σ H3 (fun o H4 => o = some (-1) ∧ H4 = H3) I3 ⟨1, rfl, -1, rfl, rfl, rfl⟩) fun vs s4 ⟨o, H4, I4, ps, eo, e4⟩ => ?_
  subst eo e4
  have I5 : Inv X pins σ H4 { s4 with heap := s4.heap.push { cls := .type "slice", data := .fields #[vl, vu, vs] } } := I4.kept (t' := s4.toks) fun b ob q => Heap.get?_push_of_some _ q
  show wpAny (model X.prog X.w) X.A (subscriptTail e (.Slice none none (some (.UnaryOp .USub (.Constant (.int 1) k p1) p2)) p3) (.ref a) (.ref s4.heap.objs.size)) (EP X pins σ Q) X.xe { s4 with heap := s4.heap.push { cls := .type "slice", data := .fields #[vl, vu, vs] } }
  rcases q with ⟨hx, q⟩ | ⟨hx, q⟩
  · obtain ⟨its, r, ht, hz⟩ := I5.list hx
    have hlen := r.length
    refine tail_any (ops := [.ref a, .ref s4.heap.objs.size]) ht.isList.typeIs (PySem.slot_list_getitem.lookup) ?_ (by with_unfolding_all rfl)
    refine wpAny_getItem_list_slice ht.isList (Heap.IsSliceOf.new _ vl vu vs) pl pu ps (by decide) ?_ (by rw [List.size_toArray]; omega)
    rw [PySem.W.krv_pick]
    refine ⟨.ref _, _, I5.laid (t' := s4.toks) (o := .lst xs.reverse) (fun b ob q => Heap.get?_push_of_some _ q) (Nat.le_refl _) ?_, rfl, q _ (I5.hok.fresh (Nat.le_refl _))⟩
    exact ⟨by rw [List.length_reverse]; exact hz, _, 0, r.reverse, Heap.get?_push_size _ rfl⟩
  · obtain ⟨its, r, ht, hz⟩ := I5.tuple hx
    have hlen := r.length
    cases pl
    cases pu
    refine tail_any (ops := [.ref a, .ref s4.heap.objs.size]) ht.typeIs (PyProof.Rows.slot_tuple_getitem.lookup) ?_ (by with_unfolding_all rfl)
    refine getItem_tuple_rev ht (Heap.IsSliceOf.new _ _ _ vs) ps ?_ (by rw [List.size_toArray]; omega)
    refine ⟨.ref _, _, I5.laid (t' := s4.toks) (o := .tup xs.reverse) (fun b ob q => Heap.get?_push_of_some _ q) (Nat.le_refl _) ?_, rfl, q _ (I5.hok.fresh (Nat.le_refl _))⟩
    exact ⟨by rw [List.length_reverse]; exact hz, _, r.reverse, IsTup.new _ _⟩
end
end Ev
set_option Elab.async false
set_option linter.all false
set_option maxRecDepth 100000
set_option maxHeartbeats 4000000
/-! Xt: list.extend of a tuple. -/
namespace Ev
open PySem PySem.Spec PyProof.Rows L2 HT PySem.AutoSeq1
theorem extend_tup (l : Addr) (items : Array Value) (n : Nat) (b : Addr) (items2 : Array Value) (n2 : Nat) (dd : Option Addr) (ss : Array (Option Value)) (hs0 : ¬(!items.isEmpty && Builtin.List.listTooLong (items.size + items2.size)) = true) (hs1 : items.size ≤ sizeLine) (hs2 : items.size + items2.size ≤ sizeLine + 1 := by seq_fits) :
    Meets (Builtin.«list.extend» ⟨[.ref l, .ref b], []⟩) (fun _ R s => s.heap.get? l = some { cls := .type "list", dict := none, data := .seq items n, slots := #[] } ∧ s.heap.get? b = some { cls := .type "tuple", dict := dd, data := .seq items2 n2, slots := ss } ∧ R (.ok (.ret Value.none)) { s with heap := s.heap.update l (Obj.mapSeq fun x => x ++ items2), toks := s.toks }) :=
  .of_wp fun prog w A R s h => by
    obtain ⟨hp, g, d, tk, os⟩ := s; obtain ⟨hl, hb, h⟩ := h; have f1 := idx_int; have f2 := AutoSeq1.sub_tuple_tuple; have f3 := AutoSeq1.sub_list_list; have f4 := AutoSeq1.sub_tuple_list; have f5 := AutoSeq1.sub_list_tuple;
    have hz' : (items ++ items2).size ≤ sizeLine + 1 := by rw [Array.size_append]; exact hs2
    wp_walk using (wpAny_updateSeq hl rfl (hz := hs1) (_hz' := hz')), wpAny_loadPart' hl, wpAny_loadPart' hb; exact ⟨_, rfl, h⟩
def rExtendT : V → List V → Hp → VK → Prop := fun x vs H Q => ∃ l b xs zs, x = .ref l ∧ vs = [.ref b] ∧ H l = some (.lst xs) ∧ H b = some (.tup zs) ∧ xs.length + zs.length ≤ sizeLine ∧ Q .non (upd H l (.lst (xs ++ zs)))
theorem mt_extendT {X : Cx} : MtM X "list.extend" rExtendT := by
  intro pins s σ H x vs v us Q I rx rv h
  obtain ⟨l, b, xs, zs, rfl, rfl, hH, hB, hz, q⟩ := h
  cases rx
  obtain ⟨u, rfl, ru⟩ := rv.one
  cases ru
  obtain ⟨z, its, n, r, hl, e⟩ := I.lstM hH
  obtain ⟨its2, r2, ⟨⟨cc, dd, da, ss⟩, e2, ec, n2, ed⟩, hl2⟩ := I.tuple (SqT.of hB)
  have el2 := r2.length
  simp only at ec ed
  subst ec ed
  have hsz : its.toArray.size + its2.toArray.size ≤ sizeLine := by rw [List.size_toArray, List.size_toArray]; omega
  have hlong : ¬ (!its.toArray.isEmpty && Builtin.List.listTooLong (its.toArray.size + its2.toArray.size)) = true := by
    rw [notLongL hsz, Bool.and_false]
    exact Bool.false_ne_true
  refine call_meets F.slot_list_extend ⟨_, e, rfl⟩ F.entry_list_extend (F.args_list_extend_2 _ _)
    (extend_tup l its.toArray n b its2.toArray n2 dd ss hlong (by rw [List.size_toArray]; omega) (by omega)) ⟨e, e2, ?_⟩
  refine ⟨.non, _, I.lset (its' := its ++ its2) hH e (by simp) (r.append r2) ?_, rfl, q⟩
  rw [List.length_append]
  omega
def rExtendB : V → List V → Hp → VK → Prop := fun x vs H Q => rExtend x vs H Q ∨ rExtendT x vs H Q
theorem mt_extendB {X : Cx} : MtM X "list.extend" rExtendB := by
  intro pins s σ H x vs v us Q I rx rv h
  rcases h with h | h
  · exact mt_extend _ _ _ _ _ _ _ _ _ I rx rv h
  · exact mt_extendT _ _ _ _ _ _ _ _ _ I rx rv h
end Ev
set_option Elab.async false
set_option linter.all false
set_option maxRecDepth 100000
/-! Ev4: names, constants, tests, displays, subscripts, slices, calls of defs. -/
namespace Ev
open PySem PySem.Spec PyProof.Rows L2

/-! ### names, constants -/
@[simp] def dVar (i : Nat) : DO := fun env Φ => (∃ v, env[i]? = some (some v)) ∧ Φ (.s i) env
@[simp] def dC (x : PyData) : DO := fun env Φ => Φ (.v (.d x)) env
section
variable {C : SC} {pos : Pos}
theorem so_var {i : Nat} {x : Str} (hN : C.N[i]? = some x) (hv : Vis C.sc x) (hd : (x == ("__debug__" : Str)) = false) (hcd : (x == ("__classdict__" : Str)) = false) : SO C (.Name x pos) (dVar i) := by
  intro X fx G F env σ H Q Φ r h hQ
  refine w_of (pe_var (i := i) (by rw [fx.n]; exact hN) (by rw [fx.sc]; exact hv) hd hcd) ?_
  obtain ⟨⟨v, ev⟩, h⟩ := h
  obtain ⟨x', sx, rv⟩ := r.rep i v ev
  exact ⟨x', sx, hQ (.s i) env F H x' (.refl r) sx h⟩
theorem gl_of {X : Cx} (fx : Fits C X) {x : Str} (h : C.sc.names.lookup x = some .globalImplicit) : Gl X x := by
  show X.env.kindOf x = some .globalImplicit
  have e : X.env.kindOf x = X.env.scope.names.lookup x := rfl
  rw [e, fx.sc]
  exact h
theorem so_glb {x : Str} {n : Int} (hg : C.sc.names.lookup x = some .globalImplicit) (hm : (x, n) ∈ C.glb) (hd : (x == ("__debug__" : Str)) = false) : SO C (.Name x pos) (dC (.int n)) := by
  intro X fx G F env σ H Q Φ r h hQ
  obtain ⟨t, ht⟩ := fx.glb _ hm
  refine w_of (pe_glob (v := .int n) (gl_of fx hg) ht ⟨t, rfl⟩ hd) ?_
  exact hQ (.v (.d (.int n))) env F H _ (.refl r) (Res.imm (by simp only [RepD])) h
theorem so_int {i : Int} {j : Nat} : SO C (.Constant (.int i) j pos) (dC (.int i)) := by
  intro X fx G F env σ H Q Φ r h hQ
  exact w_of pe_int (hQ (.v (.d (.int i))) env F H _ (.refl r) (Res.imm (by simp only [RepD])) h)
theorem so_bool {b : Bool} {j : Nat} : SO C (.Constant (.bool b) j pos) (dC (.bool b)) := by
  intro X fx G F env σ H Q Φ r h hQ
  exact w_of pe_bl (hQ (.v (.d (.bool b))) env F H _ (.refl r) (Res.imm (by simp only [RepD])) h)
theorem so_none {j : Nat} : SO C (.Constant .none j pos) (dC .none) := by
  intro X fx G F env σ H Q Φ r h hQ
  exact w_of pe_non (hQ (.v (.d .none)) env F H _ (.refl r) (Res.imm (by simp only [RepD])) h)
theorem so_str {s : Str} {j : Nat} : SO C (.Constant (.str s) j pos) (dC (.str s)) := by
  intro X fx G F env σ H Q Φ r h hQ
  exact w_of pe_str (hQ (.v (.d (.str s))) env F H _ (.refl r) (Res.imm (by simp only [RepD])) h)
end

/-! ### one operand -/
abbrev Und := Val → (Val → Prop) → Prop
@[simp] def dUn (o : Und) (da : DO) : DO := fun env Φ => da env fun ra env1 => ∃ v, ra.get env1 = some v ∧ o v fun z => Φ (.v z) env1
section
variable {C : SC} {a b c : Expr} {da db dc : DO} {pos : Pos}
theorem one {X : Cx} (fx : Fits C X) {G : Gh} {F : AP1} {env : Env} {σ : L2.St} {H : Hp} {P : V → Hp → Prop} {Φ : Val → Env → Prop} (ha : SO C a da) (r : R G F env σ H)
    (h : da env fun ra env1 => ∃ v, ra.get env1 = some v ∧ Φ v env1) (k : ∀ v env2 F2 H2 x, Ext G F env σ H F2 env2 H2 → RepV G F2 H2 v x → Φ v env2 → P x H2) : wE X a σ H fun x H1 => P x H1 := by
  refine ha X fx G F env σ H _ _ r h fun r1 env1 F1 H1 x e1 q1 h1 => ?_
  obtain ⟨v, g1, h1⟩ := h1
  exact k v env1 F1 H1 x e1 (q1.at e1.r g1) h1
@[simp] def oNeg : Und := fun v Φ => ∃ i, toI v = some i ∧ Φ (.d (.int (-i)))
theorem so_neg (ha : SO C a da) : SO C (.UnaryOp .USub a pos) (dUn oNeg da) := by
  intro X fx G F env σ H Q Φ r h hQ
  refine w_of (pe_un un_neg pe_w) ?_
  refine one fx (Φ := fun v env1 => oNeg v fun z => Φ (.v z) env1) ha r h fun v env2 F2 H2 x e rv h2 => ?_
  obtain ⟨i, e1, h2⟩ := h2
  obtain ⟨_, rfl⟩ := rep_I e1 rv
  exact ⟨i, rfl, hQ (.v _) env2 F2 H2 _ e (Res.imm (by simp only [RepD])) h2⟩

/-! ### tests -/
def toB : Val → Option Bool
  | .d (.bool b) => some b
  | _ => none
theorem rep_B {G : Gh} {F : AP1} {H : Hp} {v : Val} {x : V} {b : Bool} (h : toB v = some b) (r : RepV G F H v x) : v = .d (.bool b) ∧ x = .bl b := by
  unfold toB at h
  split at h
  · cases h
    have r : RepD F H (.bool b) x := r
    simp only [RepD] at r
    exact ⟨rfl, r⟩
  · cases h
@[simp] def dTst (da : DO) : DB := fun env Φ => da env fun ra env1 => ∃ v, ra.get env1 = some v ∧ ∃ b, toB v = some b ∧ Φ b env1
theorem st_cmp {op : CmpOp} {o : Opd} (ho : OpS (compareOp op) o) (ha : SO C a da) (hb : SO C b db) (hm : behindInMarks op b = false) : STe C (.Compare a [op] [b] pos) (dTst (dBin o da db)) := by
  intro X fx G F env σ H Q Φ r h hQ
  refine wt_of (pt_cmpR opr_w pe_w pe_w hm) ?_
  have s := so_cmp (pos := pos) ho ha hb hm X fx G F env σ H (fun x H' => ∃ k, x = .bl k ∧ Q k H') _ r h fun rr env1 F1 H1 x e1 q1 h1 => by
    obtain ⟨v, g, b, hb', h1⟩ := h1
    obtain ⟨_, rfl⟩ := rep_B hb' (q1.at e1.r g)
    exact ⟨b, rfl, hQ b env1 F1 H1 e1 h1⟩
  exact two fx (Φ := fun v w env2 => o v w fun z => ∃ v', Rv.get env2 (.v z) = some v' ∧ ∃ b, toB v' = some b ∧ Φ b env2) ha hb r h fun v w env2 F2 H2 x y e rv rw' h2 =>
    ho C X fx G F2 env2 σ H2 v w x y _ _ e.r rv rw' h2 fun z F3 H3 zx e3 q3 h3 => by
      obtain ⟨v', g, b, hb', h3⟩ := h3
      cases g
      obtain ⟨_, rfl⟩ := rep_B hb' q3.rep
      exact ⟨b, rfl, hQ b env2 F3 H3 (e.trans e3) h3⟩
def truth : Val → Option Bool
  | .d .none => some false
  | .d (.bool b) => some b
  | .d (.int i) => some (i != 0)
  | .d (.str s) => if s.length ≤ 16777216 then some ((s.length : Int) != 0) else none
  | .d (.list xs) => some (!xs.isEmpty)
  | .d (.tuple xs) => some (!xs.isEmpty)
  | .own xs => some (!xs.isEmpty)
  | _ => none
theorem empty_of {F : AP1} {H : Hp} {xs : List PyData} {vs : List V} (r : RepAll F H xs vs) : (!vs.isEmpty) = !xs.isEmpty := by
  cases xs with
  | nil => cases r.inv0; rfl
  | cons x xs => obtain ⟨v, t, rfl, _⟩ := r.inv; rfl
theorem truth_ok {K : PySem.W.Frag} {G : Gh} {F : AP1} {H : Hp} {v : Val} {x : V} {b : Bool} (h : truth v = some b) (r : RepV G F H v x) : TruV K x H b := by
  cases v with
  | pot => cases h
  | odk _ _ => cases h
  | own xs =>
    cases h
    obtain ⟨a, vs, rfl, _, ha, rr⟩ := r
    exact .inl ⟨vs, SqL.of ha, (empty_of rr).symm⟩
  | d z =>
    have r : RepD F H z x := r
    cases z with
    | none => cases h; simp only [RepD] at r; subst r; rfl
    | bool c => cases h; simp only [RepD] at r; subst r; rfl
    | int i => cases h; simp only [RepD] at r; subst r; rfl
    | str s =>
      simp only [RepD] at r; subst r
      have h : (if s.length ≤ 16777216 then some ((s.length : Int) != 0) else none) = some b := h
      split at h
      · cases h
        exact ⟨by rw [sizeLine_eq]; assumption, rfl⟩
      · cases h
    | list xs =>
      cases h
      simp only [RepD] at r
      obtain ⟨a, vs, rfl, _, ha, rr⟩ := r
      exact .inl ⟨vs, SqL.of ha, (empty_of rr).symm⟩
    | tuple xs =>
      cases h
      simp only [RepD] at r
      obtain ⟨a, vs, rfl, _, ha, rr⟩ := r
      exact .inr (.inl ⟨vs, SqT.of ha, (empty_of rr).symm⟩)
    | dict _ => cases h
@[simp] def dTru (da : DO) : DB := fun env Φ => da env fun ra env1 => ∃ v, ra.get env1 = some v ∧ ∃ b, truth v = some b ∧ Φ b env1
theorem st_tru (ha : SO C a da) (he : ∀ env whole, isTrue a env whole = (do let v ← whole; standAt a.pos; holding [v] (truthy v))) : STe C a (dTru da) := by
  intro X fx G F env σ H Q Φ r h hQ
  refine wt_of (pt_truth pe_w (he X.env)) ?_
  refine one fx (Φ := fun v env1 => ∃ b, truth v = some b ∧ Φ b env1) ha r h fun v env2 F2 H2 x e rv h2 => ?_
  obtain ⟨b, hb, h2⟩ := h2
  exact ⟨b, truth_ok hb rv, hQ b env2 F2 H2 e h2⟩
@[simp] def dNotT (d : DB) : DB := fun env Φ => d env fun b env1 => Φ (!b) env1
theorem st_not {d : DB} (ha : STe C a d) : STe C (.UnaryOp .Not a pos) (dNotT d) := by
  intro X fx G F env σ H Q Φ r h hQ
  refine wt_of (pt_not pt_w) ?_
  exact ha X fx G F env σ H _ _ r h fun b env1 F1 H1 e h1 => hQ _ env1 F1 H1 e h1
@[simp] def dAndT (d e : DB) : DB := fun env Φ => d env fun b env1 => (b = true → e env1 Φ) ∧ (b = false → Φ false env1)
@[simp] def dOrT (d e : DB) : DB := fun env Φ => d env fun b env1 => (b = true → Φ true env1) ∧ (b = false → e env1 Φ)
theorem sw_and1 {d : DB} (ha : STe C a d) : SW C (.BoolOp .And [a] pos) d := by
  intro X fx G F env σ H Q Φ r h hQ
  refine ww_of (pw_and1 pt_w) ?_
  exact ha X fx G F env σ H _ _ r h hQ
theorem sw_or1 {d : DB} (ha : STe C a d) : SW C (.BoolOp .Or [a] pos) d := by
  intro X fx G F env σ H Q Φ r h hQ
  refine ww_of (pw_or1 pt_w) ?_
  exact ha X fx G F env σ H _ _ r h hQ
theorem sw_and {d e : DB} {rest : List Expr} (ha : STe C a d) (hb : SW C (.BoolOp .And (b :: rest) pos) e) : SW C (.BoolOp .And (a :: b :: rest) pos) (dAndT d e) := by
  intro X fx G F env σ H Q Φ r h hQ
  refine ww_of (pw_and pt_w pw_w) ?_
  refine ha X fx G F env σ H _ _ r h fun c env1 F1 H1 e1 h1 => ?_
  cases c with
  | true => exact iteT (hb X fx G F1 env1 σ H1 _ _ e1.r (h1.1 rfl) fun k env2 F2 H2 e2 h2 => hQ k env2 F2 H2 (e1.trans e2) h2)
  | false => exact iteF (hQ false env1 F1 H1 e1 (h1.2 rfl))
theorem sw_or {d e : DB} {rest : List Expr} (ha : STe C a d) (hb : SW C (.BoolOp .Or (b :: rest) pos) e) : SW C (.BoolOp .Or (a :: b :: rest) pos) (dOrT d e) := by
  intro X fx G F env σ H Q Φ r h hQ
  refine ww_of (pw_or pt_w pw_w) ?_
  refine ha X fx G F env σ H _ _ r h fun c env1 F1 H1 e1 h1 => ?_
  cases c with
  | false => exact iteF (hb X fx G F1 env1 σ H1 _ _ e1.r (h1.2 rfl) fun k env2 F2 H2 e2 h2 => hQ k env2 F2 H2 (e1.trans e2) h2)
  | true => exact iteT (hQ true env1 F1 H1 e1 (h1.1 rfl))
theorem st_w {d : DB} (h : SW C a d) : STe C a d := by
  intro X fx G F env σ H Q Φ r hd hQ
  exact wt_of pw_w.pt (h X fx G F env σ H Q Φ r hd hQ)
/-- comparison chains of two links -/
@[simp] def dChain (o o' : Opd) (da db dc : DO) : DO := fun env Φ => da env fun ra env1 => db env1 fun rb env2 => ∃ v w, ra.get env2 = some v ∧ rb.get env2 = some w ∧
  o v w fun z => ∃ k, toB z = some k ∧ (k = true → dc env2 fun rc env3 => ∃ u, rc.get env3 = some u ∧ (∃ w', rb.get env3 = some w' ∧ o' w' u fun z' => Φ (.v z') env3)) ∧ (k = false → Φ (.v (.d (.bool false))) env2)
theorem chain_run {X : Cx} (fx : Fits C X) {op op' : CmpOp} {o o' : Opd} (ho : OpS (compareOp op) o) (ho' : OpS (compareOp op') o') (ha : SO C a da) (hb : SO C b db) (hc : SO C c dc)
    {G : Gh} {F : AP1} {env : Env} {σ : L2.St} {H : Hp} {Q : VK} {Φ : Rv → Env → Prop} (r : R G F env σ H) (h : dChain o o' da db dc env Φ)
    (hQ : ∀ z env' F' H' x, Ext G F env σ H F' env' H' → Res G env σ H F' env' H' z x → Φ (.v z) env' → Q x H') :
    tChain (wOp X (compareOp op)) (wOp X (compareOp op')) (wE X a) (wE X b) (wE X c) σ H Q := by
  refine ha X fx G F env σ H _ _ r h fun r1 env1 F1 H1 x e1 q1 h1 => ?_
  refine hb X fx G F1 env1 σ H1 _ _ e1.r h1 fun r2 env2 F2 H2 y e2 q2 h2 => ?_
  obtain ⟨v, w, g1, g2, h2⟩ := h2
  have q1' := q1.step e1.r e2
  refine ho C X fx G F2 env2 σ H2 v w x y _ _ e2.r (q1'.at e2.r g1) ((q2.back e1).at e2.r g2) h2 fun z F3 H3 zx e3 q3 h3 => ?_
  obtain ⟨k, hk, ht, hf⟩ := h3
  obtain ⟨_, rfl⟩ := rep_B hk q3.rep
  refine ⟨k, rfl, ?_⟩
  have e123 := (e1.trans e2).trans e3
  cases k with
  | false => exact iteF (hQ _ env2 F3 H3 _ e123 (Res.imm (by simp only [RepD])) (hf rfl))
  | true =>
    refine iteT ?_
    refine hc X fx G F3 env2 σ H3 _ _ e3.r (ht rfl) fun r4 env4 F4 H4 u e4 q4 h4 => ?_
    obtain ⟨u', g4, w', g5, h4⟩ := h4
    have q2' := (q2.step e2.r e3).step e3.r e4
    refine ho' C X fx G F4 env4 σ H4 w' u' y u _ _ e4.r (q2'.at e4.r g5) (q4.at e4.r g4) h4 fun z5 F5 H5 x5 e5 q5 h5 => ?_
    have e1234 := e123.trans e4
    exact hQ z5 env4 F5 H5 x5 (e1234.trans e5) (Res.back e1234 q5) h5
theorem so_chain {op op' : CmpOp} {o o' : Opd} (ho : OpS (compareOp op) o) (ho' : OpS (compareOp op') o') (ha : SO C a da) (hb : SO C b db) (hc : SO C c dc) (hm : lastMarks [op, op'] [b, c] = false) :
    SO C (.Compare a [op, op'] [b, c] pos) (dChain o o' da db dc) := by
  intro X fx G F env σ H Q Φ r h hQ
  refine w_of (pe_chain opr_w opr_w pe_w pe_w pe_w hm) ?_
  exact chain_run fx ho ho' ha hb hc r h fun z env' F' H' x e q hz => hQ (.v z) env' F' H' x e q hz
theorem st_chain {op op' : CmpOp} {o o' : Opd} (ho : OpS (compareOp op) o) (ho' : OpS (compareOp op') o') (ha : SO C a da) (hb : SO C b db) (hc : SO C c dc) (hm : lastMarks [op, op'] [b, c] = false) :
    STe C (.Compare a [op, op'] [b, c] pos) (dTst (dChain o o' da db dc)) := by
  intro X fx G F env σ H Q Φ r h hQ
  refine wt_of (pt_chain opr_w opr_w pe_w pe_w pe_w hm) ?_
  exact chain_run fx ho ho' ha hb hc r h fun z env' F' H' x e q hz => by
    obtain ⟨v, g, b, hb', hz⟩ := hz
    cases g
    obtain ⟨_, rfl⟩ := rep_B hb' q.rep
    exact ⟨b, rfl, hQ b env' F' H' e hz⟩

/-! ### and, or, not as values (of bools), a if t else b -/
@[simp] def dAndV (da db : DO) : DO := fun env Φ => da env fun ra env1 => ∃ v, ra.get env1 = some v ∧ ∃ c, toB v = some c ∧ (c = true → db env1 Φ) ∧ (c = false → Φ (.v (.d (.bool false))) env1)
@[simp] def dOrV (da db : DO) : DO := fun env Φ => da env fun ra env1 => ∃ v, ra.get env1 = some v ∧ ∃ c, toB v = some c ∧ (c = true → Φ (.v (.d (.bool true))) env1) ∧ (c = false → db env1 Φ)
theorem so_bo1 {op : BoolOp} (ha : SO C a da) : SO C (.BoolOp op [a] pos) da := by
  intro X fx G F env σ H Q Φ r h hQ
  refine w_of (pe_one pe_w) ?_
  exact ha X fx G F env σ H Q Φ r h hQ
theorem so_and {rest : List Expr} (ha : SO C a da) (hb : SO C (.BoolOp .And (b :: rest) pos) db) : SO C (.BoolOp .And (a :: b :: rest) pos) (dAndV da db) := by
  intro X fx G F env σ H Q Φ r h hQ
  refine w_of (pe_and pe_w pe_w) ?_
  refine ha X fx G F env σ H _ _ r h fun r1 env1 F1 H1 x e1 q1 h1 => ?_
  obtain ⟨v, g, c, hc, ht, hf⟩ := h1
  obtain ⟨_, rfl⟩ := rep_B hc (q1.at e1.r g)
  refine ⟨c, rfl, ?_⟩
  cases c with
  | false => exact iteF (hQ (.v _) env1 F1 H1 _ e1 (Res.imm (by simp only [RepD])) (hf rfl))
  | true => exact iteT (hb X fx G F1 env1 σ H1 _ _ e1.r (ht rfl) fun r2 env2 F2 H2 y e2 q2 h2 => hQ r2 env2 F2 H2 y (e1.trans e2) (q2.back e1) h2)
theorem so_or {rest : List Expr} (ha : SO C a da) (hb : SO C (.BoolOp .Or (b :: rest) pos) db) : SO C (.BoolOp .Or (a :: b :: rest) pos) (dOrV da db) := by
  intro X fx G F env σ H Q Φ r h hQ
  refine w_of (pe_or pe_w pe_w) ?_
  refine ha X fx G F env σ H _ _ r h fun r1 env1 F1 H1 x e1 q1 h1 => ?_
  obtain ⟨v, g, c, hc, ht, hf⟩ := h1
  obtain ⟨_, rfl⟩ := rep_B hc (q1.at e1.r g)
  refine ⟨c, rfl, ?_⟩
  cases c with
  | true => exact iteT (hQ (.v _) env1 F1 H1 _ e1 (Res.imm (by simp only [RepD])) (ht rfl))
  | false => exact iteF (hb X fx G F1 env1 σ H1 _ _ e1.r (hf rfl) fun r2 env2 F2 H2 y e2 q2 h2 => hQ r2 env2 F2 H2 y (e1.trans e2) (q2.back e1) h2)
@[simp] def dNotV (da : DO) : DO := fun env Φ => da env fun ra env1 => ∃ v, ra.get env1 = some v ∧ ∃ c, toB v = some c ∧ Φ (.v (.d (.bool (!c)))) env1
theorem so_not (ha : SO C a da) : SO C (.UnaryOp .Not a pos) (dNotV da) := by
  intro X fx G F env σ H Q Φ r h hQ
  refine w_of (pe_not pe_w) ?_
  refine one fx (Φ := fun v env1 => ∃ c, toB v = some c ∧ Φ (.v (.d (.bool (!c)))) env1) ha r h fun v env2 F2 H2 x e rv h2 => ?_
  obtain ⟨c, hc, h2⟩ := h2
  obtain ⟨_, rfl⟩ := rep_B hc rv
  exact ⟨c, rfl, hQ (.v _) env2 F2 H2 _ e (Res.imm (by simp only [RepD])) h2⟩
@[simp] def dIf (dc : DB) (da db : DO) : DO := fun env Φ => dc env fun k env1 => (k = true → da env1 Φ) ∧ (k = false → db env1 Φ)
theorem so_if {d : DB} (hc : STe C c d) (ha : SO C a da) (hb : SO C b db) : SO C (.IfExp c a b pos) (dIf d da db) := by
  intro X fx G F env σ H Q Φ r h hQ
  refine w_of (pe_ifExp pt_w pe_w pe_w) ?_
  refine hc X fx G F env σ H _ _ r h fun k env1 F1 H1 e1 h1 => ?_
  cases k with
  | true => exact iteT (ha X fx G F1 env1 σ H1 _ _ e1.r (h1.1 rfl) fun r2 env2 F2 H2 y e2 q2 h2 => hQ r2 env2 F2 H2 y (e1.trans e2) (q2.back e1) h2)
  | false => exact iteF (hb X fx G F1 env1 σ H1 _ _ e1.r (h1.2 rfl) fun r2 env2 F2 H2 y e2 q2 h2 => hQ r2 env2 F2 H2 y (e1.trans e2) (q2.back e1) h2)
end

/-! ### argument lists, displays -/
@[simp] def dNil : DA := fun env Φ => Φ [] env
@[simp] def dCons (d : DO) (ds : DA) : DA := fun env Φ => d env fun r env1 => shR r env1 fun v env2 => ds env2 fun vs env3 => Φ (v :: vs) env3
section
variable {C : SC} {e : Expr} {es : List Expr} {d : DO} {ds : DA} {pos : Pos}
theorem RepV.keep {G : Gh} {F F1 : AP1} {env env1 : Env} {σ : L2.St} {H H1 : Hp} {v : Val} {x : V} (r : R G F env σ H) (e : Ext G F env σ H F1 env1 H1) (q : RepV G F H v x) (n : isOwn v = false) : RepV G F1 H1 v x := by
  cases v with
  | d z => exact e.repD r q
  | pot => exact q
  | own _ => cases n
  | odk _ _ => cases n
theorem RepVs.keep {G : Gh} {F F1 : AP1} {env env1 : Env} {σ : L2.St} {H H1 : Hp} (r : R G F env σ H) (e : Ext G F env σ H F1 env1 H1) : ∀ {vs : List Val} {xs : List V}, RepVs G F H vs xs → RepVs G F1 H1 vs xs
  | [], _, h => h
  | v :: vs, _, h => by
    obtain ⟨x, t, e0, ⟨h1, h2⟩, h3⟩ := h
    exact ⟨x, t, e0, ⟨RepV.keep r e h1 h2, h2⟩, RepVs.keep r e h3⟩
theorem sa_nil : SA C [] dNil := by
  intro X fx G F env σ H Q Φ r h hQ
  exact wa_of pa_nil (hQ [] env F H [] (.refl r) rfl h)
theorem sa_cons (hd : SO C e d) (hs : SA C es ds) (st : ∀ env, starEach (e :: es) env = (false, eval e env) :: starEach es env) : SA C (e :: es) (dCons d ds) := by
  intro X fx G F env σ H Q Φ r h hQ
  refine wa_of (pa_cons pe_w pa_w (st X.env)) ?_
  refine hd X fx G F env σ H _ _ r h fun r1 env1 F1 H1 x e1 q1 h1 => ?_
  obtain ⟨F2, env2, v, e2, g2, rv, no, h2⟩ := share e1 q1 h1
  refine hs X fx G F2 env2 σ H1 _ _ e2.r h2 fun vs env3 F3 H3 xs e3 rs h3 => ?_
  exact hQ (v :: vs) env3 F3 H3 (x :: xs) (e2.trans e3) ⟨x, xs, rfl, ⟨RepV.keep e2.r e3 rv no, no⟩, rs⟩ h3
/-- the data of shared values -/
def datas : List Val → Option (List PyData)
  | [] => some []
  | .d x :: r => (datas r).map fun t => x :: t
  | _ :: _ => none
theorem rep_datas {G : Gh} {F : AP1} {H : Hp} : ∀ {vs : List Val} {xs : List V} {zs : List PyData}, datas vs = some zs → RepVs G F H vs xs → RepAll F H zs xs
  | [], _, _, h, r => by cases h; cases r; exact .nil
  | .d x :: vs, _, zs, h, r => by
    obtain ⟨y, t, rfl, ⟨h1, _⟩, h3⟩ := r
    have h : (datas vs).map (fun t => x :: t) = some zs := h
    obtain ⟨ts, h4, rfl⟩ := Option.map_eq_some_iff.mp h
    exact .cons h1 (rep_datas h4 h3)
  | .own _ :: _, _, _, h, _ => by cases h
  | .odk _ _ :: _, _, _, h, _ => by cases h
  | .pot :: _, _, _, h, _ => by cases h
@[simp] def dTup (ds : DA) : DO := fun env Φ => ds env fun vs env1 => ∃ zs, datas vs = some zs ∧ zs.length ≤ 16777216 ∧ Φ (.v (.d (.tuple zs))) env1
@[simp] def dLst (ds : DA) : DO := fun env Φ => ds env fun vs env1 => ∃ zs, datas vs = some zs ∧ zs.length ≤ 16777216 ∧ Φ (.v (.own zs)) env1
theorem so_tup {k : Nat} (hs : SA C es ds) : SO C (.Tuple es k pos) (dTup ds) := by
  intro X fx G F env σ H Q Φ r h hQ
  refine w_of (pe_tup pa_w) ?_
  refine hs X fx G F env σ H _ _ r h fun vs env1 F1 H1 xs e1 rs h1 => ?_
  obtain ⟨zs, hz, hl, h1⟩ := h1
  have rr := rep_datas hz rs
  refine ⟨by rw [rr.length, sizeLine_eq]; exact hl, fun p hp => ?_⟩
  obtain ⟨e2, q2⟩ := res_tup e1.r hp rr
  exact hQ (.v _) env1 _ _ _ (e1.trans e2) (Res.back e1 q2) h1
theorem so_lst (hs : SA C es ds) : SO C (.List es pos) (dLst ds) := by
  intro X fx G F env σ H Q Φ r h hQ
  refine w_of (pe_lst pa_w) ?_
  refine hs X fx G F env σ H _ _ r h fun vs env1 F1 H1 xs e1 rs h1 => ?_
  obtain ⟨zs, hz, hl, h1⟩ := h1
  have rr := rep_datas hz rs
  refine ⟨by rw [rr.length, sizeLine_eq]; exact hl, fun p hp => ?_⟩
  obtain ⟨e2, q2⟩ := res_own e1.r hp rr
  exact hQ (.v _) env1 _ _ _ (e1.trans e2) (Res.back e1 q2) h1

/-! ### calls of defs -/
theorem Ext.call {G : Gh} {F F' : AP1} {env : Env} {σ : L2.St} {H H' : Hp} (r : R G F env σ H) (c : CEnd G F H F' H') : Ext G F env σ H F' env H' := by
  have st : ∀ a o, F a → H a = some o → H' a = some o := fun a o f h => c.keep a o h fun z => r.potF z f
  have ow : ∀ a, OwnS env σ a → ¬ F' a := fun a o f => by
    rcases c.fro a f with z | z | ⟨xs, z⟩
    · exact r.ownF o z
    · exact r.freshO z o
    · exact r.ownT o z
  refine ⟨⟨r.len, fun i v e => ?_, r.sep, c.al, fun p g e => ?_⟩, fun a o h _ n => c.keep a o h n, c.live, c.grow, fun a h => (c.fro a h).imp id .inr, fun _ h => h⟩
  · obtain ⟨x, sx, rv⟩ := r.rep i v e
    refine ⟨x, sx, ?_⟩
    cases v with
    | d z => exact RepD.mono c.grow st _ _ rv
    | pot => exact rv
    | own xs =>
      obtain ⟨a, vs, ea, n, ha, rr⟩ := rv
      subst ea
      have oa : OwnS env σ a := ⟨i, _, e, rfl, sx⟩
      exact ⟨a, vs, rfl, ow a oa, c.keep a _ ha fun z => r.potO z oa, RepAll.mono c.grow st _ _ rr⟩
    | odk b kvs =>
      obtain ⟨a, vs, ob, ea, n, rr, ha, ho⟩ := rv
      subst ea
      have oa : OwnS env σ a := ⟨i, _, e, rfl, sx⟩
      exact ⟨a, vs, ob, rfl, ow a oa, RepAll.mono c.grow st _ _ rr, c.keep a _ ha fun z => r.potO z oa, ho⟩
  · obtain ⟨h1, h2, h3, h4⟩ := r.pt p g e
    have nf : ∀ a, InPot G a → ¬ F' a := fun a z f => by
      rcases c.fro a f with y | y | ⟨xs, y⟩
      · exact r.potF z y
      · exact r.freshP y z
      · exact r.potT z y
    exact ⟨c.pt p g e, nf p ⟨p, g, e, .inl rfl⟩, nf g ⟨p, g, e, .inr rfl⟩, h4⟩
theorem RepVs.len {G : Gh} {F : AP1} {H : Hp} : ∀ {vs : List Val} {xs : List V}, RepVs G F H vs xs → xs.length = vs.length
  | [], _, h => by cases h; rfl
  | v :: vs, _, h => by obtain ⟨x, t, rfl, _, h3⟩ := h; simp [RepVs.len h3]
@[simp] def dCall (n : Nat) (sp : FSpec) (ds : DA) : DO := fun env Φ => ds env fun vs env1 => vs.length = n ∧ sp vs fun z => Φ (.v z) env1
theorem call_run {X : Cx} {n : Nat} {sp : FSpec} {G : Gh} {F1 : AP1} {env env1 : Env} {F : AP1} {σ : L2.St} {H H1 : Hp} {Q : VK} {Φ : Rv → Env → Prop} {vs : List Val} {xs : List V} (e1 : Ext G F env σ H F1 env1 H1)
    (rs : RepVs G F1 H1 vs xs) (h1 : vs.length = n ∧ sp vs fun z => Φ (.v z) env1) (hQ : ∀ z env' F' H' x, Ext G F env σ H F' env' H' → Res G env σ H F' env' H' z x → Φ (.v z) env' → Q x H') : spV n sp xs H1 Q E0 := by
  obtain ⟨hl, h1⟩ := h1
  refine ⟨rs.len.trans hl, G, F1, vs, fun z => Φ (.v z) env1, ⟨e1.r.al, fun p g e => ?_⟩, rs, h1, fun v F' H' x ce cr hv => ?_⟩
  · obtain ⟨a1, a2, a3, _⟩ := e1.r.pt p g e
    exact ⟨a1, a2, a3⟩
  · have e2 := Ext.call e1.r ce
    refine hQ v env1 F' H' x (e1.trans e2) (Res.back e1 ⟨cr.rep, fun ho a ea => ?_⟩) hv
    obtain ⟨n1, n2⟩ := cr.one ho a ea
    exact ⟨.inr n1, e1.r.freshO n1, n2⟩
theorem so_call {f : FnS} {p : Pos} (hf : f ∈ C.fns) (hg : C.sc.names.lookup f.name = some .globalImplicit) (hs : SA C (e :: es) ds) (hdb : (f.name == ("__debug__" : Str)) = false)
    (st : ∀ env, starEach (e :: es) env = (false, eval e env) :: starEach es env) (hpl : ∀ env, (backTo pos (starEach es env)).any (·.1) = false) : SO C (.Call (.Name f.name p) (e :: es) [] pos) (dCall f.ps.length f.sp ds) := by
  intro X fx G F env σ H Q Φ r h hQ
  obtain ⟨k, a, fd, FO, hr, hm, hk, hb, _⟩ := (fx.fns f hf).ex
  refine w_of (pe_call FO hr (gl_of fx hg) hm hk hb .nil pass0 pa_w hdb (st X.env) (hpl X.env)) ?_
  refine hs X fx G F env σ H _ _ r h fun vs env1 F1 H1 xs e1 rs h1 => ?_
  show spV f.ps.length f.sp (xs ++ []) H1 Q E0
  rw [List.append_nil]
  exact call_run (X := X) e1 rs h1 fun z env' F' H' x e q hz => hQ (.v z) env' F' H' x e q hz
end

/-! ### subscripts -/
section
variable (X : Cx)
def wIx (a b : Expr) : R2 := fun x y H Q => ∀ (pins : List (Addr × Obj)) (s : Shared) (σ : L2.St) (v u : Value), Inv X pins σ H s → RelV x v → RelV y u → wpAny (model X.prog X.w) X.A (subscriptTail a b v u) (EP X pins σ Q) X.xe s
variable {X}
theorem pe_ixw {a b : Expr} {pos : Pos} : PE X (.Subscript a b pos) (tOp (wIx X a b) (wE X a) (wE X b)) :=
  ⟨fun pins s σ H Q I h => Subscript_ (binT pe_w pe_w I h fun v u s2 x y H2 I2 rx ry q => q pins s2 σ v u I2 rx ry)⟩
theorem wix_of {a b : Expr} {r : R2} {x y : V} {H : Hp} {Q : VK} (h : IxR X r) (hs : PlainIx b) (q : r x y H Q) : wIx X a b x y H Q := fun pins s σ v u I rx ry => h a b pins s σ H x y v u Q I rx ry q (hs _ _)
end
def dLook (kvs : List (PyData × PyData)) (k : PyData) : Option PyData := (kvs.find? fun p => PyData.eqv p.1 k).map (·.2)
@[simp] def oIxS : Opd := fun v w Φ => ∃ xs i d, toS v = some xs ∧ toI w = some i ∧ atI xs i = some d ∧ Φ (.d d)
theorem atI_rep {F : AP1} {H : Hp} {xs : List PyData} {vs : List V} {i : Int} {d : PyData} (r : RepAll F H xs vs) (h : atI xs i = some d) : ∃ v, atI vs i = some v ∧ RepD F H d v := by
  unfold atI at h ⊢
  rw [r.length]
  obtain ⟨j, h1, h2⟩ := Option.bind_eq_some_iff.mp h
  obtain ⟨v, h3, h4⟩ := r.get h2
  exact ⟨v, by rw [h1]; exact h3, h4⟩
section
variable {C : SC} {a b : Expr} {da db : DO} {pos : Pos}
theorem so_ix (ha : SO C a da) (hb : SO C b db) (hs : PlainIx b) : SO C (.Subscript a b pos) (dBin oIxS da db) := by
  intro X fx G F env σ H Q Φ r h hQ
  refine w_of pe_ixw ?_
  refine two fx (Φ := fun v w env2 => oIxS v w fun z => Φ (.v z) env2) ha hb r h fun v w env2 F2 H2 x y e rv rw' h2 => ?_
  obtain ⟨xs, i, d, h1, h3, h4, h2⟩ := h2
  obtain ⟨c, vs, rfl, hc, rc⟩ := rep_S h1 rv
  obtain ⟨_, rfl⟩ := rep_I h3 rw'
  obtain ⟨z, h5, h6⟩ := atI_rep rc h4
  have fin := hQ (.v (.d d)) env2 F2 H2 z e (Res.imm h6) h2
  rcases hc with hc | hc
  · exact wix_of ix_list hs ⟨c, vs, i, z, rfl, rfl, SqL.of hc, h5, fin⟩
  · exact wix_of ix_tup hs ⟨c, vs, i, z, rfl, rfl, SqT.of hc, h5, fin⟩
end

/-! ### slices -/
def cutD (xs : List PyData) (lo hi : Option Int) : List PyData := (xs.drop (HT.sIx xs.length 0 lo)).take (HT.sIx xs.length xs.length hi - HT.sIx xs.length 0 lo)
theorem RepAll.cut {F : AP1} {H : Hp} {xs : List PyData} {vs : List V} (r : RepAll F H xs vs) (lo hi : Option Int) : RepAll F H (cutD xs lo hi) (cutV vs lo hi) := by
  unfold cutD cutV
  rw [r.length]
  exact (r.drop _).take _
abbrev DP := Env → (Option Int → Env → Prop) → Prop
def SP' (C : SC) (e : Option Expr) (d : DP) : Prop := ∀ (X : Cx), Fits C X → ∀ (G : Gh) (F : AP1) (env : Env) (σ : L2.St) (H : Hp) (Q : Option Int → Hp → Prop) (Φ : Option Int → Env → Prop), R G F env σ H → d env Φ →
  (∀ o env' F' H', Ext G F env σ H F' env' H' → Φ o env' → Q o H') → ∃ t, PO X e t ∧ t σ H Q
@[simp] def dNoP : DP := fun env Φ => Φ none env
@[simp] def dSomeP (d : DO) : DP := fun env Φ => d env fun r env1 => ∃ v, r.get env1 = some v ∧ ∃ i, toI v = some i ∧ Φ (some i) env1
section
variable {C : SC} {a : Expr} {lo hi : Option Expr} {da d : DO} {dl dh : DP} {pos p2 : Pos}
theorem sp_none : SP' C none dNoP := by
  intro X fx G F env σ H Q Φ r h hQ
  exact ⟨_, po_none, hQ none env F H (.refl r) h⟩
theorem sp_some (ha : SO C a d) : SP' C (some a) (dSomeP d) := by
  intro X fx G F env σ H Q Φ r h hQ
  refine ⟨_, po_some pe_w, ?_⟩
  refine one fx (Φ := fun v env1 => ∃ i, toI v = some i ∧ Φ (some i) env1) ha r h fun v env2 F2 H2 x e rv h2 => ?_
  obtain ⟨i, e1, h2⟩ := h2
  obtain ⟨_, rfl⟩ := rep_I e1 rv
  exact ⟨i, rfl, hQ (some i) env2 F2 H2 e h2⟩
def wO (X : Cx) (e : Option Expr) : TO := fun σ H Q => ∃ t, PO X e t ∧ t σ H Q
theorem po_w {X : Cx} {e : Option Expr} : PO X e (wO X e) := ⟨fun pins s σ H Q I h => let ⟨t, ht, q⟩ := h; ht.run pins s σ H Q I q⟩
def oSl (v : Val) (lo hi : Option Int) (Φ : Val → Prop) : Prop := (∃ xs, toL v = some xs ∧ Φ (.own (cutD xs lo hi))) ∨ ∃ xs, toT v = some xs ∧ Φ (.d (.tuple (cutD xs lo hi)))
@[simp] def dSl (da : DO) (dl dh : DP) : DO := fun env Φ => da env fun ra env1 => dl env1 fun l env2 => dh env2 fun u env3 => ∃ v, ra.get env3 = some v ∧ oSl v l u fun z => Φ (.v z) env3
theorem so_sl (ha : SO C a da) (hl : SP' C lo dl) (hh : SP' C hi dh) : SO C (.Subscript a (.Slice lo hi none p2) pos) (dSl da dl dh) := by
  intro X fx G F env σ H Q Φ r h hQ
  refine w_of (pe_slice (sl_list.or sl_tupA) pe_w po_w po_w) ?_
  refine ha X fx G F env σ H _ _ r h fun r1 env1 F1 H1 x e1 q1 h1 => ?_
  refine hl X fx G F1 env1 σ H1 _ _ e1.r h1 fun l env2 F2 H2 e2 h2 => ?_
  refine hh X fx G F2 env2 σ H2 _ _ e2.r h2 fun u env3 F3 H3 e3 h3 => ?_
  obtain ⟨v, g, h3⟩ := h3
  have rv := ((q1.step e1.r e2).step e2.r e3).at e3.r g
  have e123 := (e1.trans e2).trans e3
  rcases h3 with ⟨xs, hx, h3⟩ | ⟨xs, hx, h3⟩
  · obtain ⟨c, vs, rfl, hc, rc⟩ := rep_L hx rv
    refine .inl ⟨c, vs, rfl, SqL.of hc, fun p hp => ?_⟩
    obtain ⟨e4, q4⟩ := res_own e3.r hp (rc.cut l u)
    exact hQ (.v _) env3 _ _ _ (e123.trans e4) (Res.back e123 q4) h3
  · obtain ⟨c, vs, rfl, hc, rc, fc⟩ := rep_T hx rv
    refine .inr ⟨c, vs, rfl, SqT.of hc, fun hw => ?_, fun hw p hp => ?_⟩
    · rw [rc.length] at hw
      have e0 : cutD xs l u = xs := by
        unfold cutD
        rw [hw.1, hw.2, List.drop_zero, Nat.sub_zero, List.take_length]
      refine hQ (.v _) env3 F3 H3 _ e123 (Res.imm (z := .tuple (cutD xs l u)) ?_) h3
      rw [e0]
      simp only [RepD]
      exact ⟨c, vs, rfl, fc, hc, rc⟩
    · obtain ⟨e4, q4⟩ := res_tup e3.r hp (rc.cut l u)
      exact hQ (.v _) env3 _ _ _ (e123.trans e4) (Res.back e123 q4) h3
@[simp] def oRev (v : Val) (Φ : Val → Prop) : Prop := (∃ xs, toL v = some xs ∧ Φ (.own xs.reverse)) ∨ ∃ xs, toT v = some xs ∧ Φ (.d (.tuple xs.reverse))
theorem so_revL {k : Nat} {p1 p3 p4 : Pos} (ha : SO C a da) : SO C (.Subscript a (.Slice none none (some (.UnaryOp .USub (.Constant (.int 1) k p1) p3)) p4) pos) (dUn oRev da) := by
  intro X fx G F env σ H Q Φ r h hQ
  refine w_of (pe_revA pe_w) ?_
  refine one fx (Φ := fun v env1 => oRev v fun z => Φ (.v z) env1) ha r h fun v env2 F2 H2 x e rv h2 => ?_
  rcases h2 with ⟨xs, hx, h2⟩ | ⟨xs, hx, h2⟩
  · obtain ⟨c, vs, rfl, hc, rc⟩ := rep_L hx rv
    refine ⟨c, vs, rfl, .inl ⟨SqL.of hc, fun p hp => ?_⟩⟩
    obtain ⟨e4, q4⟩ := res_own e.r hp rc.reverse
    exact hQ (.v _) env2 _ _ _ (e.trans e4) (Res.back e q4) h2
  · obtain ⟨c, vs, rfl, hc, rc, _⟩ := rep_T hx rv
    refine ⟨c, vs, rfl, .inr ⟨SqT.of hc, fun p hp => ?_⟩⟩
    obtain ⟨e4, q4⟩ := res_tup e.r hp rc.reverse
    exact hQ (.v _) env2 _ _ _ (e.trans e4) (Res.back e q4) h2
end
end Ev
set_option Elab.async false
set_option linter.all false
set_option maxRecDepth 100000
/-! Ev5: statements. -/
namespace Ev
open PySem PySem.Spec PyProof.Rows L2

structure KE where
  nx : Env → Prop
  rt : Val → Prop
  bk : Env → Prop
  ct : Env → Prop
abbrev DS := KE → Env → Prop

/-- how a frame stands since the def's entry -/
structure RS (G : Gh) (F0 : AP1) (H0 : Hp) (F : AP1) (env : Env) (σ : L2.St) (H : Hp) : Prop where
  r : R G F env σ H
  keep : ∀ a o, H0 a = some o → ¬ InPot G a → H a = some o
  live : ∀ a o, H0 a = some o → ∃ o', H a = some o'
  grow : ∀ a, F0 a → F a
  fro : ∀ a, F a → F0 a ∨ H0 a = none ∨ ∃ xs, H0 a = some (.tup xs)
  own : ∀ a, OwnS env σ a → H0 a = none
/-- later -/
structure Lt (F : AP1) (H : Hp) (F' : AP1) (H' : Hp) : Prop where
  grow : ∀ a, F a → F' a
  stab : ∀ a o, F a → H a = some o → H' a = some o
theorem Lt.refl {F : AP1} {H : Hp} : Lt F H F H := ⟨fun _ h => h, fun _ _ _ h => h⟩
theorem Lt.trans {F F1 F2 : AP1} {H H1 H2 : Hp} (a : Lt F H F1 H1) (b : Lt F1 H1 F2 H2) : Lt F H F2 H2 :=
  ⟨fun c h => b.grow c (a.grow c h), fun c o f h => b.stab c o (a.grow c f) (a.stab c o f h)⟩
structure KOk (G : Gh) (F0 : AP1) (H0 : Hp) (F : AP1) (H : Hp) (K : KE) (D : Ends) : Prop where
  nx : ∀ env' F' σ' H', RS G F0 H0 F' env' σ' H' → Lt F H F' H' → K.nx env' → D.nx σ' H'
  bk : ∀ env' F' σ' H', RS G F0 H0 F' env' σ' H' → Lt F H F' H' → K.bk env' → D.bk σ' H'
  ct : ∀ env' F' σ' H', RS G F0 H0 F' env' σ' H' → Lt F H F' H' → K.ct env' → D.ct σ' H'
  rt : ∀ v F' H' x, CEnd G F0 H0 F' H' → CRes G H0 F' H' v x → K.rt v → D.rt x H'
theorem KOk.later {G : Gh} {F0 : AP1} {H0 : Hp} {F F1 : AP1} {H H1 : Hp} {K : KE} {D : Ends} (k : KOk G F0 H0 F H K D) (l : Lt F H F1 H1) : KOk G F0 H0 F1 H1 K D :=
  ⟨fun e F' σ' H' r l' => k.nx e F' σ' H' r (l.trans l'), fun e F' σ' H' r l' => k.bk e F' σ' H' r (l.trans l'), fun e F' σ' H' r l' => k.ct e F' σ' H' r (l.trans l'), k.rt⟩
def SS (C : SC) (st : Stmt) (d : DS) : Prop := ∀ (X : Cx), Fits C X → ∀ (G : Gh) (F0 : AP1) (H0 : Hp) (F : AP1) (env : Env) (σ : L2.St) (H : Hp) (D : Ends) (K : KE), RS G F0 H0 F env σ H → d K env → KOk G F0 H0 F H K D → wS X st D σ H
def SB (C : SC) (st : List Stmt) (d : DS) : Prop := ∀ (X : Cx), Fits C X → ∀ (G : Gh) (F0 : AP1) (H0 : Hp) (F : AP1) (env : Env) (σ : L2.St) (H : Hp) (D : Ends) (K : KE), RS G F0 H0 F env σ H → d K env → KOk G F0 H0 F H K D → wB X st D σ H

section
variable {G : Gh} {F0 F F1 : AP1} {H0 H H1 : Hp} {env env1 : Env} {σ : L2.St} {v : Val} {x : V}
theorem Ext.lt (r : R G F env σ H) (e : Ext G F env σ H F1 env1 H1) : Lt F H F1 H1 := ⟨e.grow, e.stab r⟩
theorem RS.free (s : RS G F0 H0 F env σ H) {a : Addr} (h : H a = none) : H0 a = none := by
  cases q : H0 a with
  | none => rfl
  | some o => obtain ⟨o', e⟩ := s.live a o q; rw [h] at e; cases e
theorem RS.step (s : RS G F0 H0 F env σ H) (e : Ext G F env σ H F1 env1 H1) : RS G F0 H0 F1 env1 σ H1 where
  r := e.r
  keep := fun a o h n => e.keep a o (s.keep a o h n) (fun z => by have := s.own a z; rw [this] at h; cases h) n
  live := fun a o h => let ⟨o1, h1⟩ := s.live a o h; e.live a o1 h1
  grow := fun a h => e.grow a (s.grow a h)
  fro := fun a h => by
    rcases e.fro a h with z | z | z | ⟨xs, z⟩
    · exact s.fro a z
    · exact .inr (.inl (s.own a z))
    · exact .inr (.inl (s.free z))
    · cases q : H0 a with
      | none => exact .inr (.inl rfl)
      | some o =>
        by_cases hp : InPot G a
        · exact (s.r.potT hp z).elim
        · have := s.keep a o q hp
          rw [z] at this; cases this
          exact .inr (.inr ⟨xs, rfl⟩)
  own := fun a h => s.own a (e.ownd a h)
theorem RS.cend (s : RS G F0 H0 F env σ H) : CEnd G F0 H0 F H := ⟨s.keep, s.live, s.grow, s.fro, s.r.al, fun p g e => (s.r.pt p g e).1⟩
theorem RS.cres (s : RS G F0 H0 F env σ H) {env' : Env} {F' : AP1} {H' : Hp} (q : Res G env σ H F' env' H' v x) : CRes G H0 F' H' v x :=
  ⟨q.rep, fun ho a ea => by
    obtain ⟨o1, _, o3⟩ := q.one ho a ea
    exact ⟨o1.elim (s.own a) s.free, o3⟩⟩
/-- a name holds a value from now on -/
theorem R.put (r1 : R G F1 env1 σ H1) {i : Nat} (hi : i < env1.length) (rv : RepV G F1 H1 v x) (no : isOwn v = true → ∀ a, x = .ref a → ¬ OwnS env1 σ a ∧ ¬ InPot G a) :
    R G F1 (env1.set i (some v)) (σ.set i (some x)) H1 := by
  have gt : ∀ (j : Nat) (w : Val), (env1.set i (some v))[j]? = some (some w) → ∀ y, (σ.set i (some x))[j]? = some (some y) → (j = i ∧ w = v ∧ y = x) ∨ (j ≠ i ∧ env1[j]? = some (some w) ∧ σ[j]? = some (some y)) := fun j w ej y sj => by
    by_cases e : i = j
    · subst e
      rw [List.getElem?_set_self hi] at ej
      rw [List.getElem?_set_self (by rw [← r1.len]; exact hi)] at sj
      cases ej; cases sj
      exact .inl ⟨rfl, rfl, rfl⟩
    · rw [List.getElem?_set_ne e] at ej sj
      exact .inr ⟨fun z => e z.symm, ej, sj⟩
  refine ⟨by simp [r1.len], fun j w ej => ?_, fun j k w u c ej ek ow ou sj sk => ?_, r1.al, fun p g eg => ?_⟩
  · rcases setEnv_get ej with ⟨rfl, rfl⟩ | ⟨ne, ej⟩
    · exact ⟨x, by rw [List.getElem?_set_self (by rw [← r1.len]; exact hi)], rv⟩
    · obtain ⟨y, sy, ry⟩ := r1.rep j w ej
      exact ⟨y, by rw [List.getElem?_set_ne (fun z => ne z.symm)]; exact sy, ry⟩
  · rcases gt j w ej _ sj with ⟨j1, w1, e1⟩ | ⟨n1, ej1, sj1⟩
    · rcases gt k u ek _ sk with ⟨k1, u1, e2⟩ | ⟨n2, ek1, sk1⟩
      · rw [j1, k1]
      · exact ((no (w1 ▸ ow) c e1.symm).1 ⟨k, u, ek1, ou, sk1⟩).elim
    · rcases gt k u ek _ sk with ⟨k1, u1, e2⟩ | ⟨n2, ek1, sk1⟩
      · exact ((no (u1 ▸ ou) c e2.symm).1 ⟨j, w, ej1, ow, sj1⟩).elim
      · exact r1.sep j k w u c ej1 ek1 ow ou sj1 sk1
  · obtain ⟨h1, h2, h3, h4⟩ := r1.pt p g eg
    refine ⟨h1, h2, h3, fun c ⟨j, w, ej, ow, sj⟩ => ?_⟩
    rcases gt j w ej _ sj with ⟨rfl, rfl, e1⟩ | ⟨n1, ej, sj⟩
    · have n := (no ow c e1.symm).2
      exact ⟨fun z => n ⟨p, g, eg, .inl z⟩, fun z => n ⟨p, g, eg, .inr z⟩⟩
    · exact h4 c ⟨j, w, ej, ow, sj⟩
theorem OwnS.put {i : Nat} {c : Addr} (h : OwnS (env1.set i (some v)) (σ.set i (some x)) c) : OwnS env1 σ c ∨ (isOwn v = true ∧ x = .ref c) := by
  obtain ⟨j, w, ej, ow, sj⟩ := h
  rcases setEnv_get ej with ⟨rfl, rfl⟩ | ⟨ne, ej⟩
  · by_cases hl : j < σ.length
    · rw [List.getElem?_set_self hl] at sj; cases sj; exact .inr ⟨ow, rfl⟩
    · rw [List.getElem?_eq_none (by simpa using hl)] at sj; cases sj
  · rw [List.getElem?_set_ne (fun z => ne z.symm)] at sj
    exact .inl ⟨j, w, ej, ow, sj⟩
theorem RS.put (s : RS G F0 H0 F env σ H) (e : Ext G F env σ H F1 env1 H1) (q : Res G env σ H F1 env1 H1 v x) {i : Nat} (hi : i < env1.length) : RS G F0 H0 F1 (env1.set i (some v)) (σ.set i (some x)) H1 := by
  have s1 := s.step e
  refine ⟨e.r.put hi q.rep fun ho a ea => ⟨(q.one ho a ea).2.1, (q.one ho a ea).2.2⟩, s1.keep, s1.live, s1.grow, s1.fro, fun a h => ?_⟩
  rcases h.put with h | ⟨ho, ea⟩
  · exact s1.own a h
  · exact (q.one ho a ea).1.elim (s.own a) s.free
end

/-! ### moving a value: one's own stays one's own -/
@[simp] def mvR : Rv → Env → (Val → Env → Prop) → Prop
  | .v x, env, Φ => Φ x env
  | .s i, env, Φ => shR (.s i) env Φ
theorem move {G : Gh} {F F1 : AP1} {env env1 : Env} {σ : L2.St} {H H1 : Hp} {x : V} {r : Rv} {Φ : Val → Env → Prop} (e1 : Ext G F env σ H F1 env1 H1) (q : ResR G env σ H F1 env1 H1 r x) (h : mvR r env1 Φ) :
    ∃ F2 env2 v, Ext G F env σ H F2 env2 H1 ∧ Res G env σ H F2 env2 H1 v x ∧ Φ v env2 := by
  cases r with
  | v z => exact ⟨F1, env1, z, e1, q, h⟩
  | s i =>
    obtain ⟨F2, env2, v, e2, _, rv, no, h2⟩ := share e1 q h
    exact ⟨F2, env2, v, e2, ⟨rv, fun ho => by rw [no] at ho; cases ho⟩, h2⟩

/-! ### blocks -/
section
variable {C : SC} {st : Stmt} {rest : List Stmt} {d e : DS} {pos : Pos}
@[simp] def dNext : DS := fun K env => K.nx env
@[simp] def dSeq (d e : DS) : DS := fun K env => d { K with nx := e K } env
theorem sb_nil : SB C [] dNext := by
  intro X fx G F0 H0 F env σ H D K r h k
  exact wb_of pss_nil (k.nx env F σ H r .refl h)
theorem sb_one (h1 : SS C st d) : SB C [st] d := by
  intro X fx G F0 H0 F env σ H D K r h k
  exact wb_of (pss_one ps_w) (h1 X fx G F0 H0 F env σ H D K r h k)
theorem sb_cons (h1 : SS C st d) (h2 : SB C rest e) : SB C (st :: rest) (dSeq d e) := by
  intro X fx G F0 H0 F env σ H D K r h k
  refine wb_of (pss_cons ps_w pb_w) ?_
  exact h1 X fx G F0 H0 F env σ H _ _ r h ⟨fun env' F' σ' H' r' l hn => h2 X fx G F0 H0 F' env' σ' H' D K r' hn (k.later l), k.bk, k.ct, k.rt⟩
@[simp] def dPass : DS := fun K env => K.nx env
theorem ss_pass : SS C (.Pass pos) dPass := by
  intro X fx G F0 H0 F env σ H D K r h k
  exact ws_of ps_pass (k.nx env F σ H r .refl h)
@[simp] def dBreak : DS := fun K env => K.bk env
theorem ss_break : SS C (.Break pos) dBreak := by
  intro X fx G F0 H0 F env σ H D K r h k
  exact ws_of ps_break (k.bk env F σ H r .refl h)
@[simp] def dCont : DS := fun K env => K.ct env
theorem ss_cont : SS C (.Continue pos) dCont := by
  intro X fx G F0 H0 F env σ H D K r h k
  exact ws_of ps_continue (k.ct env F σ H r .refl h)
def dNever : DS := fun _ _ => False
theorem ss_never : SS C st dNever := by
  intro X fx G F0 H0 F env σ H D K r h k
  exact h.elim
variable {a c : Expr} {da : DO} {dc : DB} {B1 B2 : List Stmt}
@[simp] def dIfS (c : DB) (d e : DS) : DS := fun K env => c env fun b env1 => (b = true → d K env1) ∧ (b = false → e K env1)
theorem ss_if (hc : STe C c dc) (h1 : SB C B1 d) (h2 : SB C B2 e) : SS C (.If c B1 B2 pos) (dIfS dc d e) := by
  intro X fx G F0 H0 F env σ H D K r h k
  refine ws_of (ps_if pt_w pb_w pb_w) ?_
  refine hc X fx G F env σ H _ _ r.r h fun b env1 F1 H1 e1 q => ?_
  cases b with
  | true => exact iteT (h1 X fx G F0 H0 F1 env1 σ H1 D K (r.step e1) (q.1 rfl) (k.later (e1.lt r.r)))
  | false => exact iteF (h2 X fx G F0 H0 F1 env1 σ H1 D K (r.step e1) (q.2 rfl) (k.later (e1.lt r.r)))
@[simp] def dExpr (da : DO) : DS := fun K env => da env fun _ env1 => K.nx env1
theorem ss_expr (ha : SO C a da) (hs : ∀ env, swapsWith a none pos.line env = pure false) : SS C (.Expr a pos) (dExpr da) := by
  intro X fx G F0 H0 F env σ H D K r h k
  refine ws_of (ps_expr pe_w (hs X.env)) ?_
  exact ha X fx G F env σ H _ _ r.r h fun r1 env1 F1 H1 x e1 q1 h1 => k.nx env1 F1 σ H1 (r.step e1) (e1.lt r.r) h1
@[simp] def dRet (da : DO) : DS := fun K env => da env fun ra env1 => ∃ v, ra.get env1 = some v ∧ K.rt v
theorem ss_ret (ha : SO C a da) : SS C (.Return (some a) pos) (dRet da) := by
  intro X fx G F0 H0 F env σ H D K r h k
  refine ws_of (ps_ret pe_w) ?_
  refine ha X fx G F env σ H _ _ r.r h fun r1 env1 F1 H1 x e1 q1 h1 => ?_
  obtain ⟨v, g, h1⟩ := h1
  have s1 := r.step e1
  refine k.rt v F1 H1 x s1.cend ?_ h1
  cases r1 with
  | v z => cases g; exact r.cres q1
  | s i =>
    refine ⟨q1.at e1.r g, fun ho b eb => ?_⟩
    subst eb
    have ob : OwnS env1 σ b := ⟨i, v, get_s g, ho, q1⟩
    exact ⟨s1.own b ob, fun z => e1.r.potO z ob⟩
@[simp] def dRetN : DS := fun K env => K.rt (.d .none)
theorem ss_retN : SS C (.Return none pos) dRetN := by
  intro X fx G F0 H0 F env σ H D K r h k
  refine ws_of ps_retN ?_
  exact k.rt (.d .none) F H _ r.cend ⟨(by show RepD F H .none _; simp only [RepD]), fun ho => by cases ho⟩ h

/-! ### stores to names -/
@[simp] def dSet (i : Nat) (da : DO) : DS := fun K env => da env fun ra env1 => mvR ra env1 fun v env2 => i < env2.length ∧ K.nx (env2.set i (some v))
/-- a name that the block itself stores -/
def LocC (C : SC) (x : Str) : Prop := Loc C.sc x ∧ (C.sc.names.lookup x = some .local ∨ x ∈ C.own)
theorem fn_of' {X : Cx} (fx : Fits C X) {x : Str} (hx : LocC C x) : X.fn x = true ∨ X.env.scope.names.lookup x = some .local := by
  rcases hx.2 with h | h
  · exact .inr (by rw [fx.sc]; exact h)
  · exact .inl (fx.fn x h)
theorem ss_set {i : Nat} {x : Str} {p : Pos} (hi : C.N[i]? = some x) (hx : LocC C x) (ha : SO C a da) (hs : ∀ env, env.scope = C.sc → swapsWith a (some (.Name x p)) pos.line env = pure false) : SS C (.Assign [.Name x p] a pos) (dSet i da) := by
  intro X fx G F0 H0 F env σ H D K r h k
  refine ws_of (ps_set (i := i) fx.nd (by rw [fx.n]; exact hi) (by rw [fx.sc]; exact hx.1) pe_w (hs X.env fx.sc) (fn_of' fx hx)) ?_
  refine ha X fx G F env σ H _ _ r.r h fun r1 env1 F1 H1 y e1 q1 h1 => ?_
  obtain ⟨F2, env2, v, e2, q2, hl, h2⟩ := move e1 q1 h1
  exact k.nx _ F2 _ H1 (r.put e2 q2 hl) (e2.lt r.r) h2
variable {b : Expr} {db : DO} {a3 : Expr} {d3 : DO}
/-- a, b = x, y -/
@[simp] def dPar2 (i j : Nat) (da db : DO) : DS := fun K env => da env fun ra env1 => mvR ra env1 fun v env2 => db env2 fun rb env3 => mvR rb env3 fun w env4 => i < env4.length ∧ j < env4.length ∧ K.nx ((env4.set i (some v)).set j (some w))
theorem par2_run {i j : Nat} (ha : SO C a da) (hb : SO C b db) {X : Cx} (fx : Fits C X) {G : Gh} {F0 : AP1} {H0 : Hp} {F : AP1} {env : Env} {σ : L2.St} {H : Hp} {K : KE} {P : V → V → Hp → Prop} (r : RS G F0 H0 F env σ H) (h : dPar2 i j da db K env)
    (kn : ∀ x1 x2 env' F' H', RS G F0 H0 F' env' ((σ.set i (some x1)).set j (some x2)) H' → Lt F H F' H' → K.nx env' → P x1 x2 H') : wE X a σ H fun x1 H1 => wE X b σ H1 fun x2 H2 => P x1 x2 H2 := by
  refine ha X fx G F env σ H _ _ r.r h fun r1 env1 F1 H1 y1 e1 q1 h1 => ?_
  obtain ⟨F2, env2, v, e2, q2, h2⟩ := move e1 q1 h1
  refine hb X fx G F2 env2 σ H1 _ _ e2.r h2 fun r3 env3 F3 H3 y3 e3 q3 h3 => ?_
  obtain ⟨F4, env4, w, e4, q4, hl, hl2, h4⟩ := move e3 q3 h3
  have q2' := q2.step e2.r e4
  have e24 := e2.trans e4
  have s1 := r.put e24 q2' hl
  -- the second store
  have ap : ∀ c, isOwn w = true → y3 = .ref c → ¬ (isOwn v = true ∧ y1 = .ref c) := fun c ho ec ⟨ho1, ec1⟩ => by
    obtain ⟨o1, _, _⟩ := q4.one ho c ec
    obtain ⟨_, n2, _⟩ := q2.one ho1 c ec1
    rcases o1 with o1 | o1
    · exact n2 o1
    · have z : ∃ o, H1 c = some o := by
        have rp := q2.rep
        cases v with
        | d _ => cases ho1
        | pot => cases ho1
        | own xs => obtain ⟨c', vs, ec', _, hc, _⟩ := rp; rw [ec1] at ec'; cases ec'; exact ⟨_, hc⟩
        | odk b xs => obtain ⟨c', vs, ob, ec', _, _, hc, _⟩ := rp; rw [ec1] at ec'; cases ec'; exact ⟨_, hc⟩
      obtain ⟨o, z⟩ := z
      rw [o1] at z; cases z
  have rr := s1.r.put (i := j) (by simpa using hl2) (v := w) (x := y3) q4.rep fun ho c ec => by
    obtain ⟨o1, n2, n3⟩ := q4.one ho c ec
    refine ⟨fun z => ?_, n3⟩
    rcases z.put with z | z
    · exact n2 z
    · exact ap c ho ec z
  refine kn y1 y3 _ F4 H3 ⟨rr, s1.keep, s1.live, s1.grow, s1.fro, fun c hc => ?_⟩ (e24.lt r.r) h4
  rcases hc.put with hc | ⟨ho, ec⟩
  · exact s1.own c hc
  · have s2 := r.step e2
    exact (q4.one ho c ec).1.elim (s2.own c) s2.free
theorem ss_par2 {i j : Nat} {x y : Str} {px py pt pt2 : Pos} {kt k2 : Nat} (hi : C.N[i]? = some x) (hj : C.N[j]? = some y) (hij : i ≠ j) (hx : C.sc.names.lookup x = some .local) (hy : C.sc.names.lookup y = some .local) (ha : SO C a da) (hb : SO C b db)
    (sa : ∀ env, starEach [a, b] env = (false, eval a env) :: starEach [b] env) (sb : ∀ env, starEach [b] env = (false, eval b env) :: starEach [] env)
    (hw : ∀ env, env.scope = C.sc → env.scope.kind = .function → swappedStores [.Tuple [.Name x px, .Name y py] kt pt] (.Tuple [a, b] k2 pt2) env = pure (some [x, y])) :
    SS C (.Assign [.Tuple [.Name x px, .Name y py] kt pt] (.Tuple [a, b] k2 pt2) pos) (dPar2 i j da db) := by
  intro X fx G F0 H0 F env σ H D K r h k
  refine ws_of (ps_par (i := i) (j := j) fx.calm fx.nd (by rw [fx.n]; exact hi) (by rw [fx.n]; exact hj) hij (by rw [fx.sc]; exact hx) (by rw [fx.sc]; exact hy) (pa_cons pe_w (pa_cons pe_w pa_nil (sb X.env)) (sa X.env)) (hw X.env fx.sc fx.kind)) ?_
  show wE X a σ H fun x1 H1 => wE X b σ H1 fun x2 H2 => ∃ v w, [x1, x2] = [v, w] ∧ D.nx ((σ.set i (some v)).set j (some w)) H2
  exact par2_run ha hb fx (P := fun x1 x2 H2 => ∃ v w, [x1, x2] = [v, w] ∧ D.nx ((σ.set i (some v)).set j (some w)) H2) r h fun x1 x2 env' F' H' rs lt hk => ⟨x1, x2, rfl, k.nx env' F' _ H' rs lt hk⟩
theorem apart {G : Gh} {F2 F4 : AP1} {env env2 env4 : Env} {σ : L2.St} {H H2 H4 : Hp} {v w : Val} {y z : V} (q1 : Res G env σ H F2 env2 H2 v y) (q2 : Res G env2 σ H2 F4 env4 H4 w z) (c : Addr) (h1 : isOwn v = true) (h2 : isOwn w = true) (e1 : y = .ref c) (e2 : z = .ref c) : False := by
  obtain ⟨o1, _, _⟩ := q2.one h2 c e2
  obtain ⟨_, n2, _⟩ := q1.one h1 c e1
  rcases o1 with o1 | o1
  · exact n2 o1
  · have z : ∃ o, H2 c = some o := by
      have rp := q1.rep
      cases v with
      | d _ => cases h1
      | pot => cases h1
      | own xs => obtain ⟨c', vs, ec', _, hc, _⟩ := rp; rw [e1] at ec'; cases ec'; exact ⟨_, hc⟩
      | odk b xs => obtain ⟨c', vs, ob, ec', _, _, hc, _⟩ := rp; rw [e1] at ec'; cases ec'; exact ⟨_, hc⟩
    obtain ⟨o, z⟩ := z
    rw [o1] at z; cases z
/-- a, b, c = x, y, z -/
@[simp] def dPar3 (i j l : Nat) (da db d3 : DO) : DS := fun K env => da env fun ra env1 => mvR ra env1 fun u env2 => db env2 fun rb env3 => mvR rb env3 fun v env4 => d3 env4 fun rc env5 => mvR rc env5 fun w env6 =>
  i < env6.length ∧ j < env6.length ∧ l < env6.length ∧ K.nx (((env6.set i (some u)).set j (some v)).set l (some w))
theorem par3_run {i j l : Nat} (ha : SO C a da) (hb : SO C b db) (h3 : SO C a3 d3) {X : Cx} (fx : Fits C X) {G : Gh} {F0 : AP1} {H0 : Hp} {F : AP1} {env : Env} {σ : L2.St} {H : Hp} {K : KE} {P : V → V → V → Hp → Prop} (r : RS G F0 H0 F env σ H) (h : dPar3 i j l da db d3 K env)
    (kn : ∀ x1 x2 x3 env' F' H', RS G F0 H0 F' env' (((σ.set i (some x1)).set j (some x2)).set l (some x3)) H' → Lt F H F' H' → K.nx env' → P x1 x2 x3 H') : wE X a σ H fun x1 H1 => wE X b σ H1 fun x2 H2 => wE X a3 σ H2 fun x3 H3 => P x1 x2 x3 H3 := by
  refine ha X fx G F env σ H _ _ r.r h fun r1 env1 F1 H1 y1 e1 q1 h1 => ?_
  obtain ⟨F2, env2, u, e2, q2, h2⟩ := move e1 q1 h1
  refine hb X fx G F2 env2 σ H1 _ _ e2.r h2 fun r3 env3 F3 H3 y3 e3 q3 h3' => ?_
  obtain ⟨F4, env4, v, e4, q4, h4⟩ := move e3 q3 h3'
  refine h3 X fx G F4 env4 σ H3 _ _ e4.r h4 fun r5 env5 F5 H5 y5 e5 q5 h5 => ?_
  obtain ⟨F6, env6, w, e6, q6, l1, l2, l3, h6⟩ := move e5 q5 h5
  have q2b := q2.step e2.r e4
  have q2c := q2b.step e4.r e6
  have q4c := q4.step e4.r e6
  have e26 := (e2.trans e4).trans e6
  have s1 := r.put e26 q2c l1
  have s2 := r.step e2
  have s4 := s2.step e4
  have rr := s1.r.put (i := j) (by simpa using l2) (v := v) (x := y3) q4c.rep fun ho c ec => by
    obtain ⟨o1, n2, n3⟩ := q4c.one ho c ec
    refine ⟨fun z => ?_, n3⟩
    rcases z.put with z | ⟨ho1, ec1⟩
    · exact n2 z
    · exact apart q2 q4 c ho1 ho ec1 ec
  have s5 : RS G F0 H0 F6 ((env6.set i (some u)).set j (some v)) ((σ.set i (some y1)).set j (some y3)) H5 := ⟨rr, s1.keep, s1.live, s1.grow, s1.fro, fun c hc => by
    rcases hc.put with hc | ⟨ho, ec⟩
    · exact s1.own c hc
    · exact (q4.one ho c ec).1.elim (s2.own c) s2.free⟩
  have rr2 := s5.r.put (i := l) (by simpa using l3) (v := w) (x := y5) q6.rep fun ho c ec => by
    obtain ⟨o1, n2, n3⟩ := q6.one ho c ec
    refine ⟨fun z => ?_, n3⟩
    rcases z.put with z | ⟨ho1, ec1⟩
    · rcases z.put with z | ⟨ho1, ec1⟩
      · exact n2 z
      · exact apart q2b q6 c ho1 ho ec1 ec
    · exact apart q4 q6 c ho1 ho ec1 ec
  refine kn y1 y3 y5 _ F6 H5 ⟨rr2, s5.keep, s5.live, s5.grow, s5.fro, fun c hc => ?_⟩ (e26.lt r.r) h6
  rcases hc.put with hc | ⟨ho, ec⟩
  · exact s5.own c hc
  · exact (q6.one ho c ec).1.elim (s4.own c) s4.free
theorem ss_par3 {i j l : Nat} {x y z : Str} {px py pz pt pt2 : Pos} {kt k2 : Nat} (hi : C.N[i]? = some x) (hj : C.N[j]? = some y) (hl : C.N[l]? = some z) (hij : i ≠ j) (hil : i ≠ l) (hjl : j ≠ l) (hx : C.sc.names.lookup x = some .local) (hy : C.sc.names.lookup y = some .local) (hz : C.sc.names.lookup z = some .local) (ha : SO C a da) (hb : SO C b db) (h3 : SO C a3 d3)
    (sa : ∀ env, starEach [a, b, a3] env = (false, eval a env) :: starEach [b, a3] env) (sb : ∀ env, starEach [b, a3] env = (false, eval b env) :: starEach [a3] env) (s3 : ∀ env, starEach [a3] env = (false, eval a3 env) :: starEach [] env)
    (hw : ∀ env, env.scope = C.sc → env.scope.kind = .function → swappedStores [.Tuple [.Name x px, .Name y py, .Name z pz] kt pt] (.Tuple [a, b, a3] k2 pt2) env = pure (some [x, y, z])) :
    SS C (.Assign [.Tuple [.Name x px, .Name y py, .Name z pz] kt pt] (.Tuple [a, b, a3] k2 pt2) pos) (dPar3 i j l da db d3) := by
  intro X fx G F0 H0 F env σ H D K r h k
  refine ws_of (ps_par3 (i := i) (j := j) (l := l) fx.calm fx.nd (by rw [fx.n]; exact hi) (by rw [fx.n]; exact hj) (by rw [fx.n]; exact hl) hij hil hjl (by rw [fx.sc]; exact hx) (by rw [fx.sc]; exact hy) (by rw [fx.sc]; exact hz) (pa_cons pe_w (pa_cons pe_w (pa_cons pe_w pa_nil (s3 X.env)) (sb X.env)) (sa X.env)) (hw X.env fx.sc fx.kind)) ?_
  show wE X a σ H fun x1 H1 => wE X b σ H1 fun x2 H2 => wE X a3 σ H2 fun x3 H3 => ∃ u v w, [x1, x2, x3] = [u, v, w] ∧ D.nx (((σ.set i (some u)).set j (some v)).set l (some w)) H3
  refine ha X fx G F env σ H _ _ r.r h fun r1 env1 F1 H1 y1 e1 q1 h1 => ?_
  obtain ⟨F2, env2, u, e2, q2, h2⟩ := move e1 q1 h1
  refine hb X fx G F2 env2 σ H1 _ _ e2.r h2 fun r3 env3 F3 H3 y3 e3 q3 h3' => ?_
  obtain ⟨F4, env4, v, e4, q4, h4⟩ := move e3 q3 h3'
  refine h3 X fx G F4 env4 σ H3 _ _ e4.r h4 fun r5 env5 F5 H5 y5 e5 q5 h5 => ?_
  obtain ⟨F6, env6, w, e6, q6, l1, l2, l3, h6⟩ := move e5 q5 h5
  refine ⟨y1, y3, y5, rfl, ?_⟩
  have q2b := q2.step e2.r e4
  have q2c := q2b.step e4.r e6
  have q4c := q4.step e4.r e6
  have e26 := (e2.trans e4).trans e6
  have s1 := r.put e26 q2c l1
  have s2 := r.step e2
  have s4 := s2.step e4
  have rr := s1.r.put (i := j) (by simpa using l2) (v := v) (x := y3) q4c.rep fun ho c ec => by
    obtain ⟨o1, n2, n3⟩ := q4c.one ho c ec
    refine ⟨fun z => ?_, n3⟩
    rcases z.put with z | ⟨ho1, ec1⟩
    · exact n2 z
    · exact apart q2 q4 c ho1 ho ec1 ec
  have s5 : RS G F0 H0 F6 ((env6.set i (some u)).set j (some v)) ((σ.set i (some y1)).set j (some y3)) H5 := ⟨rr, s1.keep, s1.live, s1.grow, s1.fro, fun c hc => by
    rcases hc.put with hc | ⟨ho, ec⟩
    · exact s1.own c hc
    · exact (q4.one ho c ec).1.elim (s2.own c) s2.free⟩
  have rr2 := s5.r.put (i := l) (by simpa using l3) (v := w) (x := y5) q6.rep fun ho c ec => by
    obtain ⟨o1, n2, n3⟩ := q6.one ho c ec
    refine ⟨fun z => ?_, n3⟩
    rcases z.put with z | ⟨ho1, ec1⟩
    · rcases z.put with z | ⟨ho1, ec1⟩
      · exact n2 z
      · exact apart q2b q6 c ho1 ho ec1 ec
    · exact apart q4 q6 c ho1 ho ec1 ec
  refine k.nx _ F6 _ H5 ⟨rr2, s5.keep, s5.live, s5.grow, s5.fro, fun c hc => ?_⟩ (e26.lt r.r) h6
  rcases hc.put with hc | ⟨ho, ec⟩
  · exact s5.own c hc
  · exact (q6.one ho c ec).1.elim (s4.own c) s4.free
end

/-! ### while -/
section
variable {C : SC} {c : Expr} {dc : DB} {B : List Stmt} {d : DS} {pos : Pos}
def whileN (c : DB) (b : DS) (K : KE) : Nat → Env → Prop
  | 0, _ => False
  | n + 1, env => c env fun k env1 => (k = false → K.nx env1) ∧ (k = true → b { nx := whileN c b K n, ct := whileN c b K n, bk := K.nx, rt := K.rt } env1)
def dWhile (c : DB) (b : DS) : DS := fun K env => ∃ n, whileN c b K n env
theorem ss_while (hc : STe C c dc) (hb : SB C B d) : SS C (.While c B [] pos) (dWhile dc d) := by
  intro X fx G F0 H0 F env σ H D K r h k
  refine ws_of (ps_while (by rw [fx.xe]; exact PassesOwn.never) pt_w pb_w) ?_
  obtain ⟨n, h⟩ := h
  refine ⟨fun m σ' H' => ∃ F' env', RS G F0 H0 F' env' σ' H' ∧ Lt F H F' H' ∧ whileN dc d K m env', ⟨n, F, env, r, .refl, h⟩, ?_⟩
  rintro m σ1 H1 ⟨F1, env1, r1, l1, h1⟩
  cases m with
  | zero => exact h1.elim
  | succ m =>
    refine hc X fx G F1 env1 σ1 H1 _ _ r1.r h1 fun b env2 F2 H2 e2 h2 => ?_
    have r2 := r1.step e2
    have l2 := l1.trans (e2.lt r1.r)
    cases b with
    | false => exact iteF (k.nx env2 F2 σ1 H2 r2 l2 (h2.1 rfl))
    | true =>
      refine iteT ⟨fun σ' H' => ∃ F' env', RS G F0 H0 F' env' σ' H' ∧ Lt F H F' H' ∧ whileN dc d K m env', fun σ' H' q => ⟨m, Nat.lt_succ_self m, q⟩, ?_⟩
      refine hb X fx G F0 H0 F2 env2 σ1 H2 _ _ r2 (h2.2 rfl) ⟨fun env' F' σ' H' r' l' q => ⟨F', env', r', l2.trans l', q⟩, fun env' F' σ' H' r' l' q => k.nx env' F' σ' H' r' (l2.trans l') q, fun env' F' σ' H' r' l' q => ⟨F', env', r', l2.trans l', q⟩, k.rt⟩
end

/-! ### targets -/
abbrev DT := PyData → Env → (Env → Prop) → Prop
abbrev DTs := List PyData → Env → (Env → Prop) → Prop
def wG (X : Cx) (tg : Expr) : TG := fun v σ H Q => ∀ (pins : List (Addr × Obj)) (s : Shared) (u : Value), Inv X pins σ H s → RelV v u → wpAny (model X.prog X.w) X.A (assign tg X.env u) (fun _ s' => ∃ σ' H', Inv X pins σ' H' s' ∧ Q σ' H') X.xe s
theorem pg_w {X : Cx} {tg : Expr} : PG X tg (wG X tg) := ⟨fun pins s σ H v u Q I r h => h pins s u I r⟩
theorem wg_of {X : Cx} {tg : Expr} {t : TG} {v σ H Q} (h : PG X tg t) (q : t v σ H Q) : wG X tg v σ H Q := fun pins s u I r => h.run pins s σ H v u Q I r q
def wGs (X : Cx) (ts : List Expr) : TGs := fun vs σ H Q => ∀ (pins : List (Addr × Obj)) (s : Shared) (us : List Value), Inv X pins σ H s → Vals vs us → wpAny (model X.prog X.w) X.A (assignInOrder ((assignEach ts X.env).map (·.2)) us) (fun _ s' => ∃ σ' H', Inv X pins σ' H' s' ∧ Q σ' H') X.xe s
theorem pgs_w {X : Cx} {ts : List Expr} : PGs X ts (wGs X ts) := ⟨fun pins s σ H v u Q I r h => h pins s u I r⟩
theorem wgs_of {X : Cx} {ts : List Expr} {t : TGs} {v σ H Q} (h : PGs X ts t) (q : t v σ H Q) : wGs X ts v σ H Q := fun pins s u I r => h.run pins s σ H v u Q I r q
/-- targets of names alone: the heap stays, the slots sl are written -/
def SGn (C : SC) (tg : Expr) (sl : List Nat) (d : DT) : Prop := ∀ (X : Cx), Fits C X → ∀ (G : Gh) (F : AP1) (env : Env) (σ : L2.St) (H : Hp) (x : PyData) (v : V) (Q : L2.St → Hp → Prop) (Φ : Env → Prop), R G F env σ H → RepD F H x v → d x env Φ →
  (∀ env' σ', R G F env' σ' H → (∀ a, OwnS env' σ' a → OwnS env σ a) → (∀ vs, (∀ i ∈ sl, i ∈ vs) → wipe σ' vs = wipe σ vs) → Φ env' → Q σ' H) → wG X tg v σ H Q
def SGns (C : SC) (ts : List Expr) (sl : List Nat) (d : DTs) : Prop := ∀ (X : Cx), Fits C X → ∀ (G : Gh) (F : AP1) (env : Env) (σ : L2.St) (H : Hp) (xs : List PyData) (vs : List V) (Q : L2.St → Hp → Prop) (Φ : Env → Prop), R G F env σ H → RepAll F H xs vs → d xs env Φ →
  (∀ env' σ', R G F env' σ' H → (∀ a, OwnS env' σ' a → OwnS env σ a) → (∀ vs, (∀ i ∈ sl, i ∈ vs) → wipe σ' vs = wipe σ vs) → Φ env' → Q σ' H) → wGs X ts vs σ H Q
theorem wipe_get {σ : L2.St} {j : Nat} : ∀ {vs : List Nat}, j ∉ vs → (wipe σ vs)[j]? = σ[j]?
  | [], _ => rfl
  | v :: vs, h => by
    unfold wipe
    have h1 : v ≠ j := fun z => h (by simp [z])
    have h2 : j ∉ vs := fun z => h (List.mem_cons_of_mem _ z)
    rw [List.getElem?_set_ne h1]
    exact wipe_get h2
theorem wipe_in {σ : L2.St} {j : Nat} : ∀ {vs : List Nat}, j ∈ vs → (wipe σ vs)[j]? = if j < σ.length then some none else none
  | v :: vs, h => by
    unfold wipe
    by_cases e : v = j
    · subst e
      by_cases hl : v < σ.length
      · rw [List.getElem?_set_self (by rw [wipe_length]; exact hl), if_pos hl]
      · rw [List.getElem?_eq_none (by rw [List.length_set, wipe_length]; omega), if_neg hl]
    · rw [List.getElem?_set_ne e]
      exact wipe_in ((List.mem_cons.mp h).resolve_left fun z => e z.symm)
theorem wipe_set {σ : L2.St} {i : Nat} {y : Option V} {vs : List Nat} (h : i ∈ vs) : wipe (σ.set i y) vs = wipe σ vs := by
  apply List.ext_getElem?
  intro j
  by_cases hj : j ∈ vs
  · rw [wipe_in hj, wipe_in hj, List.length_set]
  · rw [wipe_get hj, wipe_get hj, List.getElem?_set_ne (fun z : i = j => hj (z ▸ h))]
theorem wipe_wipe {σ : L2.St} {vs : List Nat} : wipe (wipe σ vs) vs = wipe σ vs := by
  apply List.ext_getElem?
  intro j
  by_cases hj : j ∈ vs
  · rw [wipe_in hj, wipe_in hj, wipe_length]
  · rw [wipe_get hj]
def SG (C : SC) (tg : Expr) (d : DT) : Prop := ∀ (X : Cx), Fits C X → ∀ (G : Gh) (F0 : AP1) (H0 : Hp) (F : AP1) (env : Env) (σ : L2.St) (H : Hp) (x : PyData) (v : V) (Q : L2.St → Hp → Prop) (Φ : Env → Prop), RS G F0 H0 F env σ H → RepD F H x v → d x env Φ →
  (∀ env' F' σ' H', RS G F0 H0 F' env' σ' H' → Lt F H F' H' → Φ env' → Q σ' H') → wG X tg v σ H Q
def SGs (C : SC) (ts : List Expr) (d : DTs) : Prop := ∀ (X : Cx), Fits C X → ∀ (G : Gh) (F0 : AP1) (H0 : Hp) (F : AP1) (env : Env) (σ : L2.St) (H : Hp) (xs : List PyData) (vs : List V) (Q : L2.St → Hp → Prop) (Φ : Env → Prop), RS G F0 H0 F env σ H → RepAll F H xs vs → d xs env Φ →
  (∀ env' F' σ' H', RS G F0 H0 F' env' σ' H' → Lt F H F' H' → Φ env' → Q σ' H') → wGs X ts vs σ H Q
section
variable {C : SC} {e : Expr} {es : List Expr} {d : DT} {ds : DTs} {pos : Pos}
@[simp] def tName (i : Nat) : DT := fun x env Φ => i < env.length ∧ Φ (env.set i (some (.d x)))
theorem sgn_name {i : Nat} {x : Str} (hi : C.N[i]? = some x) (hx : LocC C x) : SGn C (.Name x pos) [i] (tName i) := by
  intro X fx G F env σ H z v Q Φ r rz h hQ
  refine wg_of (pg_name (i := i) fx.nd (by rw [fx.n]; exact hi) (by rw [fx.sc]; exact hx.1) (fn_of' fx hx)) ?_
  exact hQ _ _ (r.put (v := .d z) h.1 rz fun ho => by cases ho) (fun a ha => ha.put.elim id fun ⟨ho, _⟩ => by cases ho) (fun vs hv => wipe_set (hv i (by simp))) h.2
theorem sgns_nil : SGns C [] [] (fun xs env Φ => xs = [] ∧ Φ env) := by
  intro X fx G F env σ H xs vs Q Φ r rx h hQ
  obtain ⟨rfl, h⟩ := h
  cases rx.inv0
  exact wgs_of pgs_nil ⟨rfl, hQ env σ r (fun _ h => h) (fun _ _ => rfl) h⟩
theorem sgns_cons {s1 s2 : List Nat} (h1 : SGn C e s1 d) (h2 : SGns C es s2 ds) (hs : ∀ env, (assignEach (e :: es) env).map (·.2) = assign e env :: (assignEach es env).map (·.2)) :
    SGns C (e :: es) (s1 ++ s2) (fun xs env Φ => ∃ x r, xs = x :: r ∧ d x env fun env1 => ds r env1 Φ) := by
  intro X fx G F env σ H xs vs Q Φ r rx h hQ
  obtain ⟨x, t, rfl, h⟩ := h
  obtain ⟨v, w, rfl, r1, r2⟩ := rx.inv
  refine wgs_of (pgs_cons pg_w pgs_w (hs X.env)) ⟨v, w, rfl, ?_⟩
  refine h1 X fx G F env σ H x v _ _ r r1 h fun env' σ' r' o' w' h' => ?_
  exact h2 X fx G F env' σ' H t w _ _ r' r2 h' fun env2 σ2 s2' o2 w2 hh => hQ env2 σ2 s2' (fun a ha => o' a (o2 a ha)) (fun vs hv => (w2 vs fun i hi => hv i (List.mem_append_right _ hi)).trans (w' vs fun i hi => hv i (List.mem_append_left _ hi))) hh
theorem sgn_tup {k n : Nat} {sl : List Nat} (hs : SGns C es sl ds) (hn : ∀ env, (assignEach es env).length = n) (hst : ∀ env, (assignEach es env).findIdx? (·.1) = none) : SGn C (.Tuple es k pos) sl (fun x env Φ => ∃ xs, (x = .tuple xs ∨ x = .list xs) ∧ xs.length = n ∧ ds xs env Φ) := by
  intro X fx G F env σ H z v Q Φ r rz h hQ
  obtain ⟨xs, rfl | rfl, hl, h⟩ := h
  · simp only [RepD] at rz
    obtain ⟨a, vs, rfl, fa, ha, rr⟩ := rz
    refine wg_of (pg_tup (n := n) fx.calm pgs_w (hn X.env) (hst X.env)) ⟨a, vs, rfl, SqT.of ha, by rw [rr.length]; exact hl, ?_⟩
    exact hs X fx G F env σ H xs vs Q Φ r rr h hQ
  · simp only [RepD] at rz
    obtain ⟨a, vs, rfl, fa, ha, rr⟩ := rz
    refine wg_of (pg_lst (n := n) fx.calm pgs_w (hn X.env) (hst X.env)) ⟨a, vs, rfl, SqL.of ha, by rw [rr.length]; exact hl, ?_⟩
    exact hs X fx G F env σ H xs vs Q Φ r rr h hQ
theorem sg_name {i : Nat} {x : Str} (hi : C.N[i]? = some x) (hx : LocC C x) : SG C (.Name x pos) (tName i) := by
  intro X fx G F0 H0 F env σ H z v Q Φ r rz h hQ
  refine wg_of (pg_name (i := i) fx.nd (by rw [fx.n]; exact hi) (by rw [fx.sc]; exact hx.1) (fn_of' fx hx)) ?_
  exact hQ _ F _ H (r.put (v := .d z) (.refl r.r) (.imm rz) h.1) .refl h.2
@[simp] def tNil : DTs := fun xs env Φ => xs = [] ∧ Φ env
@[simp] def tCons (d : DT) (ds : DTs) : DTs := fun xs env Φ => ∃ x r, xs = x :: r ∧ d x env fun env1 => ds r env1 Φ
theorem sgs_nil : SGs C [] tNil := by
  intro X fx G F0 H0 F env σ H xs vs Q Φ r rx h hQ
  obtain ⟨rfl, h⟩ := h
  cases rx.inv0
  exact wgs_of pgs_nil ⟨rfl, hQ env F σ H r .refl h⟩
theorem sgs_cons (h1 : SG C e d) (h2 : SGs C es ds) (hs : ∀ env, (assignEach (e :: es) env).map (·.2) = assign e env :: (assignEach es env).map (·.2)) : SGs C (e :: es) (tCons d ds) := by
  intro X fx G F0 H0 F env σ H xs vs Q Φ r rx h hQ
  obtain ⟨x, t, rfl, h⟩ := h
  obtain ⟨v, w, rfl, r1, r2⟩ := rx.inv
  refine wgs_of (pgs_cons pg_w pgs_w (hs X.env)) ⟨v, w, rfl, ?_⟩
  refine h1 X fx G F0 H0 F env σ H x v _ _ r r1 h fun env' F' σ' H' r' l h' => ?_
  exact h2 X fx G F0 H0 F' env' σ' H' t w _ _ r' (RepAll.mono l.grow l.stab _ _ r2) h' fun env2 F2 σ2 H2 s2 l2 hh => hQ env2 F2 σ2 H2 s2 (l.trans l2) hh
@[simp] def tTup (n : Nat) (ds : DTs) : DT := fun x env Φ => ∃ xs, (x = .tuple xs ∨ x = .list xs) ∧ xs.length = n ∧ ds xs env Φ
theorem sg_tup {k n : Nat} (hs : SGs C es ds) (hn : ∀ env, (assignEach es env).length = n) (hst : ∀ env, (assignEach es env).findIdx? (·.1) = none) : SG C (.Tuple es k pos) (tTup n ds) := by
  intro X fx G F0 H0 F env σ H z v Q Φ r rz h hQ
  obtain ⟨xs, rfl | rfl, hl, h⟩ := h
  · simp only [RepD] at rz
    obtain ⟨a, vs, rfl, fa, ha, rr⟩ := rz
    refine wg_of (pg_tup (n := n) fx.calm pgs_w (hn X.env) (hst X.env)) ⟨a, vs, rfl, SqT.of ha, by rw [rr.length]; exact hl, ?_⟩
    exact hs X fx G F0 H0 F env σ H xs vs Q Φ r rr h hQ
  · simp only [RepD] at rz
    obtain ⟨a, vs, rfl, fa, ha, rr⟩ := rz
    refine wg_of (pg_lst (n := n) fx.calm pgs_w (hn X.env) (hst X.env)) ⟨a, vs, rfl, SqL.of ha, by rw [rr.length]; exact hl, ?_⟩
    exact hs X fx G F0 H0 F env σ H xs vs Q Φ r rr h hQ
/-- name[i] = .. of one's own list -/
def wSet (X : Cx) : TSet := fun o i v H Q => ∀ (pins : List (Addr × Obj)) (s : Shared) (σ : L2.St) (ov iv u : Value), Inv X pins σ H s → RelV o ov → RelV i iv → RelV v u → wpAny (model X.prog X.w) X.A (setItem ov iv u) (fun _ s' => ∃ H', Inv X pins σ H' s' ∧ Q H') X.xe s
theorem pset_w {X : Cx} : PSet X (wSet X) := fun pins s σ H o i v ov iv u Q I r1 r2 r3 h => h pins s σ ov iv u I r1 r2 r3
theorem wset_of {X : Cx} {t : TSet} {o i v : V} {H : Hp} {Q : Hp → Prop} (h : PSet X t) (q : t o i v H Q) : wSet X o i v H Q := fun pins s σ ov iv u I r1 r2 r3 => h pins s σ H o i v ov iv u Q I r1 r2 r3 q
/-- one's own list has changed -/
theorem R.write {G : Gh} {F : AP1} {env : Env} {σ : L2.St} {H : Hp} {xs ys : List PyData} {i : Nat} {a : Addr} {vs : List V} (r : R G F env σ H) (ei : env[i]? = some (some (.own xs))) (si : σ[i]? = some (some (V.ref a))) (rr : RepAll F H ys vs) :
    Ext G F env σ H F (env.set i (some (.own ys))) (upd H a (.lst vs)) := by
  have oa : OwnS env σ a := ⟨i, _, ei, rfl, si⟩
  have nf := r.ownF oa
  have k : ∀ b o, b ≠ a → H b = some o → upd H a (.lst vs) b = some o := fun b o n h => by rw [upd_ne n]; exact h
  have st : ∀ b o, F b → H b = some o → upd H a (.lst vs) b = some o := fun b o f h => k b o (fun z => nf (z ▸ f)) h
  have hi : i < env.length := (List.getElem?_eq_some_iff.mp ei).1
  have ow : ∀ b, OwnS (env.set i (some (.own ys))) σ b → OwnS env σ b := fun b ⟨j, w, ej, ho, sj⟩ => by
    rcases setEnv_get ej with ⟨rfl, rfl⟩ | ⟨ne, ej⟩
    · exact ⟨j, _, ei, rfl, sj⟩
    · exact ⟨j, w, ej, ho, sj⟩
  refine ⟨⟨by simp [r.len], fun j w ej => ?_, fun j l w u c ej el ow1 ou sj sl => ?_, fun b f => ?_, fun p g e => ?_⟩, fun b o h n1 _ => k b o (fun z => n1 (z ▸ oa)) h, fun b o h => ?_, fun _ h => h, fun _ h => .inl h, ow⟩
  · rcases setEnv_get ej with ⟨rfl, rfl⟩ | ⟨ne, ej⟩
    · exact ⟨_, si, a, vs, rfl, nf, upd_same, RepAll.mono (fun _ h => h) st _ _ rr⟩
    · obtain ⟨y, sy, ry⟩ := r.rep j w ej
      refine ⟨y, sy, ?_⟩
      cases w with
      | d z => exact RepD.mono (fun _ h => h) st _ _ ry
      | pot => exact ry
      | own zs =>
        obtain ⟨c, us, rfl, n, hc, rc⟩ := ry
        exact ⟨c, us, rfl, n, k c _ (fun z => ne (r.sep j i _ _ a ej ei rfl rfl (z ▸ sy) si)) hc, RepAll.mono (fun _ h => h) st _ _ rc⟩
      | odk b zs =>
        obtain ⟨c, us, ob, rfl, n, rc, hc, ho⟩ := ry
        exact ⟨c, us, ob, rfl, n, RepAll.mono (fun _ h => h) st _ _ rc, k c _ (fun z => ne (r.sep j i _ _ a ej ei rfl rfl (z ▸ sy) si)) hc, ho⟩
  · have gl : ∀ (j : Nat) (w : Val), (env.set i (some (.own ys)))[j]? = some (some w) → isOwn w = true → ∃ w', env[j]? = some (some w') ∧ isOwn w' = true := fun j w ej ho => by
      rcases setEnv_get ej with ⟨rfl, rfl⟩ | ⟨ne, ej⟩
      · exact ⟨_, ei, rfl⟩
      · exact ⟨w, ej, ho⟩
    obtain ⟨w', ej', hw'⟩ := gl j w ej ow1
    obtain ⟨u', el', hu'⟩ := gl l u el ou
    exact r.sep j l w' u' c ej' el' hw' hu' sj sl
  · obtain ⟨o, h⟩ := r.al b f
    exact ⟨o, st b o f h⟩
  · obtain ⟨⟨ns, sl, tn, h1, h2, h3⟩, h4, h5, h6⟩ := r.pt p g e
    obtain ⟨n1, n2⟩ := h6 a oa
    exact ⟨⟨ns, sl, tn, k _ _ n1.symm h1, k _ _ n2.symm h2, h3⟩, h4, h5, fun b hb => h6 b (ow b hb)⟩
  · by_cases e : b = a
    · subst e; exact ⟨_, upd_same⟩
    · exact ⟨o, k b o e h⟩
@[simp] def tSub (i : Nat) (db : DO) : DT := fun x env Φ => (∃ w, env[i]? = some (some w)) ∧ db env fun rb env1 => ∃ w, rb.get env1 = some w ∧ ∃ k j xs, toI w = some k ∧ env1[i]? = some (some (.own xs)) ∧ ixN xs.length k = some j ∧ Φ (env1.set i (some (.own (xs.set j x))))
theorem sg_sub {i : Nat} {x : Str} {p : Pos} {b : Expr} {db : DO} (ha : SO C (.Name x p) (dVar i)) (hb : SO C b db)
    (has : ∀ env v, assign (.Subscript (.Name x p) b pos) env v = (do
      let ov ← holding [v] (eval (.Name x p) env)
      let iv ← holding [v, ov] (eval b env)
      standAt pos
      holding [v, ov, iv] (setItem ov iv v)
      release [v, ov, iv] [])) : SG C (.Subscript (.Name x p) b pos) (tSub i db) := by
  intro X fx G F0 H0 F env σ H z v Q Φ r rz h hQ
  refine wg_of (pg_sub pe_w pe_w pset_w (has X.env)) ?_
  show wE X _ σ H fun o H1 => wE X b σ H1 fun ix H2 => wSet X o ix v H2 fun H3 => Q σ H3
  obtain ⟨hex, h⟩ := h
  refine ha X fx G F env σ H _ (fun rr env' => rr = .s i ∧ env' = env) r.r ⟨hex, rfl, rfl⟩ fun r1 env1 F1 H1 o e1 q1 h1 => ?_
  obtain ⟨rfl, rfl⟩ := h1
  refine hb X fx G F1 env1 σ H1 _ _ e1.r h fun r2 env2 F2 H2 ix e2 q2 h2 => ?_
  obtain ⟨w, g, k, j, xs, hk, ei, hj, h2⟩ := h2
  obtain ⟨_, rfl⟩ := rep_I hk (q2.at e2.r g)
  have q1 : σ[i]? = some (some o) := q1
  obtain ⟨o', so, ro⟩ := e2.r.rep i _ ei
  rw [q1] at so; cases so
  obtain ⟨a, vs, rfl, nf, hc, rc⟩ := ro
  have e12 := e1.trans e2
  have rz2 : RepD F2 H2 z v := e12.repD r.r rz
  refine wset_of set_list ⟨a, vs, k, j, rfl, rfl, hc, by rw [rc.length]; exact hj, ?_⟩
  have e3 := e2.r.write ei q1 (rc.set rz2 j)
  have e123 := e12.trans e3
  exact hQ _ F2 σ _ (r.step e123) (e123.lt r.r) h2
end
end Ev
set_option Elab.async false
set_option linter.all false
set_option maxRecDepth 100000
/-! Ev6: assignments to targets, what is walked, for, comprehensions. -/
namespace Ev
open PySem PySem.Spec PyProof.Rows L2

section
variable {C : SC} {a tg : Expr} {da : DO} {dt : DT} {pos : Pos}
@[simp] def dAsg (dt : DT) (da : DO) : DS := fun K env => da env fun ra env1 => shR ra env1 fun v env2 => ∃ x, v = .d x ∧ dt x env2 K.nx
theorem ss_asg (ha : SO C a da) (hg : SG C tg dt) (hs : ∀ env, swapsWithSole [tg] a pos.line env = pure false) (hw : ∀ env, env.scope = C.sc → swappedStores [tg] a env = pure none)
    (h1 : ∀ env, (assignEach [tg] env).map (·.2) = [assign tg env]) : SS C (.Assign [tg] a pos) (dAsg dt da) := by
  intro X fx G F0 H0 F env σ H D K r h k
  refine ws_of (ps_asg pe_w pg_w (hs X.env) (hw X.env fx.sc) (h1 X.env)) ?_
  refine ha X fx G F env σ H _ _ r.r h fun r1 env1 F1 H1 y e1 q1 h1 => ?_
  obtain ⟨F2, env2, v, e2, _, rv, no, x, rfl, h2⟩ := share e1 q1 h1
  exact hg X fx G F0 H0 F2 env2 σ H1 x y _ _ (r.step e2) rv h2 fun env' F' σ' H' r' l hn => k.nx env' F' σ' H' r' ((e2.lt r.r).trans l) hn
end

/-! ### what is walked -/
abbrev DI := Env → (List PyData → Env → Prop) → Prop
/-- a, b = x, y with names that are not swapped (cells): what comes is moved, the tuple is left over -/
theorem ss_parU2 {C : SC} {a b : Expr} {da db : DO} {pos : Pos} {i j : Nat} {x y : Str} {px py pt pt2 : Pos} {kt k2 : Nat} (hi : C.N[i]? = some x) (hj : C.N[j]? = some y) (hx : LocC C x) (hy : LocC C y) (ha : SO C a da) (hb : SO C b db)
    (sa : ∀ env, starEach [a, b] env = (false, eval a env) :: starEach [b] env) (sb : ∀ env, starEach [b] env = (false, eval b env) :: starEach [] env)
    (hs : ∀ env, swapsWithSole [.Tuple [.Name x px, .Name y py] kt pt] (.Tuple [a, b] k2 pt2) pos.line env = pure false)
    (hw : ∀ env, env.scope = C.sc → swappedStores [.Tuple [.Name x px, .Name y py] kt pt] (.Tuple [a, b] k2 pt2) env = pure none) :
    SS C (.Assign [.Tuple [.Name x px, .Name y py] kt pt] (.Tuple [a, b] k2 pt2) pos) (dPar2 i j da db) := by
  intro X fx G F0 H0 F env σ H D K r h k
  have nm : ∀ {i : Nat} {x : Str} {px : Pos}, C.N[i]? = some x → LocC C x → PG X (.Name x px) (gName i) := fun {i x px} hi hx =>
    pg_name fx.nd (by rw [fx.n]; exact hi) (by rw [fx.sc]; exact hx.1) (hx.2.elim (fun z => .inr (by rw [fx.sc]; exact z)) fun z => .inl (fx.fn x z))
  refine ws_of (ps_asg (pe_tup (pa_cons pe_w (pa_cons pe_w pa_nil (sb X.env)) (sa X.env))) (pg_tup (n := 2) fx.calm (pgs_cons (nm hi hx) (pgs_cons (nm hj hy) pgs_nil))) (hs X.env) (hw X.env fx.sc)) ?_
  refine par2_run ha hb fx (P := fun x1 x2 H2 => L2.tNil σ H2 fun zs H3 => (x1 :: x2 :: zs).length ≤ sizeLine ∧ ∀ p, H3 p = none → gTup X.K 2 (gCons (gName i) (gCons (gName j) gNil)) (.ref p) σ (upd H3 p (.tup (x1 :: x2 :: zs))) D.nx) r h fun x1 x2 env' F' H' rs lt hk => ?_
  refine ⟨by rw [sizeLine_eq]; simp, fun p hp => ⟨p, _, rfl, SqT.of upd_same, rfl, x1, _, rfl, x2, _, rfl, rfl, ?_⟩⟩
  have e := Ext.lone (o := .tup [x1, x2]) rs.r hp
  exact k.nx env' F' _ _ (rs.step e) (lt.trans (e.lt rs.r)) hk
theorem ss_parU3 {C : SC} {a b a3 : Expr} {da db d3 : DO} {pos : Pos} {i j l : Nat} {x y z : Str} {px py pz pt pt2 : Pos} {kt k2 : Nat} (hi : C.N[i]? = some x) (hj : C.N[j]? = some y) (hl : C.N[l]? = some z) (hx : LocC C x) (hy : LocC C y) (hz : LocC C z) (ha : SO C a da) (hb : SO C b db) (h3 : SO C a3 d3)
    (sa : ∀ env, starEach [a, b, a3] env = (false, eval a env) :: starEach [b, a3] env) (sb : ∀ env, starEach [b, a3] env = (false, eval b env) :: starEach [a3] env) (s3 : ∀ env, starEach [a3] env = (false, eval a3 env) :: starEach [] env)
    (hs : ∀ env, swapsWithSole [.Tuple [.Name x px, .Name y py, .Name z pz] kt pt] (.Tuple [a, b, a3] k2 pt2) pos.line env = pure false)
    (hw : ∀ env, env.scope = C.sc → swappedStores [.Tuple [.Name x px, .Name y py, .Name z pz] kt pt] (.Tuple [a, b, a3] k2 pt2) env = pure none) :
    SS C (.Assign [.Tuple [.Name x px, .Name y py, .Name z pz] kt pt] (.Tuple [a, b, a3] k2 pt2) pos) (dPar3 i j l da db d3) := by
  intro X fx G F0 H0 F env σ H D K r h k
  have nm : ∀ {i : Nat} {x : Str} {px : Pos}, C.N[i]? = some x → LocC C x → PG X (.Name x px) (gName i) := fun {i x px} hi hx =>
    pg_name fx.nd (by rw [fx.n]; exact hi) (by rw [fx.sc]; exact hx.1) (hx.2.elim (fun z => .inr (by rw [fx.sc]; exact z)) fun z => .inl (fx.fn x z))
  refine ws_of (ps_asg (pe_tup (pa_cons pe_w (pa_cons pe_w (pa_cons pe_w pa_nil (s3 X.env)) (sb X.env)) (sa X.env))) (pg_tup (n := 3) fx.calm (pgs_cons (nm hi hx) (pgs_cons (nm hj hy) (pgs_cons (nm hl hz) pgs_nil)))) (hs X.env) (hw X.env fx.sc)) ?_
  refine par3_run ha hb h3 fx (P := fun x1 x2 x3 H2 => L2.tNil σ H2 fun zs H3 => (x1 :: x2 :: x3 :: zs).length ≤ sizeLine ∧ ∀ p, H3 p = none → gTup X.K 3 (gCons (gName i) (gCons (gName j) (gCons (gName l) gNil))) (.ref p) σ (upd H3 p (.tup (x1 :: x2 :: x3 :: zs))) D.nx) r h fun x1 x2 x3 env' F' H' rs lt hk => ?_
  refine ⟨by rw [sizeLine_eq]; simp, fun p hp => ⟨p, _, rfl, SqT.of upd_same, rfl, x1, _, rfl, x2, _, rfl, x3, _, rfl, rfl, ?_⟩⟩
  have e := Ext.lone (o := .tup [x1, x2, x3]) rs.r hp
  exact k.nx env' F' _ _ (rs.step e) (lt.trans (e.lt rs.r)) hk
structure WalkD (F1 : AP1) (H1 : Hp) (J : It) (items : List PyData) : Prop where
  go : ∀ i H F, Lt F1 H1 F H → i < items.length → J.go i H
  stop : ∀ H F, Lt F1 H1 F H → J.stop items.length H
  yld : ∀ i H F x H', Lt F1 H1 F H → i < items.length → J.yld i H x H' → ∃ d, items[i]? = some d ∧ ((H' = H ∧ RepD F H d x) ∨ ∃ T ds vs, x = .ref T ∧ H T = none ∧ H' = upd H T (.tup vs) ∧ d = .tuple ds ∧ RepAll F H ds vs)
def wI (X : Cx) (tg iter : Expr) : TI := fun σ H R => ∀ (pins : List (Addr × Obj)) (s : Shared), Inv X pins σ H s → wpAny (model X.prog X.w) X.A (eval iter X.env) (fun v s1 => wpAny (model X.prog X.w) X.A (pyIter v) (PIE X pins σ tg R) X.xe s1) X.xe s
theorem pi_w {X : Cx} {tg iter : Expr} : PI X tg iter (wI X tg iter) := ⟨fun pins s σ H R I h => h pins s I⟩
theorem wi_of {X : Cx} {tg iter : Expr} {t : TI} {σ H R} (h : PI X tg iter t) (q : t σ H R) : wI X tg iter σ H R := fun pins s I => h.run pins s σ H R I q
def SI (C : SC) (tg iter : Expr) (d : DI) : Prop := ∀ (X : Cx), Fits C X → ∀ (G : Gh) (F : AP1) (env : Env) (σ : L2.St) (H : Hp) (Q : It → Hp → Prop) (Φ : List PyData → Env → Prop), R G F env σ H → d env Φ →
  (∀ items env' F' H' J, Ext G F env σ H F' env' H' → WalkD F' H' J items → Φ items env' → Q J H') → wI X tg iter σ H Q

section
variable {X : Cx} {pins : List (Addr × Obj)} {σ : L2.St} {H : Hp} {s : Shared} {tg : Expr} {a : Addr} {xs : List V} {R : It → Hp → Prop}
theorem it_list (I : Inv X pins σ H s) (hq : SqL X.K H a xs) (q : R (Itl X.K a) H) : wpAny (model X.prog X.w) X.A (pyIter (.ref a)) (PIE X pins σ tg R) X.xe s := by
  obtain ⟨its, rv, p, hz⟩ := I.list hq
  refine wpAny_pyIter_list p.isList ?_
  refine ⟨s.heap.objs.size, [s.heap.objs.size], _, _, H, rfl, I.kept (t' := s.toks) fun b o e => Heap.get?_push_of_some _ e, turn_list a _, ⟨_, Heap.get?_push_size _ rfl, rfl, rfl⟩, fun b hb => ?_, q⟩
  have e : b = s.heap.objs.size := by simpa using hb
  subst e
  exact I.fpOk (Nat.le_refl _) (I.hok.fresh (Nat.le_refl _))
theorem it_tup (I : Inv X pins σ H s) (hq : SqT X.K H a xs) (q : R (Itt X.K a) H) : wpAny (model X.prog X.w) X.A (pyIter (.ref a)) (PIE X pins σ tg R) X.xe s := by
  obtain ⟨its, rv, p, hz⟩ := I.tuple hq
  refine wpAny_pyIter_tuple (show s.heap.IsTuple a its.toArray from p) ?_
  refine ⟨s.heap.objs.size, [s.heap.objs.size], _, _, H, rfl, I.kept (t' := s.toks) fun b o e => Heap.get?_push_of_some _ e, turn_tuple a _, ⟨_, Heap.get?_push_size _ rfl, rfl, rfl⟩, fun b hb => ?_, q⟩
  have e : b = s.heap.objs.size := by simpa using hb
  subst e
  exact I.fpOk (Nat.le_refl _) (I.hok.fresh (Nat.le_refl _))
end
theorem SqL.only {K : PySem.W.Frag} {H : Hp} {a : Addr} {xs ys : List V} (h : H a = some (.lst xs)) (q : ∀ zs, SqL K H a zs → zs = ys → True) : True := trivial
theorem walk_list {K : PySem.W.Frag} {F1 : AP1} {H1 : Hp} {a : Addr} {vs : List V} {ds : List PyData} (fa : F1 a) (ha : H1 a = some (.lst vs)) (rr : RepAll F1 H1 ds vs) : WalkD F1 H1 (Itl K a) ds where
  go := fun i H F l hi => by
    obtain ⟨d, hd⟩ : ∃ d, ds[i]? = some d := ⟨ds[i], List.getElem?_eq_getElem hi⟩
    obtain ⟨v, hv, _⟩ := rr.get hd
    exact ⟨vs, v, SqL.of (l.stab a _ fa ha), hv⟩
  stop := fun H F l => ⟨vs, SqL.of (l.stab a _ fa ha), by rw [rr.length]; exact Nat.le_refl _⟩
  yld := fun i H F x H' l hi y => by
    obtain ⟨e, y⟩ := y
    obtain ⟨d, hd⟩ : ∃ d, ds[i]? = some d := ⟨ds[i], List.getElem?_eq_getElem hi⟩
    obtain ⟨v, hv, rv⟩ := rr.get hd
    have := y vs (SqL.of (l.stab a _ fa ha))
    rw [hv] at this; cases this
    exact ⟨d, hd, .inl ⟨e, RepD.mono l.grow l.stab _ _ rv⟩⟩
theorem walk_tup {K : PySem.W.Frag} {F1 : AP1} {H1 : Hp} {a : Addr} {vs : List V} {ds : List PyData} (fa : F1 a) (ha : H1 a = some (.tup vs)) (rr : RepAll F1 H1 ds vs) : WalkD F1 H1 (Itt K a) ds where
  go := fun i H F l hi => by
    obtain ⟨d, hd⟩ : ∃ d, ds[i]? = some d := ⟨ds[i], List.getElem?_eq_getElem hi⟩
    obtain ⟨v, hv, _⟩ := rr.get hd
    exact ⟨vs, v, SqT.of (l.stab a _ fa ha), hv⟩
  stop := fun H F l => ⟨vs, SqT.of (l.stab a _ fa ha), by rw [rr.length]; exact Nat.le_refl _⟩
  yld := fun i H F x H' l hi y => by
    obtain ⟨e, y⟩ := y
    obtain ⟨d, hd⟩ : ∃ d, ds[i]? = some d := ⟨ds[i], List.getElem?_eq_getElem hi⟩
    obtain ⟨v, hv, rv⟩ := rr.get hd
    have := y vs (SqT.of (l.stab a _ fa ha))
    rw [hv] at this; cases this
    exact ⟨d, hd, .inl ⟨e, RepD.mono l.grow l.stab _ _ rv⟩⟩
theorem walk_range {F1 : AP1} {H1 : Hp} {lo : Int} {n : Nat} : WalkD F1 H1 (Itr lo n) ((List.range n).map fun (i : Nat) => PyData.int (lo + i)) where
  go := fun i H F l hi => by
    have hi' : i < n := by simpa using hi
    exact hi'
  stop := fun H F l => by simp [Itr]
  yld := fun i H F x H' l hi y => by
    obtain ⟨e, y⟩ := y
    subst y
    have hi' : i < n := by simpa using hi
    exact ⟨.int (lo + i), by simp [hi'], .inl ⟨e, by simp only [RepD]⟩⟩
theorem walk_rangeC {F1 : AP1} {H1 : Hp} {lo c : Int} {n : Nat} : WalkD F1 H1 (Itc lo c n) ((List.range n).map fun (i : Nat) => PyData.int (lo + i * c)) where
  go := fun i H F l hi => by
    have hi' : i < n := by simpa using hi
    exact hi'
  stop := fun H F l => by simp [Itc]
  yld := fun i H F x H' l hi y => by
    obtain ⟨e, y⟩ := y
    subst y
    have hi' : i < n := by simpa using hi
    exact ⟨.int (lo + (i : Nat) * c), by simp [hi'], .inl ⟨e, by simp only [RepD]⟩⟩

/-- data of a list or a tuple -/
@[simp] def seqD : PyData → Option (List PyData)
  | .list xs => some xs
  | .tuple xs => some xs
  | _ => none
@[simp] def dSeqI (da : DO) : DI := fun env Φ => da env fun ra env1 => shR ra env1 fun v env2 => ∃ x, v = .d x ∧ ∃ xs, seqD x = some xs ∧ Φ xs env2
section
variable {C : SC} {tg a b c : Expr} {da db dc : DO} {pos p : Pos}
theorem rep_seq {F : AP1} {H : Hp} {x : PyData} {xs : List PyData} {y : V} (h : seqD x = some xs) (r : RepD F H x y) : ∃ a vs, y = .ref a ∧ F a ∧ (H a = some (.lst vs) ∨ H a = some (.tup vs)) ∧ RepAll F H xs vs := by
  cases x with
  | list zs => cases h; simp only [RepD] at r; obtain ⟨a, vs, e, f, ha, rr⟩ := r; exact ⟨a, vs, e, f, .inl ha, rr⟩
  | tuple zs => cases h; simp only [RepD] at r; obtain ⟨a, vs, e, f, ha, rr⟩ := r; exact ⟨a, vs, e, f, .inr ha, rr⟩
  | _ => cases h
theorem si_seq (ha : SO C a da) : SI C tg a (dSeqI da) := by
  intro X fx G F env σ H Q Φ r h hQ
  intro pins s I
  have w := ha X fx G F env σ H (fun x H1 => ∃ c, x = .ref c ∧ ((∃ vs, SqL X.K H1 c vs ∧ Q (Itl X.K c) H1) ∨ ∃ vs, SqT X.K H1 c vs ∧ Q (Itt X.K c) H1)) _ r h fun r1 env1 F1 H1 x e1 q1 h1 => by
    obtain ⟨F2, env2, v, e2, _, rv, no, z, rfl, xs, hz, h2⟩ := share e1 q1 h1
    obtain ⟨c, vs, rfl, fc, hc, rr⟩ := rep_seq hz rv
    rcases hc with hc | hc
    · exact ⟨c, rfl, .inl ⟨vs, SqL.of hc, hQ xs env2 F2 H1 _ e2 (walk_list fc hc rr) h2⟩⟩
    · exact ⟨c, rfl, .inr ⟨vs, SqT.of hc, hQ xs env2 F2 H1 _ e2 (walk_tup fc hc rr) h2⟩⟩
  refine thn (w pins s I) fun v s1 ⟨x, H1, I1, r1, c, ex, q⟩ => ?_
  subst ex
  cases r1
  rcases q with ⟨vs, hq, q⟩ | ⟨vs, hq, q⟩
  · exact it_list I1 hq q
  · exact it_tup I1 hq q
theorem bn_of {X : Cx} (fx : Fits C X) {x : Str} (h : x ∈ bltNames) : X.mg x = none := fx.blt x h
@[simp] def dRng1 (da : DA) : DI := fun env Φ => da env fun vs env1 => ∃ j : Int, vs = [.d (.int j)] ∧ -(2 ^ 62) ≤ j ∧ j < 2 ^ 62 ∧ Φ ((List.range j.toNat).map fun (i : Nat) => PyData.int i) env1
@[simp] def dRng2 (da : DA) : DI := fun env Φ => da env fun vs env1 => ∃ i j : Int, vs = [.d (.int i), .d (.int j)] ∧ (-(2 ^ 62) ≤ i ∧ i < 2 ^ 62 ∧ -(2 ^ 62) ≤ j ∧ j < 2 ^ 62) ∧ Φ ((List.range (j - i).toNat).map fun (k : Nat) => PyData.int (i + k)) env1
@[simp] def dRng3 (da : DA) : DI := fun env Φ => da env fun vs env1 => ∃ (i j c : Int) (n : Nat), vs = [.d (.int i), .d (.int j), .d (.int c)] ∧ RgC i j c n ∧ Φ ((List.range n).map fun (k : Nat) => PyData.int (i + k * c)) env1
theorem si_rng1 {dA : DA} (hg : C.sc.names.lookup ("range" : Str) = some .globalImplicit) (ha : SA C [a] dA) (st : ∀ env, starEach [a] env = [(false, eval a env)]) : SI C tg (.Call (.Name "range" p) [a] [] pos) (dRng1 dA) := by
  intro X fx G F env σ H Q Φ r h hQ
  refine wi_of (pi_range1 (gl_of fx hg) (bn_of fx (by decide)) pa_w (st X.env)) ?_
  refine ha X fx G F env σ H _ _ r h fun vs env1 F1 H1 xs e1 rs h1 => ?_
  obtain ⟨j, rfl, j1, j2, h1⟩ := h1
  obtain ⟨x, t, rfl, ⟨rx, _⟩, rt⟩ := rs
  cases rt
  have rx : RepD F1 H1 (.int j) x := rx
  simp only [RepD] at rx
  subst rx
  refine ⟨j, rfl, j1, j2, hQ _ env1 F1 H1 _ e1 ?_ h1⟩
  have e : ((List.range j.toNat).map fun (i : Nat) => PyData.int i) = (List.range j.toNat).map fun (i : Nat) => PyData.int (0 + i) := by
    apply List.map_congr_left; intro i _; rw [Int.zero_add]
  rw [e]
  exact walk_range
theorem si_rng2 {dA : DA} (hg : C.sc.names.lookup ("range" : Str) = some .globalImplicit) (ha : SA C [a, b] dA) (st : ∀ env, starEach [a, b] env = [(false, eval a env), (false, eval b env)]) (st2 : ∀ env, starEach [b] env = [(false, eval b env)]) : SI C tg (.Call (.Name "range" p) [a, b] [] pos) (dRng2 dA) := by
  intro X fx G F env σ H Q Φ r h hQ
  refine wi_of (pi_range2 (gl_of fx hg) (bn_of fx (by decide)) pa_w (st X.env) (st2 X.env)) ?_
  refine ha X fx G F env σ H _ _ r h fun vs env1 F1 H1 xs e1 rs h1 => ?_
  obtain ⟨i, j, rfl, hb, h1⟩ := h1
  obtain ⟨x, t, rfl, ⟨rx, _⟩, rt⟩ := rs
  obtain ⟨y, t, rfl, ⟨ry, _⟩, rt⟩ := rt
  cases rt
  have rx : RepD F1 H1 (.int i) x := rx
  have ry : RepD F1 H1 (.int j) y := ry
  simp only [RepD] at rx ry
  subst rx ry
  exact ⟨i, j, rfl, hb, hQ _ env1 F1 H1 _ e1 walk_range h1⟩
theorem si_rng3 {dA : DA} (hg : C.sc.names.lookup ("range" : Str) = some .globalImplicit) (ha : SA C [a, b, c] dA) (st : ∀ env, starEach [a, b, c] env = (false, eval a env) :: starEach [b, c] env) (hpl : ∀ env, (backTo pos (starEach [b, c] env)).any (·.1) = false) :
    SI C tg (.Call (.Name "range" p) [a, b, c] [] pos) (dRng3 dA) := by
  intro X fx G F env σ H Q Φ r h hQ
  refine wi_of (pi_range3 (gl_of fx hg) (bn_of fx (by decide)) pa_w (st X.env) (hpl X.env)) ?_
  refine ha X fx G F env σ H _ _ r h fun vs env1 F1 H1 xs e1 rs h1 => ?_
  obtain ⟨i, j, k, n, rfl, hb, h1⟩ := h1
  obtain ⟨x, t, rfl, ⟨rx, _⟩, rt⟩ := rs
  obtain ⟨y, t, rfl, ⟨ry, _⟩, rt⟩ := rt
  obtain ⟨z, t, rfl, ⟨rz, _⟩, rt⟩ := rt
  cases rt
  have rx : RepD F1 H1 (.int i) x := rx
  have ry : RepD F1 H1 (.int j) y := ry
  have rz : RepD F1 H1 (.int k) z := rz
  simp only [RepD] at rx ry rz
  subst rx ry rz
  exact ⟨i, j, k, n, rfl, hb, hQ _ env1 F1 H1 _ e1 walk_rangeC h1⟩
end

/-! ### for -/
section
variable {C : SC} {tg iter : Expr} {di : DI} {dt : DT} {B : List Stmt} {d : DS} {pos : Pos}
def forW (dt : DT) (b : DS) (K : KE) : List PyData → Env → Prop
  | [], env => K.nx env
  | x :: xs, env => dt x env fun env1 => b { nx := forW dt b K xs, ct := forW dt b K xs, bk := K.nx, rt := K.rt } env1
@[simp] def dFor (di : DI) (dt : DT) (b : DS) : DS := fun K env => di env fun items env1 => forW dt b K items env1
/-- an item comes: the heap may have a new tuple -/
theorem WalkD.item {G : Gh} {F1 : AP1} {H1 : Hp} {J : It} {items : List PyData} (w : WalkD F1 H1 J items) {F : AP1} {env : Env} {σ : L2.St} {H H' : Hp} {i : Nat} {x : V} (r : R G F env σ H) (l : Lt F1 H1 F H) (hi : i < items.length) (y : J.yld i H x H') :
    ∃ d F', items[i]? = some d ∧ Ext G F env σ H F' env H' ∧ RepD F' H' d x := by
  obtain ⟨d, hd, ⟨rfl, rd⟩ | ⟨T, ds, vs, rfl, hT, rfl, rfl, rr⟩⟩ := w.yld i H F x H' l hi y
  · exact ⟨d, F, hd, .refl r, rd⟩
  · obtain ⟨e, q⟩ := res_tup r hT rr
    exact ⟨_, _, hd, e, q.rep⟩
theorem ss_for (hi : SI C tg iter di) (hg : SG C tg dt) (hb : SB C B d) (hs : ∀ env x, foldedSetIterable iter env x = pure x) : SS C (.For tg iter B [] pos) (dFor di dt d) := by
  intro X fx G F0 H0 F env σ H D K r h k
  refine ws_of (ps_for (by rw [fx.xe]; exact PassesOwn.never) fx.calm pi_w pg_w pb_w (hs X.env)) ?_
  refine hi X fx G F env σ H _ _ r.r h fun items env1 F1 H1 J e1 w h1 => ?_
  have r1 := r.step e1
  have l1 := e1.lt r.r
  refine ⟨fun i m σ' H' => i ≤ items.length ∧ m = items.length - i ∧ ∃ F' env', RS G F0 H0 F' env' σ' H' ∧ Lt F1 H1 F' H' ∧ forW dt d K (items.drop i) env', ⟨items.length, Nat.zero_le _, rfl, F1, env1, r1, .refl, h1⟩, ?_⟩
  rintro i m σ2 H2 ⟨hle, rfl, F2, env2, r2, l2, h2⟩
  by_cases hlt : i < items.length
  · refine .inr ⟨w.go i H2 F2 l2 hlt, fun σ' H' => ∃ F' env', RS G F0 H0 F' env' σ' H' ∧ Lt F1 H1 F' H' ∧ forW dt d K (items.drop (i + 1)) env', fun σ' H' q => ⟨items.length - (i + 1), by omega, hlt, rfl, q⟩, fun x H3 y => ?_⟩
    obtain ⟨z, F3, hz, e3, rz⟩ := w.item r2.r l2 hlt y
    have hd : items.drop i = z :: items.drop (i + 1) := by
      rw [List.drop_eq_getElem_cons hlt]
      rw [List.getElem?_eq_getElem hlt] at hz
      cases hz; rfl
    rw [hd] at h2
    have r3 := r2.step e3
    have l3 := l2.trans (e3.lt r2.r)
    refine hg X fx G F0 H0 F3 env2 σ2 H3 z x _ _ r3 rz h2 fun env4 F4 σ4 H4 r4 l4 h4 => ?_
    have l14 := l3.trans l4
    have k4 := (k.later l1).later l14
    exact hb X fx G F0 H0 F4 env4 σ4 H4 _ _ r4 h4 ⟨fun env' F' σ' H' r' l' q => ⟨F', env', r', l14.trans l', q⟩, fun env' F' σ' H' r' l' q => k4.nx env' F' σ' H' r' l' q, fun env' F' σ' H' r' l' q => ⟨F', env', r', l14.trans l', q⟩, k.rt⟩
  · have e : i = items.length := by omega
    subst e
    refine .inl ⟨w.stop H2 F2 l2, ?_⟩
    rw [List.drop_length] at h2
    exact k.nx env2 F2 σ2 H2 r2 (l1.trans l2) h2
end

/-! ### comprehensions -/
@[simp] def wipeE (env : Env) : List Nat → Env
  | [] => env
  | v :: vs => (wipeE env vs).set v none
theorem wipeE_length (env : Env) : ∀ vs, (wipeE env vs).length = env.length
  | [] => rfl
  | v :: vs => by unfold wipeE; rw [List.length_set, wipeE_length env vs]
theorem wipeE_some {env : Env} {i : Nat} {x : Val} : ∀ {vs : List Nat}, (wipeE env vs)[i]? = some (some x) → env[i]? = some (some x) ∧ i ∉ vs
  | [], h => ⟨h, by simp⟩
  | v :: vs, h => by
    unfold wipeE at h
    by_cases hi : v = i
    · subst hi
      by_cases hv : v < (wipeE env vs).length
      · rw [List.getElem?_set_self hv] at h; cases h
      · rw [List.getElem?_eq_none (by simpa using hv)] at h; cases h
    · rw [List.getElem?_set_ne hi] at h
      obtain ⟨h1, h2⟩ := wipeE_some h
      exact ⟨h1, by simp only [List.mem_cons, not_or]; exact ⟨fun e => hi e.symm, h2⟩⟩
/-- the outer data at the block's own slots come back -/
@[simp] def backE (env1 env2 : Env) : List Nat → Env
  | [] => env2
  | v :: vs => match env1[v]? with
    | some (some (.d z)) => (backE env1 env2 vs).set v (some (.d z))
    | _ => backE env1 env2 vs
theorem backE_length (env1 env2 : Env) : ∀ vs, (backE env1 env2 vs).length = env2.length
  | [] => rfl
  | v :: vs => by
    unfold backE
    split
    · rw [List.length_set, backE_length env1 env2 vs]
    · exact backE_length env1 env2 vs
theorem backE_some {env1 env2 : Env} {i : Nat} {x : Val} : ∀ {vs : List Nat}, (backE env1 env2 vs)[i]? = some (some x) → env2[i]? = some (some x) ∨ ∃ z, x = .d z ∧ env1[i]? = some (some (.d z))
  | [], h => .inl h
  | v :: vs, h => by
    unfold backE at h
    split at h
    · rename_i z ez
      rcases setEnv_get h with ⟨rfl, rfl⟩ | ⟨ne, h⟩
      · exact .inr ⟨z, rfl, ez⟩
      · exact backE_some h
    · exact backE_some h
section
variable {G : Gh} {F F' : AP1} {env env' : Env} {σ : L2.St} {H H' : Hp}
/-- fewer names are known -/
theorem R.less {σ' : L2.St} (r : R G F env σ H) (hl : env'.length = σ'.length) (h : ∀ (i : Nat) (w : Val), env'[i]? = some (some w) → env[i]? = some (some w) ∧ σ'[i]? = σ[i]?) : R G F env' σ' H := by
  have ow : ∀ a, OwnS env' σ' a → OwnS env σ a := fun a ⟨i, w, e, o, s⟩ => let ⟨h1, h2⟩ := h i w e; ⟨i, w, h1, o, by rw [← h2]; exact s⟩
  refine ⟨hl, fun i w e => ?_, fun i j v w a ei ej ov ow' si sj => ?_, r.al, fun p g e => ?_⟩
  · obtain ⟨h1, h2⟩ := h i w e
    obtain ⟨x, sx, rx⟩ := r.rep i w h1
    exact ⟨x, h2.trans sx, rx⟩
  · obtain ⟨h1, h2⟩ := h i v ei
    obtain ⟨h3, h4⟩ := h j w ej
    exact r.sep i j v w a h1 h3 ov ow' (by rw [← h2]; exact si) (by rw [← h4]; exact sj)
  · obtain ⟨h1, h2, h3, h4⟩ := r.pt p g e
    exact ⟨h1, h2, h3, fun a ha => h4 a (ow a ha)⟩
theorem R.wipe (r : R G F env σ H) (vs : List Nat) : R G F (wipeE env vs) (wipe σ vs) H :=
  r.less (by rw [wipeE_length, wipe_length]; exact r.len) fun i w e => let ⟨h1, h2⟩ := wipeE_some e; ⟨h1, wipe_get h2⟩
theorem OwnS.wiped {vs : List Nat} {a : Addr} (h : OwnS (wipeE env vs) (wipe σ vs) a) : OwnS env σ a := by
  obtain ⟨i, w, e, o, s⟩ := h
  obtain ⟨h1, h2⟩ := wipeE_some e
  rw [wipe_get h2] at s
  exact ⟨i, w, h1, o, s⟩
/-- a new thing that nobody's name holds is changed -/
theorem Ext.touch {F1 : AP1} {env1 : Env} {H1 : Hp} (e : Ext G F env σ H F1 env1 H1) {D : Addr} {o : HO} (h0 : H D = none) (nF : ¬ F1 D) (nO : ¬ OwnS env1 σ D) (nP : ¬ InPot G D) : Ext G F env σ H F1 env1 (upd H1 D o) := by
  have k : ∀ a u, a ≠ D → H1 a = some u → upd H1 D o a = some u := fun a u n h => by rw [upd_ne n]; exact h
  have st : ∀ a u, F1 a → H1 a = some u → upd H1 D o a = some u := fun a u f h => k a u (fun z => nF (z ▸ f)) h
  refine ⟨⟨e.r.len, fun i v ev => ?_, e.r.sep, fun a f => ?_, fun p g eg => ?_⟩, fun a u h n1 n2 => k a u (fun z => by rw [z, h0] at h; cases h) (e.keep a u h n1 n2), fun a u h => ?_, e.grow, e.fro, e.ownd⟩
  · obtain ⟨x, sx, rv⟩ := e.r.rep i v ev
    refine ⟨x, sx, ?_⟩
    cases v with
    | d z => exact RepD.mono (fun _ h => h) st _ _ rv
    | pot => exact rv
    | own xs =>
      obtain ⟨a, vs, rfl, n, ha, rr⟩ := rv
      exact ⟨a, vs, rfl, n, k a _ (fun z => nO ⟨i, _, ev, rfl, z ▸ sx⟩) ha, RepAll.mono (fun _ h => h) st _ _ rr⟩
    | odk b kvs =>
      obtain ⟨a, vs, ob, rfl, n, rr, ha, ho⟩ := rv
      exact ⟨a, vs, ob, rfl, n, RepAll.mono (fun _ h => h) st _ _ rr, k a _ (fun z => nO ⟨i, _, ev, rfl, z ▸ sx⟩) ha, ho⟩
  · obtain ⟨u, h⟩ := e.r.al a f
    exact ⟨u, st a u f h⟩
  · obtain ⟨⟨ns, sl, tn, h1, h2, h3⟩, h4, h5, h6⟩ := e.r.pt p g eg
    exact ⟨⟨ns, sl, tn, k _ _ (fun z => nP ⟨p, g, eg, .inl z.symm⟩) h1, k _ _ (fun z => nP ⟨p, g, eg, .inr z.symm⟩) h2, h3⟩, h4, h5, h6⟩
  · obtain ⟨u', h'⟩ := e.live a u h
    by_cases z : a = D
    · subst z; exact ⟨o, upd_same⟩
    · exact ⟨u', k a u' z h'⟩
end
def compW (dt : DT) (dc : DB) (de : DO) (vs : List Nat) : List PyData → Env → List PyData → (List PyData → Env → Prop) → Prop
  | [], env, acc, Φ => Φ acc env
  | x :: xs, env, acc, Φ => dt x env fun env1 => dc env1 fun b env2 =>
    (b = true → de env2 fun r env3 => shR r env3 fun v env4 => ∃ d, v = .d d ∧ acc.length < 16777216 ∧ compW dt dc de vs xs (wipeE env4 vs) (acc ++ [d]) Φ) ∧ (b = false → compW dt dc de vs xs (wipeE env2 vs) acc Φ)
@[simp] def dLc (vs : List Nat) (di : DI) (dt : DT) (dc : DB) (de : DO) : DO := fun env Φ => di env fun items env1 => compW dt dc de vs items (wipeE env1 vs) [] fun ds env2 => Φ (.v (.own ds)) (backE env1 env2 vs)
def blkSC (C : SC) (scope : Scope) : SC := { C with sc := relS scope C.sc, own := (scope.names.filter fun p => p.2 == .cell).map (·.1) }
theorem own_blk {C : SC} {scope : Scope} (nd : ∀ y ∈ scope.names, scope.names.lookup y.1 = some y.2) : ∀ x ∈ (blkSC C scope).own, scope.names.lookup x = some .cell := fun x hx => by
  obtain ⟨p, hp, rfl⟩ := List.mem_map.mp hx
  obtain ⟨h1, h2⟩ := List.mem_filter.mp hp
  rw [nd p h1]
  simpa using h2
theorem fits_blk {C : SC} {X : Cx} (fx : Fits C X) {scope : Scope} {own : List (Str × Nat)} (ok : BlkOk X.N X.env.scope scope own) (s : Shared) (H : Hp) (A : Addr) (cl : List (Str × Addr)) (fp : List Addr) : Fits (blkSC C scope) (X.blk s H scope (compEnvC scope cl A X.env) fp) where
  n := fx.n
  nd := fx.nd
  sc := by
    show relS scope X.env.scope = relS scope C.sc
    rw [fx.sc]
  kind := ok.kind
  calm := fx.calm
  xe := rfl
  fn := fun x hx => by
    show (scope.names.lookup x == some .cell) = true
    rw [own_blk ok.uniq x hx]
    rfl
  blt := fx.blt
  glb := fx.glb
  fns := fun f hf => ⟨(fx.fns f hf).ex⟩
  grd := fx.grd
  units := fx.units
/-- the tests of a comprehension: none or one -/
def STs (C : SC) (ifs : List Expr) (d : DB) : Prop := ∀ (X : Cx), Fits C X → ∀ (G : Gh) (F : AP1) (env : Env) (σ : L2.St) (H : Hp) (Q : Bool → Hp → Prop) (Φ : Bool → Env → Prop), R G F env σ H → d env Φ →
  (∀ b env' F' H', Ext G F env σ H F' env' H' → Φ b env' → Q b H') → ∃ t, PTs X ifs t ∧ t σ H Q
@[simp] def dYes : DB := fun env Φ => Φ true env
theorem sts_nil {C : SC} : STs C [] dYes := by
  intro X fx G F env σ H Q Φ r h hQ
  exact ⟨_, pts_nil, hQ true env F H (.refl r) h⟩
theorem sts_one {C : SC} {c : Expr} {d : DB} (h : STe C c d) : STs C [c] d := by
  intro X fx G F env σ H Q Φ r hd hQ
  exact ⟨_, pts_one pt_w, h X fx G F env σ H Q Φ r hd hQ⟩
def wTs (X : Cx) (ifs : List Expr) : TT := fun σ H Q => ∃ t, PTs X ifs t ∧ t σ H Q
theorem pts_w {X : Cx} {ifs : List Expr} : PTs X ifs (wTs X ifs) := ⟨fun pins s σ H Q I h => let ⟨t, ht, q⟩ := h; ht.run pins s σ H Q I q⟩
/-- the readings of the block's parts, in whatever block -/
def bG (X : Cx) (scope : Scope) (tg : Expr) : TG := fun v σ H Q => ∀ (s : Shared) (H' : Hp) (A : Addr) (cl : List (Str × Addr)) (fp : List Addr), wG (X.blk s H' scope (compEnvC scope cl A X.env) fp) tg v σ H Q
def bT (X : Cx) (scope : Scope) (ifs : List Expr) : TT := fun σ H Q => ∀ (s : Shared) (H' : Hp) (A : Addr) (cl : List (Str × Addr)) (fp : List Addr), wTs (X.blk s H' scope (compEnvC scope cl A X.env) fp) ifs σ H Q
def bE (X : Cx) (scope : Scope) (e : Expr) : TE := fun σ H Q => ∀ (s : Shared) (H' : Hp) (A : Addr) (cl : List (Str × Addr)) (fp : List Addr), wE (X.blk s H' scope (compEnvC scope cl A X.env) fp) e σ H Q
section
variable {C : SC} {tg iter elt : Expr} {ifs : List Expr} {scope : Scope} {own : List (Str × Nat)} {di : DI} {dt : DT} {dc : DB} {de : DO} {sl : List Nat} {pos : Pos}
theorem lc_run0 {X : Cx} (fx : Fits C X) (ok : BlkOk X.N X.env.scope scope own) (hg : SGn (blkSC C scope) tg sl dt) (hsl : ∀ i ∈ sl, i ∈ own.map (·.2)) (ht : STs (blkSC C scope) ifs dc) (he : SO (blkSC C scope) elt de)
    {G : Gh} {F : AP1} {env : Env} {σ : L2.St} {H : Hp} {Q : VK} {Φ : Rv → Env → Prop}
    (hi : ∀ (Q' : It → Hp → Prop) (Φ' : List PyData → Env → Prop), di env Φ' → (∀ items env' F' H' J, Ext G F env σ H F' env' H' → WalkD F' H' J items → Φ' items env' → Q' J H') → wI X tg iter σ H Q')
    (h : dLc (own.map (·.2)) di dt dc de env Φ)
    (hQ : ∀ ds env' F' H' x, Ext G F env σ H F' env' H' → Res G env σ H F' env' H' (.own ds) x → Φ (.v (.own ds)) env' → Q x H') :
    tLc (wI X tg iter) (bG X scope tg) (bT X scope ifs) (bE X scope elt) (own.map (·.2)) σ H Q := by
  generalize own.map (·.2) = vs at *
  refine hi _ _ h fun items env1 F1 H1 J e1 w h1 => ?_
  intro D hD
  have r1 := e1.r
  have rw1 := r1.wipe vs
  have nD : ¬ F1 D := r1.freshF hD
  have oD : ¬ OwnS env1 σ D := r1.freshO hD
  have pD : ¬ InPot G D := r1.freshP hD
  have e0 : Ext G F1 (wipeE env1 vs) (wipe σ vs) H1 F1 (wipeE env1 vs) (upd H1 D (.lst [])) := (Ext.refl rw1).touch hD nD (fun z => oD z.wiped) pD
  refine ⟨fun i m H' => i ≤ items.length ∧ m = items.length - i ∧ ∃ F' env' acc accV, Ext G F1 (wipeE env1 vs) (wipe σ vs) H1 F' env' H' ∧ H' D = some (.lst accV) ∧ RepAll F' H' acc accV ∧ ¬ F' D ∧ ¬ OwnS env' (wipe σ vs) D ∧
    compW dt dc de vs (items.drop i) env' acc (fun ds env2 => Φ (.v (.own ds)) (backE env1 env2 vs)), ⟨items.length, Nat.zero_le _, rfl, F1, wipeE env1 vs, [], [], e0, upd_same, .nil, nD, fun z => oD z.wiped, h1⟩, ?_⟩
  rintro i m H2 ⟨hle, rfl, F2, env2, acc, accV, e2, hD2, ra, nD2, oD2, h2⟩
  have l2 : Lt F1 H1 F2 H2 := e2.lt rw1
  by_cases hlt : i < items.length
  · refine .inr ⟨w.go i H2 F2 l2 hlt, fun H' => ∃ F' env' acc accV, Ext G F1 (wipeE env1 vs) (wipe σ vs) H1 F' env' H' ∧ H' D = some (.lst accV) ∧ RepAll F' H' acc accV ∧ ¬ F' D ∧ ¬ OwnS env' (wipe σ vs) D ∧
      compW dt dc de vs (items.drop (i + 1)) env' acc (fun ds env2 => Φ (.v (.own ds)) (backE env1 env2 vs)), fun H' q => ⟨items.length - (i + 1), by omega, hlt, rfl, q⟩, fun x H3 y => ?_⟩
    obtain ⟨z, F3, hz, e3, rz⟩ := w.item e2.r l2 hlt y
    have hd : items.drop i = z :: items.drop (i + 1) := by
      rw [List.drop_eq_getElem_cons hlt]
      rw [List.getElem?_eq_getElem hlt] at hz
      cases hz; rfl
    rw [hd] at h2
    have e13 := e2.trans e3
    have kD3 : H3 D = some (.lst accV) := e3.keep D _ hD2 oD2 pD
    have nD3 : ¬ F3 D := fun f => by
      rcases e3.fro D f with q | q | q | ⟨_, q⟩
      · exact nD2 q
      · exact oD2 q
      · rw [hD2] at q; cases q
      · rw [hD2] at q; cases q
    have ra3 := e3.repA e2.r ra
    intro s' H' A cl fp
    have fb := fits_blk fx ok s' H' A cl fp
    refine hg _ fb G F3 env2 (wipe σ vs) H3 z x _ _ e3.r rz h2 fun env4 σ4 r4 o4 w4 h4 => ?_
    have w4' : wipe σ4 vs = wipe σ vs := by rw [w4 vs hsl, wipe_wipe]
    refine ⟨w4', ?_⟩
    have oD4 : ¬ OwnS env4 σ4 D := fun q => oD2 (o4 D q)
    -- from the turn's own slots back to the wiped ones
    have fin : ∀ {F5 : AP1} {env5 : Env} {H5 : Hp}, Ext G F3 env4 σ4 H3 F5 env5 H5 → Ext G F1 (wipeE env1 vs) (wipe σ vs) H1 F5 (wipeE env5 vs) H5 ∧ ¬ OwnS (wipeE env5 vs) (wipe σ vs) D := fun {F5 env5 H5} e5 => by
      have r5 := e5.r.wipe vs
      rw [w4'] at r5
      have ow : ∀ a, OwnS (wipeE env5 vs) (wipe σ vs) a → OwnS env4 σ4 a := fun a q => e5.ownd a (by rw [← w4'] at q; exact q.wiped)
      refine ⟨⟨r5, fun a o q n1 n2 => e5.keep a o (e13.keep a o q n1 n2) (fun z => n1 (e2.ownd a (o4 a z))) n2, fun a o q => ?_, fun a q => e5.grow a (e13.grow a q), fun a q => ?_, fun a q => e2.ownd a (o4 a (ow a q))⟩, fun q => oD4 (ow D q)⟩
      · obtain ⟨o', q'⟩ := e13.live a o q
        exact e5.live a o' q'
      · rcases e5.fro a q with q | q | q | ⟨xs, q⟩
        · exact e13.fro a q
        · exact .inr (.inl (e2.ownd a (o4 a q)))
        · exact .inr (.inr (.inl (e13.free q)))
        · exact .inr (e13.tup q)
    intro s'' H'' A' cl' fp'
    have fb' := fits_blk fx ok s'' H'' A' cl' fp'
    refine ht _ fb' G F3 env4 σ4 H3 _ _ r4 h4 fun b env5 F5 H5 e5 h5 => ?_
    have kD5 : H5 D = some (.lst accV) := e5.keep D _ kD3 oD4 pD
    have nD5 : ¬ F5 D := fun f => by
      rcases e5.fro D f with q | q | q | ⟨_, q⟩
      · exact nD3 q
      · exact oD4 q
      · rw [kD3] at q; cases q
      · rw [kD3] at q; cases q
    have ra5 := e5.repA r4 ra3
    have oD5 : ¬ OwnS env5 σ4 D := fun q => oD4 (e5.ownd D q)
    cases b with
    | false =>
      refine iteF ?_
      obtain ⟨e6, o6⟩ := fin e5
      exact ⟨F5, _, acc, accV, e6, kD5, ra5, nD5, o6, h5.2 rfl⟩
    | true =>
      refine iteT ?_
      intro s3 H3' A3 cl3 fp3
      have fb3 := fits_blk fx ok s3 H3' A3 cl3 fp3
      refine he _ fb3 G F5 env5 σ4 H5 _ _ e5.r (h5.1 rfl) fun r6 env6 F6 H6 y6 e6 q6 h6 => ?_
      obtain ⟨F7, env7, v, e7, g7, rv, no, d, rfl, hl, h7⟩ := share e6 q6 h6
      have kD6 : H6 D = some (.lst accV) := e6.keep D _ kD5 oD5 pD
      have nD7 : ¬ F7 D := fun f => by
        rcases e7.fro D f with q | q | q | ⟨_, q⟩
        · exact nD5 q
        · exact oD5 q
        · rw [kD5] at q; cases q
        · rw [kD5] at q; cases q
      have ra7 := e7.repA e5.r ra5
      obtain ⟨e8, o8⟩ := fin (e5.trans e7)
      refine ⟨accV, kD6, by rw [ra.length, sizeLine_eq]; exact hl, F7, _, acc ++ [d], accV ++ [y6], e8.touch hD nD7 o8 pD, upd_same, ?_, nD7, o8, h7⟩
      have st : ∀ a u, F7 a → H6 a = some u → upd H6 D (.lst (accV ++ [y6])) a = some u := fun a u f q => by rw [upd_ne (fun z : a = D => nD7 (z ▸ f))]; exact q
      exact RepAll.append (RepAll.mono (fun _ h => h) st _ _ ra7) (.cons (RepD.mono (fun _ h => h) st _ _ rv) .nil)
  · have e : i = items.length := by omega
    subst e
    refine .inl ⟨w.stop H2 F2 l2, ?_⟩
    rw [List.drop_length] at h2
    -- back to the outer names
    have ln : (backE env1 env2 vs).length = σ.length := by
      rw [backE_length, e2.r.len, wipe_length]
    have nf : ∀ a, OwnS env1 σ a → ¬ OwnS (wipeE env1 vs) (wipe σ vs) a → ∀ o, H1 a = some o → H2 a = some o := fun a q n o q' => e2.keep a o q' n fun z => r1.potO z q
    have rB : R G F2 (backE env1 env2 vs) σ H2 := by
      have gw : ∀ (j : Nat) (u : Val), (backE env1 env2 vs)[j]? = some (some u) → isOwn u = true → env2[j]? = some (some u) ∧ (wipe σ vs)[j]? = σ[j]? := fun j u ej ho => by
        rcases backE_some ej with q | ⟨z, rfl, q⟩
        · refine ⟨q, ?_⟩
          obtain ⟨x, sx, _⟩ := e2.r.rep j u q
          exact sx.trans (wipe_some sx).1.symm
        · cases ho
      refine ⟨ln, fun j u ej => ?_, fun j l u u' a ej el ou ou' sj sl => ?_, e2.r.al, fun p g eg => ?_⟩
      · rcases backE_some ej with q | ⟨z, rfl, q⟩
        · obtain ⟨x, sx, rx⟩ := e2.r.rep j u q
          exact ⟨x, (wipe_some sx).1, rx⟩
        · obtain ⟨x, sx, rx⟩ := r1.rep j _ q
          exact ⟨x, sx, RepD.mono l2.grow l2.stab _ _ rx⟩
      · obtain ⟨q1, q2⟩ := gw j u ej ou
        obtain ⟨q3, q4⟩ := gw l u' el ou'
        exact e2.r.sep j l u u' a q1 q3 ou ou' (q2.trans sj) (q4.trans sl)
      · obtain ⟨a1, a2, a3, a4⟩ := e2.r.pt p g eg
        refine ⟨a1, a2, a3, fun a ⟨j, u, ej, ou, sj⟩ => ?_⟩
        obtain ⟨q1, q2⟩ := gw j u ej ou
        exact a4 a ⟨j, u, q1, ou, q2.trans sj⟩
    have owB : ∀ a, OwnS (backE env1 env2 vs) σ a → OwnS env2 (wipe σ vs) a := fun a ⟨j, u, ej, ou, sj⟩ => by
      rcases backE_some ej with q | ⟨z, rfl, q⟩
      · obtain ⟨x, sx, _⟩ := e2.r.rep j u q
        rw [(wipe_some sx).1] at sj
        cases sj
        exact ⟨j, u, q, ou, sx⟩
      · cases ou
    have eB : Ext G F1 env1 σ H1 F2 (backE env1 env2 vs) H2 := ⟨rB, fun a o q n1 n2 => e2.keep a o q (fun z => n1 z.wiped) n2, e2.live, e2.grow, fun a q => (e2.fro a q).imp id (·.imp (·.wiped) id), fun a q => (e2.ownd a (owB a q)).wiped⟩
    exact hQ acc _ F2 H2 (.ref D) (e1.trans eB) ⟨⟨D, accV, rfl, nD2, hD2, ra⟩, fun _ a ea => by cases ea; exact ⟨.inr (e1.free hD), fun z => oD2 (owB D z), pD⟩⟩ h2
theorem lc_run {X : Cx} (fx : Fits C X) (ok : BlkOk X.N X.env.scope scope own) (hi : SI C tg iter di) (hg : SGn (blkSC C scope) tg sl dt) (hsl : ∀ i ∈ sl, i ∈ own.map (·.2)) (ht : STs (blkSC C scope) ifs dc) (he : SO (blkSC C scope) elt de)
    {G : Gh} {F : AP1} {env : Env} {σ : L2.St} {H : Hp} {Q : VK} {Φ : Rv → Env → Prop} (r : R G F env σ H) (h : dLc (own.map (·.2)) di dt dc de env Φ)
    (hQ : ∀ ds env' F' H' x, Ext G F env σ H F' env' H' → Res G env σ H F' env' H' (.own ds) x → Φ (.v (.own ds)) env' → Q x H') :
    tLc (wI X tg iter) (bG X scope tg) (bT X scope ifs) (bE X scope elt) (own.map (·.2)) σ H Q :=
  lc_run0 fx ok hg hsl ht he (fun Q' Φ' h k => hi X fx G F env σ H Q' Φ' r h k) h hQ
theorem lc_at {X : Cx} (fx : Fits C X) (ok : BlkOk C.N C.sc scope own) (hg : SGn (blkSC C scope) tg sl dt) (hsl : ∀ i ∈ sl, i ∈ own.map (·.2)) (ht : STs (blkSC C scope) ifs dc) (he : SO (blkSC C scope) elt de) (hs : ∀ env x, foldedSetIterable iter env x = pure x)
    {G : Gh} {F : AP1} {env : Env} {σ : L2.St} {H : Hp} {Q : VK} {Φ : Rv → Env → Prop}
    (hi : ∀ (Q' : It → Hp → Prop) (Φ' : List PyData → Env → Prop), di env Φ' → (∀ items env' F' H' J, Ext G F env σ H F' env' H' → WalkD F' H' J items → Φ' items env' → Q' J H') → wI X tg iter σ H Q')
    (h : dLc (own.map (·.2)) di dt dc de env Φ) (hQ : ∀ ds env' F' H' x, Ext G F env σ H F' env' H' → Res G env σ H F' env' H' (.own ds) x → Φ (.v (.own ds)) env' → Q x H') :
    wE X (.ListComp elt [⟨tg, iter, ifs, 0⟩] scope pos) σ H Q := by
  have ok' : BlkOk X.N X.env.scope scope own := by rw [fx.n, fx.sc]; exact ok
  refine w_of (pe_lc (own := own) fx.calm fx.nd pi_w ok' (g := bG X scope tg) (tt := bT X scope ifs) (te := bE X scope elt) (fun s H' A cl fp => ⟨fun pins s' σ H v u Q I rv q => q s H' A cl fp pins s' u I rv⟩)
    (fun s H' A cl fp => ⟨fun pins s' σ H Q I q => pts_w.run pins s' σ H Q I (q s H' A cl fp)⟩) (fun s H' A cl fp => ⟨fun pins s' σ H Q I q => q s H' A cl fp pins s' I⟩) (hs X.env)) ?_
  exact lc_run0 fx ok' hg hsl ht he hi h hQ
theorem so_lc (ok : BlkOk C.N C.sc scope own) (hi : SI C tg iter di) (hg : SGn (blkSC C scope) tg sl dt) (hsl : ∀ i ∈ sl, i ∈ own.map (·.2)) (ht : STs (blkSC C scope) ifs dc) (he : SO (blkSC C scope) elt de)
    (hs : ∀ env x, foldedSetIterable iter env x = pure x) : SO C (.ListComp elt [⟨tg, iter, ifs, 0⟩] scope pos) (dLc (own.map (·.2)) di dt dc de) := by
  intro X fx G F env σ H Q Φ r h hQ
  have ok' : BlkOk X.N X.env.scope scope own := by rw [fx.n, fx.sc]; exact ok
  refine w_of (pe_lc (own := own) fx.calm fx.nd pi_w ok' (g := bG X scope tg) (tt := bT X scope ifs) (te := bE X scope elt) (fun s H' A cl fp => ⟨fun pins s' σ H v u Q I rv q => q s H' A cl fp pins s' u I rv⟩)
    (fun s H' A cl fp => ⟨fun pins s' σ H Q I q => pts_w.run pins s' σ H Q I (q s H' A cl fp)⟩) (fun s H' A cl fp => ⟨fun pins s' σ H Q I q => q s H' A cl fp pins s' I⟩) (hs X.env)) ?_
  exact lc_run fx ok' hi hg hsl ht he r h fun ds env' F' H' x e q hz => hQ (.v _) env' F' H' x e q hz
/-- name = [..] on one line -/
theorem ss_lc {i : Nat} {y : Str} {p spos : Pos} (hy : C.N[i]? = some y) (hyl : C.sc.names.lookup y = some .local) (ok : BlkOk C.N C.sc scope own) (hi : SI C tg iter di) (hg : SGn (blkSC C scope) tg sl dt) (hsl : ∀ i ∈ sl, i ∈ own.map (·.2)) (ht : STs (blkSC C scope) ifs dc) (he : SO (blkSC C scope) elt de)
    (hs : ∀ env x, foldedSetIterable iter env x = pure x) (hl : (p.line == pos.line) = true) (hany : (scope.names.any fun (n, k) => n == y && (k == .local || k == .cell)) = false) :
    SS C (.Assign [.Name y p] (.ListComp elt [⟨tg, iter, ifs, 0⟩] scope pos) spos) (dSet i (dLc (own.map (·.2)) di dt dc de)) := by
  intro X fx G F0 H0 F env σ H D K r h k
  have ok' : BlkOk X.N X.env.scope scope own := by rw [fx.n, fx.sc]; exact ok
  refine ws_of (ps_setLc (i := i) (own := own) fx.calm fx.nd (by rw [fx.n]; exact hy) (by rw [fx.sc]; exact hyl) (sw_true fx.kind (by rw [fx.sc]; exact hyl) hl hany) pi_w ok' (g := bG X scope tg) (tt := bT X scope ifs) (te := bE X scope elt) (fun s H' A cl fp => ⟨fun pins s' σ H v u Q I rv q => q s H' A cl fp pins s' u I rv⟩)
    (fun s H' A cl fp => ⟨fun pins s' σ H Q I q => pts_w.run pins s' σ H Q I (q s H' A cl fp)⟩) (fun s H' A cl fp => ⟨fun pins s' σ H Q I q => q s H' A cl fp pins s' I⟩) (hs X.env)) ?_
  exact lc_run fx ok' hi hg hsl ht he r.r h fun ds env1 F1 H1 x e1 q1 h1 => by
    obtain ⟨F2, env2, v, e2, q2, hl, h2⟩ := move (r := .v (.own ds)) e1 q1 h1
    exact k.nx _ F2 _ H1 (r.put e2 q2 hl) (e2.lt r.r) h2
end
end Ev
set_option Elab.async false
set_option linter.all false
set_option maxRecDepth 100000
/-! Ev7: enumerate and zip over lists and tuples, mixed. -/
namespace Ev
open PySem PySem.Spec PyProof.Rows L2

/-- a list (false) or a tuple (true) that is tracked -/
def srcHO (k : Bool) (xs : List V) : HO := if k then .tup xs else .lst xs
def itAt (k : Bool) (h : Heap) (it a : Addr) (i : Nat) : Prop := if k then h.IsTupleIter it a i else h.IsListIter it a i
def stAt (k : Bool) (it a : Addr) (items : Array Value) (i : Nat) (h : Heap) : Prop := itAt k h it a i ∧ if k then h.IsTuple a items else h.IsList a items
theorem itAt.at {k : Bool} {h h' : Heap} {it a : Addr} {i : Nat} (x : itAt k h it a i) (hk : ∀ o, h.get? it = some o → h'.get? it = some o) : itAt k h' it a i := by
  cases k
  · exact (show h.IsListIter it a i from x).at hk
  · exact (show h.IsTupleIter it a i from x).at hk
theorem itAt.obj {k : Bool} {h : Heap} {it a : Addr} {i : Nat} (x : itAt k h it a i) : ∃ o, h.get? it = some o ∧ ∀ v, o.data ≠ .cell v := by
  cases k
  · obtain ⟨o, e, c, d⟩ := (show h.IsListIter it a i from x)
    exact ⟨o, e, fun v z => by rw [d] at z; cases z⟩
  · obtain ⟨o, e, c, d⟩ := (show h.IsTupleIter it a i from x)
    exact ⟨o, e, fun v z => by rw [d] at z; cases z⟩
theorem draws_src {prog : Program} {w : World} {A : Around} (k : Bool) (hh : A.handled = none) (it a : Addr) (hne : a ≠ it) (items : Array Value) :
    Draws prog w A it [it, a] items.size (fun i v => items[i]? = some v) (stAt k it a items) := by
  cases k
  · exact Draws.list hh it a hne items
  · exact Draws.tuple hh it a hne items
section
variable {X : Cx} {pins : List (Addr × Obj)} {σ : L2.St} {H : Hp} {s : Shared} {a : Addr} {xs : List V} {k : Bool}
theorem src_at (I : Inv X pins σ H s) (h : H a = some (srcHO k xs)) : ∃ its : List Value, Vals xs its ∧ (if k then s.heap.IsTuple a its.toArray else s.heap.IsList a its.toArray) ∧ ∃ o, s.heap.get? a = some o := by
  cases k
  · obtain ⟨its, rv, p, hz⟩ := I.list (SqL.of h)
    exact ⟨its, rv, p.isList, let ⟨o, n, e, _⟩ := p; ⟨o, e⟩⟩
  · obtain ⟨its, rv, p, hz⟩ := I.tuple (SqT.of h)
    exact ⟨its, rv, p, let ⟨o, e, _⟩ := p; ⟨o, e⟩⟩
end
theorem begins_src (k : Bool) (a : Addr) (items : Array Value) : ∃ o, Begins (.ref a) o (fun h => if k then h.IsTuple a items else h.IsList a items) ∧ (∀ h it, h.get? it = some o → itAt k h it a 0) := by
  cases k
  · exact ⟨_, begins_list a items, fun h it e => ⟨_, e, rfl, rfl⟩⟩
  · exact ⟨_, begins_tuple a items, fun h it e => ⟨_, e, rfl, rfl⟩⟩

/-! ### enumerate -/
def IteG (k : Bool) (a : Addr) : It :=
  ⟨fun i H => ∃ (xs : List V) (x : V), H a = some (srcHO k xs) ∧ xs[i]? = some x, fun i H v H' => ∃ T x, v = .ref T ∧ H T = none ∧ H' = upd H T (.tup [.int (i : Nat), x]) ∧ ∀ xs, H a = some (srcHO k xs) → xs[i]? = some x,
    fun i H => ∃ xs : List V, H a = some (srcHO k xs) ∧ xs.length = i⟩
theorem src_inj {k : Bool} {H : Hp} {a : Addr} {xs ys : List V} (h : H a = some (srcHO k xs)) (h' : H a = some (srcHO k ys)) : xs = ys := by
  rw [h] at h'
  cases k
  · have h' : some (HO.lst xs) = some (HO.lst ys) := h'
    injection h' with h'; injection h'
  · have h' : some (HO.tup xs) = some (HO.tup ys) := h'
    injection h' with h'; injection h'
theorem turn_enumG {P : Program} {w : World} {K : PySem.W.Frag} {elts : List Expr} {kk : Nat} {tpos : Pos} (k : Bool) (a e it : Addr) :
    Turn P w K (.Tuple elts kk tpos) (IteG k a) [e, it] e (fun i h => (∃ old, IsEnum h e it ((i : Nat) : Int) old) ∧ itAt k h it a i ∧ e ≠ it) where
  mem := by simp
  obj := fun i h st b hb => by
    obtain ⟨⟨old, he⟩, hi, _⟩ := st
    have e' : b = e ∨ b = it := by simpa using hb
    rcases e' with z | z
    · rw [z]; exact ⟨_, he, fun v q => nomatch q⟩
    · rw [z]; exact hi.obj
  keep := fun i h h' st kp => let ⟨⟨old, he⟩, hi, hne⟩ := st; ⟨⟨old, kp e (by simp) _ he⟩, hi.at fun o q => kp it (by simp) o q, hne⟩
  item := by
    intro X hP hw hK hc i pins s σ H E I hf st hg
    subst hP hw hK
    obtain ⟨⟨old, he⟩, hit, hne⟩ := st
    obtain ⟨xs, x, hq, hx⟩ := hg
    obtain ⟨its, rv, p, oa, hoa⟩ := src_at I hq
    obtain ⟨u, hu, ru⟩ := rv.get hx
    have hel : e < s.heap.objs.size := Heap.lt_size he
    have hil : it < s.heap.objs.size := by obtain ⟨_, q, _⟩ := hit.obj; exact Heap.lt_size q
    have hae : a ≠ e := fun z => by rw [z, (hf e (by simp)).1] at hq; cases hq
    have hai : a ≠ it := fun z => by rw [z, (hf it (by simp)).1] at hq; cases hq
    have hlt : i < its.toArray.size := by
      have := (List.getElem?_eq_some_iff.mp hu).1
      simpa using this
    refine wpAny_pyNext_enum_itemD (draws_src k (show X.A.in1.handled = none from I.ok.hd hc) it a hai its.toArray) he (show stAt k it a its.toArray i s.heap from ⟨hit, p⟩) hlt hne (by simp [hne, hae.symm]) fun y h' tk hy ho hst hT hsz hk => ?_
    have ey : y = u := by
      have h1 : its[i]? = some y := by simpa using hy
      rw [hu] at h1; cases h1; rfl
    subst ey
    refine ⟨_, rfl, wpAny_letOwnedTupleGo_enum (s := { s with heap := h', toks := tk + 1 }) ho fun h'' he' sb => ?_⟩
    have hT2 : h''.get? s.heap.objs.size = some { cls := .type "tuple", data := .seq #[.int i tk, y] } := (sb.2 _ (Nat.ne_of_gt hel)).trans hT
    have new : ObjOk X.prog X.w (upd H s.heap.objs.size (.tup [.int (i : Nat), x])) h'' s.heap.objs.size (.tup [.int (i : Nat), x]) :=
      ⟨by show 2 ≤ sizeLine; decide, [.int i tk, y], .cons ⟨_, rfl⟩ (.cons ru .nil), ⟨_, hT2, rfl, _, rfl⟩⟩
    have I1 : Inv X pins σ (upd H s.heap.objs.size (.tup [.int (i : Nat), x])) { s with heap := h'', toks := tk + 1 } :=
      I.turnedNew (ch := [e, it]) (fun b ob hb q => (sb.2 b (fun z => hb (by simp [z]))).trans (hk b ob (fun z => hb (by simp [z])) (fun z => hb (by simp [z])) q)) hf (Nat.le_refl _) new
    refine ⟨.ref s.heap.objs.size, _, I1, rfl, ⟨_, x, rfl, I.hok.fresh (Nat.le_refl _), rfl, fun ys hy => by rw [src_inj hy hq]; exact hx⟩, ⟨⟨y, ?_⟩, hst.1.at fun o q => (sb.2 it (Ne.symm hne)).trans q, hne⟩, fun b hb => ?_⟩
    · have e1 : ((i + 1 : Nat) : Int) = (i : Int) + 1 := by omega
      rw [e1]; exact he'
    · have hb' : b < s.heap.objs.size := by
        have e' : b = e ∨ b = it := by simpa using hb
        rcases e' with z | z
        · rw [z]; exact hel
        · rw [z]; exact hil
      rw [upd_ne (Nat.ne_of_lt hb')]
      exact (hf b hb).1
  done := by
    intro X hP hw hK hc i pins s σ H E I hf st hg
    subst hP hw hK
    obtain ⟨⟨old, he⟩, hit, hne⟩ := st
    obtain ⟨xs, hq, hx⟩ := hg
    obtain ⟨its, rv, p, oa, hoa⟩ := src_at I hq
    obtain ⟨f0, f1, f2, f3, f4, f5⟩ := hf it (by simp)
    have hl := rv.length
    have hai : a ≠ it := fun z => by rw [z, f0] at hq; cases hq
    have en : i = its.toArray.size := by simp; omega
    subst en
    exact wpAny_pyNext_enum_endD (draws_src k (show X.A.in1.handled = none from I.ok.hd hc) it a hai its.toArray) he (show stAt k it a its.toArray _ s.heap from ⟨hit, p⟩) fun h' eb => ⟨rfl, I.turned (t' := s.toks) (fun b o hb q => eb b o hb q) f0 f1 f3 f4 f5⟩
  self := fun A i s Q E st h => let ⟨⟨_, he⟩, _⟩ := st; wpAny_pyIter_enum he h
set_option maxHeartbeats 1000000 in
theorem meets_enum1B {v : Value} {o : Obj} {H : Heap → Prop} (B : Begins v o H) :
    Meets (Builtin.«enumerate.__new__» ⟨[.type "enumerate", v], []⟩) (fun _ R s => H s.heap ∧
      R (.ok (.ret (.ref (s.heap.push o).objs.size))) { s with heap := (s.heap.push o).push { cls := .type "enumerate", data := .fields #[.none, .bool false, .ref s.heap.objs.size, rawInt 0, .none, .none] } }) :=
  .of_wp fun prog w A R s h => by
    obtain ⟨hp, g, d, tk, os⟩ := s; obtain ⟨h1, h⟩ := h
    have hsub := sub_enumerate
    have q1 : ∀ {A' : Around} {E : Value → Shared → Prop} {Q : Value → Shared → Prop}, Q (.ref hp.objs.size) ⟨hp.push o, g, d, tk, os⟩ → wpAny (model prog w) A' (pyIter v) Q E ⟨hp, g, d, tk, os⟩ :=
      fun q => B.iter prog w _ _ ⟨hp, g, d, tk, os⟩ _ h1 q
    wp_walk using q1
    refine wpAny_stack_any fun st => wpAny_pure ?_
    split
    · rename_i c _ _ _ _ _
      cases (c == Value.type "enumerate")
      · wp_walk using q1
        exact ⟨_, rfl, h⟩
      · wp_walk using q1
        exact ⟨_, rfl, h⟩
    · wp_walk using q1
      exact ⟨_, rfl, h⟩
theorem enum_begins1 {prog : Program} {w : World} {A : Around} {E : Value → Shared → Prop} {s : Shared} {v : Value} {o : Obj} {H : Heap → Prop} {Q : Value → Shared → Prop} (B : Begins v o H) (h1 : H s.heap)
    (h : ∀ h', IsEnum h' (s.heap.objs.size + 1) s.heap.objs.size 0 .none → h'.get? s.heap.objs.size = some o → h'.objs.size = s.heap.objs.size + 2 →
      (∀ b o, s.heap.get? b = some o → h'.get? b = some o) → Q (.ref (s.heap.objs.size + 1)) { s with heap := h' }) :
    wpAny (model prog w) A (call (.type "enumerate") [v]) Q E s := by
  refine callType_new F.called_enumerate (by decide) (F.typeCall_enumerate_1 _) (F.newCall_enumerate_1 _) (fun obj => F.args_object_init_2 obj _) F.entry_enumerate_new (meets_enum1B B) ⟨h1, ?_⟩
  have hz : (s.heap.push o).objs.size = s.heap.objs.size + 1 := Heap.size_push ..
  show _ ∧ _
  rw [hz]
  have he : IsEnum ((s.heap.push o).push { cls := .type "enumerate", data := .fields #[.none, .bool false, .ref s.heap.objs.size, rawInt 0, .none, .none] }) (s.heap.objs.size + 1) s.heap.objs.size 0 .none := by
    have := Heap.get?_push_size (s.heap.push o) (o := { cls := .type "enumerate", data := .fields #[.none, .bool false, .ref s.heap.objs.size, rawInt 0, .none, .none] }) rfl
    rw [hz] at this; exact this
  refine ⟨⟨_, he, rfl⟩, h _ he (Heap.get?_push_of_some _ (Heap.get?_push_size _ B.free)) (by rw [Heap.size_push, hz]) fun b o x => Heap.get?_push_of_some _ (Heap.get?_push_of_some _ x)⟩
def iEnumG (ta : TA) : TI := fun σ H R => ta σ H fun vs H1 => ∃ (k : Bool) (a : Addr) (xs : List V), vs = [.ref a] ∧ H1 a = some (srcHO k xs) ∧ R (IteG k a) H1
theorem pi_enumG {X : Cx} {e : Expr} {ta : TA} {p pos tpos : Pos} {elts : List Expr} {kk : Nat} (hg : Gl X "enumerate") (hm : X.mg "enumerate" = none) (ha : PA X [e] ta) (hs : starEach [e] X.env = [(false, eval e X.env)]) :
    PI X (.Tuple elts kk tpos) (.Call (.Name "enumerate" p) [e] [] pos) (iEnumG ta) := by
  refine ⟨fun pins s σ H R I h => ?_⟩
  refine Call_ (ld_blt I hg hm boot_enumerate (PyProof.Rows.callWith_type1 (thn (ha.run pos pins s σ H _ I h) fun us s1 ⟨vs, H1, I1, r1, q1⟩ => ?_) hs rfl))
  obtain ⟨k, a, xs, ex, hq, q⟩ := q1
  subst ex
  cases r1 with
  | cons r rr =>
    cases rr
    cases r
    obtain ⟨its, rv, p', oa, hoa⟩ := src_at I1 hq
    obtain ⟨o, B, st0⟩ := begins_src k a its.toArray
    refine enum_begins1 B p' fun h' he hit hsz hk => wpAny_pyIter_enum he ?_
    have I2 : Inv X pins σ H1 { s1 with heap := h' } := I1.kept (t' := s1.toks) hk
    refine ⟨s1.heap.objs.size + 1, [s1.heap.objs.size + 1, s1.heap.objs.size], _, _, H1, rfl, I2, turn_enumG k a (s1.heap.objs.size + 1) s1.heap.objs.size, ⟨⟨.none, he⟩, st0 _ _ hit, Nat.succ_ne_self _⟩, fun b hb => ?_, q⟩
    have e' : b = s1.heap.objs.size + 1 ∨ b = s1.heap.objs.size := by simpa using hb
    have hle : s1.heap.objs.size ≤ b := by
      rcases e' with z | z
      · rw [z]; exact Nat.le_add_right _ _
      · rw [z]; exact Nat.le_refl _
    exact I1.fpOk hle (I1.hok.fresh hle)

/-! ### zip -/
def ItzG (k l : Bool) (a b : Addr) : It :=
  ⟨fun i H => ∃ (xs ys : List V) (x y : V), H a = some (srcHO k xs) ∧ H b = some (srcHO l ys) ∧ xs[i]? = some x ∧ ys[i]? = some y,
    fun i H v H' => ∃ T x y, v = .ref T ∧ H T = none ∧ H' = upd H T (.tup [x, y]) ∧ (∀ xs, H a = some (srcHO k xs) → xs[i]? = some x) ∧ ∀ ys, H b = some (srcHO l ys) → ys[i]? = some y,
    fun i H => ∃ xs ys : List V, H a = some (srcHO k xs) ∧ H b = some (srcHO l ys) ∧ i ≤ xs.length ∧ i ≤ ys.length ∧ (i = xs.length ∨ i = ys.length)⟩
theorem zsep {I a b : Addr} (h1 : a < I) (h2 : b < I) : ZipSep2 (I + 4) (I + 2) (I + 3) I (I + 1) [I, a] [I + 1, b] := by
  have t1 : a ≠ I + 4 := Nat.ne_of_lt (Nat.lt_of_lt_of_le h1 (Nat.le_add_right _ _))
  have t2 : a ≠ I + 3 := Nat.ne_of_lt (Nat.lt_of_lt_of_le h1 (Nat.le_add_right _ _))
  have t3 : b ≠ I + 4 := Nat.ne_of_lt (Nat.lt_of_lt_of_le h2 (Nat.le_add_right _ _))
  have t4 : b ≠ I + 3 := Nat.ne_of_lt (Nat.lt_of_lt_of_le h2 (Nat.le_add_right _ _))
  have t5 : a ≠ I + 1 := Nat.ne_of_lt (Nat.lt_of_lt_of_le h1 (Nat.le_add_right _ _))
  have t6 : b ≠ I := Nat.ne_of_lt h2
  have n (i j : Nat) (h : i ≠ j) : I + i ≠ I + j := fun e => h (Nat.add_left_cancel e)
  have n0 (j : Nat) (h : 0 ≠ j) : I ≠ I + j := fun e => h (Nat.add_left_cancel (n := I) (by simpa using e))
  refine ⟨n 2 4 (by decide), n 3 4 (by decide), n 2 3 (by decide), (n0 2 (by decide)).symm, by simp, ?_, ?_, n 2 1 (by decide), by simp, ?_, ?_, ?_, ?_⟩
  · simp only [List.mem_cons, List.not_mem_nil, or_false, not_or]; exact ⟨(n0 4 (by decide)).symm, t1.symm⟩
  · simp only [List.mem_cons, List.not_mem_nil, or_false, not_or]; exact ⟨(n0 3 (by decide)).symm, t2.symm⟩
  · simp only [List.mem_cons, List.not_mem_nil, or_false, not_or]; exact ⟨n 4 1 (by decide), t3.symm⟩
  · simp only [List.mem_cons, List.not_mem_nil, or_false, not_or]; exact ⟨n 3 1 (by decide), t4.symm⟩
  · simp only [List.mem_cons, List.not_mem_nil, or_false, not_or]; exact ⟨n0 1 (by decide), t6.symm⟩
  · simp only [List.mem_cons, List.not_mem_nil, or_false, not_or]; exact ⟨(n0 1 (by decide)).symm, t5.symm⟩
theorem turn_zipG {P : Program} {w : World} {K : PySem.W.Frag} {elts : List Expr} {kk : Nat} {tpos : Pos} (k l : Bool) {a b z TI TO i1 i2 : Addr} (D : ZipSep2 z TI TO i1 i2 [i1, a] [i2, b]) :
    Turn P w K (.Tuple elts kk tpos) (ItzG k l a b) [z, TI, TO, i1, i2] z (fun i h => IsZip h z TI TO .none ∧ IsTupOf2 h TI (.ref i1) (.ref i2) ∧ (∃ x y, IsTupOf2 h TO x y) ∧ itAt k h i1 a i ∧ itAt l h i2 b i) where
  mem := by simp
  obj := fun i h st c hc => by
    obtain ⟨hz, hTI, ⟨x, y, hTO⟩, h1, h2⟩ := st
    have e' : c = z ∨ c = TI ∨ c = TO ∨ c = i1 ∨ c = i2 := by simpa using hc
    rcases e' with q | q | q | q | q
    · rw [q]; exact ⟨_, hz, fun v q => nomatch q⟩
    · rw [q]; exact ⟨_, hTI, fun v q => nomatch q⟩
    · rw [q]; exact ⟨_, hTO, fun v q => nomatch q⟩
    · rw [q]; exact h1.obj
    · rw [q]; exact h2.obj
  keep := fun i h h' st kp => by
    obtain ⟨hz, hTI, ⟨x, y, hTO⟩, h1, h2⟩ := st
    exact ⟨kp z (by simp) _ hz, kp TI (by simp) _ hTI, ⟨x, y, kp TO (by simp) _ hTO⟩, h1.at fun o q => kp i1 (by simp) o q, h2.at fun o q => kp i2 (by simp) o q⟩
  item := by
    intro X hP hw hK hc i pins s σ H E I hf st hg
    subst hP hw hK
    obtain ⟨hz, hTI, ⟨x0, y0, hTO⟩, h1, h2⟩ := st
    obtain ⟨xs, ys, x, y, hqx, hqy, hx, hy⟩ := hg
    obtain ⟨its, rv, p, oa, hoa⟩ := src_at I hqx
    obtain ⟨its2, rv2, p2, ob, hob⟩ := src_at I hqy
    obtain ⟨u, hu, ru⟩ := rv.get hx
    obtain ⟨u2, hu2, ru2⟩ := rv2.get hy
    have hzl : z < s.heap.objs.size := Heap.lt_size hz
    have n1 : a ≠ i1 := fun q => by rw [q, (hf i1 (by simp)).1] at hqx; cases hqx
    have n2 : b ≠ i2 := fun q => by rw [q, (hf i2 (by simp)).1] at hqy; cases hqy
    have hlt1 : i < its.toArray.size := by have := (List.getElem?_eq_some_iff.mp hu).1; simpa using this
    have hlt2 : i < its2.toArray.size := by have := (List.getElem?_eq_some_iff.mp hu2).1; simpa using this
    refine wpAny_pyNext_zipD2_item D (draws_src k (show X.A.in1.handled = none from I.ok.hd hc) i1 a n1 its.toArray) (draws_src l (show X.A.in1.handled = none from I.ok.hd hc) i2 b n2 its2.toArray) hz hTI hTO (show stAt k i1 a its.toArray i s.heap from ⟨h1, p⟩) (show stAt l i2 b its2.toArray i s.heap from ⟨h2, p2⟩) hlt1 hlt2
      fun y1 y2 h' tk hy1 hy2 z' TO' st1' st2' hT hsz hk => ?_
    have e1 : y1 = u := by have q : its[i]? = some y1 := by simpa using hy1
                           rw [hu] at q; cases q; rfl
    have e2 : y2 = u2 := by have q : its2[i]? = some y2 := by simpa using hy2
                            rw [hu2] at q; cases q; rfl
    subst e1 e2
    refine ⟨_, rfl, wpAny_letOwnedTupleGo_zip (s := { s with heap := h', toks := tk }) z' fun h'' z'' sb => ?_⟩
    have hT2 : h''.get? s.heap.objs.size = some { cls := .type "tuple", data := .seq #[y1, y2] } := (sb.2 _ (Nat.ne_of_gt hzl)).trans hT
    have new : ObjOk X.prog X.w (upd H s.heap.objs.size (.tup [x, y])) h'' s.heap.objs.size (.tup [x, y]) :=
      ⟨by show 2 ≤ sizeLine; decide, [y1, y2], .cons ru (.cons ru2 .nil), ⟨_, hT2, rfl, _, rfl⟩⟩
    have I1 : Inv X pins σ (upd H s.heap.objs.size (.tup [x, y])) { s with heap := h'', toks := tk } :=
      I.turnedNew (ch := [z, TI, TO, i1, i2]) (fun c o hb q => (sb.2 c (fun q' => hb (by simp [q']))).trans (hk c o (fun q' => hb (by simp [q'])) (fun q' => hb (by simp [q'])) (fun q' => hb (by simp [q'])) (fun q' => hb (by simp [q'])) q)) hf (Nat.le_refl _) new
    refine ⟨.ref s.heap.objs.size, _, I1, rfl, ⟨_, x, y, rfl, I.hok.fresh (Nat.le_refl _), rfl, fun l' hl => by rw [src_inj hl hqx]; exact hx, fun l' hl => by rw [src_inj hl hqy]; exact hy⟩, ⟨z'', ?_, ⟨y1, y2, ?_⟩, ?_, ?_⟩, fun c hcm => ?_⟩
    · exact (sb.2 _ D.TIz).trans (hk _ _ D.TIz D.TITO D.TIi1 D.TIi2 hTI)
    · exact (sb.2 _ D.TOz).trans TO'
    · exact st1'.1.at fun o q => (sb.2 _ D.zi1.symm).trans q
    · exact st2'.1.at fun o q => (sb.2 _ D.zi2.symm).trans q
    · have hlt : c < s.heap.objs.size := by
        have e' : c = z ∨ c = TI ∨ c = TO ∨ c = i1 ∨ c = i2 := by simpa using hcm
        rcases e' with q | q | q | q | q
        · rw [q]; exact hzl
        · rw [q]; exact Heap.lt_size hTI
        · rw [q]; exact Heap.lt_size hTO
        · rw [q]; obtain ⟨_, e1, _⟩ := h1.obj; exact Heap.lt_size e1
        · rw [q]; obtain ⟨_, e2, _⟩ := h2.obj; exact Heap.lt_size e2
      rw [upd_ne (Nat.ne_of_lt hlt)]
      exact (hf c hcm).1
  done := by
    intro X hP hw hK hc i pins s σ H E I hf st hg
    subst hP hw hK
    obtain ⟨hz, hTI, ⟨x0, y0, hTO⟩, h1, h2⟩ := st
    obtain ⟨xs, ys, hqx, hqy, le1, le2, hend⟩ := hg
    obtain ⟨its, rv, p, oa, hoa⟩ := src_at I hqx
    obtain ⟨its2, rv2, p2, ob, hob⟩ := src_at I hqy
    have l1 := rv.length
    have l2 := rv2.length
    have n1 : a ≠ i1 := fun q => by rw [q, (hf i1 (by simp)).1] at hqx; cases hqx
    have n2 : b ≠ i2 := fun q => by rw [q, (hf i2 (by simp)).1] at hqy; cases hqy
    exact wpAny_pyNext_zipD2_end D (draws_src k (show X.A.in1.handled = none from I.ok.hd hc) i1 a n1 its.toArray) (draws_src l (show X.A.in1.handled = none from I.ok.hd hc) i2 b n2 its2.toArray) hz hTI hTO (show stAt k i1 a its.toArray i s.heap from ⟨h1, p⟩) (show stAt l i2 b its2.toArray i s.heap from ⟨h2, p2⟩) (by simp; omega) (by simp; omega) (by simp; omega)
      fun h' tk hk => ⟨rfl, I.turnedL (ch := [z, TI, TO, i1, i2]) (fun c o hb q => hk c o (fun q' => hb (by simp [q'])) (fun q' => hb (by simp [q'])) (fun q' => hb (by simp [q'])) (fun q' => hb (by simp [q'])) q) hf⟩
  self := fun A i s Q E st h => wpAny_pyIter_zip st.1 h
def iZipG (ta : TA) : TI := fun σ H R => ta σ H fun vs H1 => ∃ (k l : Bool) (a b : Addr) (xs ys : List V), vs = [.ref a, .ref b] ∧ H1 a = some (srcHO k xs) ∧ H1 b = some (srcHO l ys) ∧ R (ItzG k l a b) H1
theorem pi_zipG {X : Cx} {e e2 : Expr} {ta : TA} {p pos tpos : Pos} {elts : List Expr} {kk : Nat} (hg : Gl X "zip") (hm : X.mg "zip" = none) (ha : PA X [e, e2] ta)
    (hs : starEach [e, e2] X.env = (false, eval e X.env) :: starEach [e2] X.env) (hpl : (backTo pos (starEach [e2] X.env)).any (·.1) = false) :
    PI X (.Tuple elts kk tpos) (.Call (.Name "zip" p) [e, e2] [] pos) (iZipG ta) := by
  refine ⟨fun pins s σ H R I h => ?_⟩
  refine Call_ (ld_blt I hg hm PyProof.Rows.boot_zip (PyProof.Rows.callWith_type1 (thn (ha.run pos pins s σ H _ I h) fun us s1 ⟨vs, H1, I1, r1, q1⟩ => ?_) hs hpl))
  obtain ⟨k, l, a, b, xs, ys, ex, hqx, hqy, q⟩ := q1
  subst ex
  cases r1 with
  | cons r rr =>
    cases rr with
    | cons r' rr =>
      cases rr
      cases r
      cases r'
      have fresh5 : ∀ c, c ∈ [s1.heap.objs.size + 4, s1.heap.objs.size + 2, s1.heap.objs.size + 3, s1.heap.objs.size, s1.heap.objs.size + 1] → FpOk X pins H1 c := fun c hcm => by
        have e' : c = s1.heap.objs.size + 4 ∨ c = s1.heap.objs.size + 2 ∨ c = s1.heap.objs.size + 3 ∨ c = s1.heap.objs.size ∨ c = s1.heap.objs.size + 1 := by simpa using hcm
        have hle : s1.heap.objs.size ≤ c := by
          rcases e' with z | z | z | z | z
          · rw [z]; exact Nat.le_add_right _ _
          · rw [z]; exact Nat.le_add_right _ _
          · rw [z]; exact Nat.le_add_right _ _
          · rw [z]; exact Nat.le_refl _
          · rw [z]; exact Nat.le_add_right _ _
        exact I1.fpOk hle (I1.hok.fresh hle)
      obtain ⟨its, rv, p1, oa, hoa⟩ := src_at I1 hqx
      obtain ⟨its2, rv2, p2, ob, hob⟩ := src_at I1 hqy
      obtain ⟨o1, B1, st1⟩ := begins_src k a its.toArray
      obtain ⟨o2, B2, st2⟩ := begins_src l b its2.toArray
      refine zip_begins2 B1 B2 p1 p2 fun h' hz hTI hTO h1 h2 hsz hk => wpAny_pyIter_zip hz ?_
      have I2 : Inv X pins σ H1 { s1 with heap := h' } := I1.kept (t' := s1.toks) hk
      exact ⟨s1.heap.objs.size + 4, [s1.heap.objs.size + 4, s1.heap.objs.size + 2, s1.heap.objs.size + 3, s1.heap.objs.size, s1.heap.objs.size + 1], _, _, H1, rfl, I2, turn_zipG k l (zsep (Heap.lt_size hoa) (Heap.lt_size hob)), ⟨hz, hTI, ⟨_, _, hTO⟩, st1 _ _ h1, st2 _ _ h2⟩, fresh5, q⟩

/-! ### by value -/
theorem src_of {H : Hp} {a : Addr} {vs : List V} (h : H a = some (.lst vs) ∨ H a = some (.tup vs)) : ∃ k, H a = some (srcHO k vs) := by
  rcases h with h | h
  · exact ⟨false, h⟩
  · exact ⟨true, h⟩
def enumD (xs : List PyData) : List PyData := (List.range xs.length).map fun i => PyData.tuple [.int (i : Nat), xs.getD i .none]
def zipD (xs ys : List PyData) : List PyData := (xs.zip ys).map fun p => PyData.tuple [p.1, p.2]
theorem walk_enum {F1 : AP1} {H1 : Hp} {k : Bool} {a : Addr} {vs : List V} {ds : List PyData} (fa : F1 a) (ha : H1 a = some (srcHO k vs)) (rr : RepAll F1 H1 ds vs) : WalkD F1 H1 (IteG k a) (enumD ds) where
  go := fun i H F l hi => by
    have hi : i < ds.length := by simpa [enumD] using hi
    obtain ⟨v, hv, _⟩ := rr.get (List.getElem?_eq_getElem hi)
    exact ⟨vs, v, l.stab a _ fa ha, hv⟩
  stop := fun H F l => ⟨vs, l.stab a _ fa ha, by rw [rr.length]; simp [enumD]⟩
  yld := fun i H F x H' l hi y => by
    have hi : i < ds.length := by simpa [enumD] using hi
    obtain ⟨T, u, rfl, hT, rfl, y⟩ := y
    obtain ⟨v, hv, rv⟩ := rr.get (List.getElem?_eq_getElem hi)
    have := y vs (l.stab a _ fa ha)
    rw [hv] at this; cases this
    refine ⟨.tuple [.int (i : Nat), ds[i]], by simp [enumD, hi], .inr ⟨T, _, _, rfl, hT, rfl, rfl, .cons (by simp only [RepD]) (.cons (RepD.mono l.grow l.stab _ _ rv) .nil)⟩⟩
theorem walk_zip {F1 : AP1} {H1 : Hp} {k l : Bool} {a b : Addr} {vs ws : List V} {ds es : List PyData} (fa : F1 a) (ha : H1 a = some (srcHO k vs)) (rr : RepAll F1 H1 ds vs) (fb : F1 b) (hb : H1 b = some (srcHO l ws)) (rs : RepAll F1 H1 es ws) :
    WalkD F1 H1 (ItzG k l a b) (zipD ds es) where
  go := fun i H F lt hi => by
    have hi : i < ds.length ∧ i < es.length := by simp [zipD] at hi; omega
    obtain ⟨v, hv, _⟩ := rr.get (List.getElem?_eq_getElem hi.1)
    obtain ⟨w, hw, _⟩ := rs.get (List.getElem?_eq_getElem hi.2)
    exact ⟨vs, ws, v, w, lt.stab a _ fa ha, lt.stab b _ fb hb, hv, hw⟩
  stop := fun H F lt => ⟨vs, ws, lt.stab a _ fa ha, lt.stab b _ fb hb, by rw [rr.length]; simp [zipD]; omega, by rw [rs.length]; simp [zipD]; omega, by rw [rr.length, rs.length]; simp [zipD]; omega⟩
  yld := fun i H F x H' lt hi y => by
    have hi : i < ds.length ∧ i < es.length := by simp [zipD] at hi; omega
    obtain ⟨T, u, u2, rfl, hT, rfl, y1, y2⟩ := y
    obtain ⟨v, hv, rv⟩ := rr.get (List.getElem?_eq_getElem hi.1)
    obtain ⟨w, hw, rw'⟩ := rs.get (List.getElem?_eq_getElem hi.2)
    have q1 := y1 vs (lt.stab a _ fa ha)
    rw [hv] at q1; cases q1
    have q2 := y2 ws (lt.stab b _ fb hb)
    rw [hw] at q2; cases q2
    exact ⟨.tuple [ds[i], es[i]], by
      have e : (ds.zip es)[i]? = some (ds[i], es[i]) := List.getElem?_zip_eq_some.mpr ⟨List.getElem?_eq_getElem hi.1, List.getElem?_eq_getElem hi.2⟩
      simp [zipD, e], .inr ⟨T, _, _, rfl, hT, rfl, rfl, .cons (RepD.mono lt.grow lt.stab _ _ rv) (.cons (RepD.mono lt.grow lt.stab _ _ rw') .nil)⟩⟩
@[simp] def dEnum (dA : DA) : DI := fun env Φ => dA env fun vs env1 => ∃ x xs, vs = [.d x] ∧ seqD x = some xs ∧ Φ (enumD xs) env1
@[simp] def dZip (dA : DA) : DI := fun env Φ => dA env fun vs env1 => ∃ x y xs ys, vs = [.d x, .d y] ∧ seqD x = some xs ∧ seqD y = some ys ∧ Φ (zipD xs ys) env1
section
variable {C : SC} {a b : Expr} {dA : DA} {pos p tpos : Pos} {elts : List Expr} {kk : Nat}
theorem si_enum (hg : C.sc.names.lookup ("enumerate" : Str) = some .globalImplicit) (ha : SA C [a] dA) (st : ∀ env, starEach [a] env = [(false, eval a env)]) : SI C (.Tuple elts kk tpos) (.Call (.Name "enumerate" p) [a] [] pos) (dEnum dA) := by
  intro X fx G F env σ H Q Φ r h hQ
  refine wi_of (pi_enumG (gl_of fx hg) (bn_of fx (by decide)) pa_w (st X.env)) ?_
  refine ha X fx G F env σ H _ _ r h fun vs env1 F1 H1 xs e1 rs h1 => ?_
  obtain ⟨x, ds, rfl, hx, h1⟩ := h1
  obtain ⟨y, t, rfl, ⟨rx, _⟩, rt⟩ := rs
  cases rt
  obtain ⟨c, ws, rfl, fc, hc, rr⟩ := rep_seq hx rx
  obtain ⟨k, hc⟩ := src_of hc
  exact ⟨k, c, ws, rfl, hc, hQ _ env1 F1 H1 _ e1 (walk_enum fc hc rr) h1⟩
theorem si_zip (hg : C.sc.names.lookup ("zip" : Str) = some .globalImplicit) (ha : SA C [a, b] dA) (st : ∀ env, starEach [a, b] env = (false, eval a env) :: starEach [b] env) (hpl : ∀ env, (backTo pos (starEach [b] env)).any (·.1) = false) :
    SI C (.Tuple elts kk tpos) (.Call (.Name "zip" p) [a, b] [] pos) (dZip dA) := by
  intro X fx G F env σ H Q Φ r h hQ
  refine wi_of (pi_zipG (gl_of fx hg) (bn_of fx (by decide)) pa_w (st X.env) (hpl X.env)) ?_
  refine ha X fx G F env σ H _ _ r h fun vs env1 F1 H1 xs e1 rs h1 => ?_
  obtain ⟨x, y, ds, es, rfl, hx, hy, h1⟩ := h1
  obtain ⟨v, t, rfl, ⟨rx, _⟩, rt⟩ := rs
  obtain ⟨w, t, rfl, ⟨ry, _⟩, rt⟩ := rt
  cases rt
  obtain ⟨c, vs1, rfl, fc, hc, rr⟩ := rep_seq hx rx
  obtain ⟨d, vs2, rfl, fd, hd, rr2⟩ := rep_seq hy ry
  obtain ⟨k, hc⟩ := src_of hc
  obtain ⟨l, hd⟩ := src_of hd
  exact ⟨k, l, c, d, vs1, vs2, rfl, hc, hd, hQ _ env1 F1 H1 _ e1 (walk_zip fc hc rr fd hd rr2) h1⟩
end
end Ev
set_option Elab.async false
set_option linter.all false
set_option maxRecDepth 100000
/-! Ev8: built-in functions, methods. -/
namespace Ev
open PySem PySem.Spec PyProof.Rows L2

section
variable (X : Cx)
def wC (f : Value) : List V → Hp → VK → Prop := fun xs H Q => ∀ (pins : List (Addr × Obj)) (s : Shared) (σ : L2.St) (us : List Value), Inv X pins σ H s → Vals xs us → wpAny (model X.prog X.w) X.A (call f us) (EP X pins σ Q) X.xe s
variable {X}
theorem callr_w {f : Value} : CallR X f (wC X f) := fun pins s σ _ _ us _ I r h => h pins s σ us I r
theorem wc_of {f : Value} {r : List V → Hp → VK → Prop} {xs : List V} {H : Hp} {Q : VK} (h : CallR X f r) (q : r xs H Q) : wC X f xs H Q := fun pins s σ us I rv => h pins s σ H xs us Q I rv q
end
def CalS (f : Value) (o : Und) : Prop := ∀ (C : SC) (X : Cx), Fits C X → ∀ (G : Gh) (F : AP1) (env : Env) (σ : L2.St) (H : Hp) (v : Val) (x : V) (Q : VK) (Φ : Val → Prop), R G F env σ H → RepV G F H v x → o v Φ →
  (∀ z F' H' zx, Ext G F env σ H F' env H' → Res G env σ H F' env H' z zx → Φ z → Q zx H') → wC X f [x] H Q
def CalS2 (f : Value) (o : Opd) : Prop := ∀ (C : SC) (X : Cx), Fits C X → ∀ (G : Gh) (F : AP1) (env : Env) (σ : L2.St) (H : Hp) (v w : Val) (x y : V) (Q : VK) (Φ : Val → Prop), R G F env σ H → RepV G F H v x → RepV G F H w y → o v w Φ →
  (∀ z F' H' zx, Ext G F env σ H F' env H' → Res G env σ H F' env H' z zx → Φ z → Q zx H') → wC X f [x, y] H Q
section
variable {C : SC} {a b : Expr} {da db : DO} {pos p : Pos} {x : Str}
theorem so_blt1 {id : String} {o : Und} (hx : x ∈ bltNames) (hv : bootBuiltins x = some (.builtin id)) (hg : C.sc.names.lookup x = some .globalImplicit) (ho : CalS (.builtin id) o) (ha : SO C a da) (hn : x ≠ "__name__") (hdb : (x == ("__debug__" : Str)) = false)
    (st : ∀ env, starEach [a] env = (false, eval a env) :: starEach [] env) : SO C (.Call (.Name x p) [a] [] pos) (dUn o da) := by
  intro X fx G F env σ H Q Φ r h hQ
  refine w_of (pe_callB callr_w (gl_of fx hg) (bn_of fx hx) hv (pa_cons pe_w pa_nil (st X.env)) hn hdb (st X.env) rfl) ?_
  refine one fx (Φ := fun v env1 => o v fun z => Φ (.v z) env1) ha r h fun v env2 F2 H2 y e rv h2 => ?_
  exact ho C X fx G F2 env2 σ H2 v y Q _ e.r rv h2 fun z F3 H3 zx e3 q3 h3 => hQ (.v z) _ _ _ _ (e.trans e3) (Res.back e q3) h3
theorem so_ty1 {T : String} {o : Und} (hx : x ∈ bltNames) (hv : bootBuiltins x = some (.type T)) (hg : C.sc.names.lookup x = some .globalImplicit) (ho : CalS (.type T) o) (ha : SO C a da) (hn : x ≠ "__name__") (hdb : (x == ("__debug__" : Str)) = false)
    (st : ∀ env, starEach [a] env = (false, eval a env) :: starEach [] env) : SO C (.Call (.Name x p) [a] [] pos) (dUn o da) := by
  intro X fx G F env σ H Q Φ r h hQ
  refine w_of (pe_callTy callr_w (gl_of fx hg) (bn_of fx hx) hv (pa_cons pe_w pa_nil (st X.env)) hn hdb (st X.env) rfl) ?_
  refine one fx (Φ := fun v env1 => o v fun z => Φ (.v z) env1) ha r h fun v env2 F2 H2 y e rv h2 => ?_
  exact ho C X fx G F2 env2 σ H2 v y Q _ e.r rv h2 fun z F3 H3 zx e3 q3 h3 => hQ (.v z) _ _ _ _ (e.trans e3) (Res.back e q3) h3
theorem so_blt2 {id : String} {o : Opd} (hx : x ∈ bltNames) (hv : bootBuiltins x = some (.builtin id)) (hg : C.sc.names.lookup x = some .globalImplicit) (ho : CalS2 (.builtin id) o) (ha : SO C a da) (hb : SO C b db) (hn : x ≠ "__name__") (hdb : (x == ("__debug__" : Str)) = false)
    (st : ∀ env, starEach [a, b] env = (false, eval a env) :: starEach [b] env) (st2 : ∀ env, starEach [b] env = (false, eval b env) :: starEach [] env) (hpl : ∀ env, (backTo pos (starEach [b] env)).any (·.1) = false) : SO C (.Call (.Name x p) [a, b] [] pos) (dBin o da db) := by
  intro X fx G F env σ H Q Φ r h hQ
  refine w_of (pe_callB callr_w (gl_of fx hg) (bn_of fx hx) hv (pa_cons pe_w (pa_cons pe_w pa_nil (st2 X.env)) (st X.env)) hn hdb (st X.env) (hpl X.env)) ?_
  refine two fx (Φ := fun v w env1 => o v w fun z => Φ (.v z) env1) ha hb r h fun v w env2 F2 H2 y y2 e rv rw' h2 => ?_
  exact ho C X fx G F2 env2 σ H2 v w y y2 Q _ e.r rv rw' h2 fun z F3 H3 zx e3 q3 h3 => hQ (.v z) _ _ _ _ (e.trans e3) (Res.back e q3) h3
end

/-! ### what they do -/
@[simp] def oLen : Und := fun v Φ => (∃ xs, toS v = some xs ∧ Φ (.d (.int xs.length))) ∨ ∃ s, v = .d (.str s) ∧ s.length ≤ 16777216 ∧ Φ (.d (.int s.length))
theorem cs_len : CalS (.builtin "len") oLen := by
  intro C X fx G F env σ H v x Q Φ r rv h k
  rcases h with ⟨xs, hx, h⟩ | ⟨s, rfl, hl, h⟩
  · obtain ⟨a, vs, rfl, ha, ra⟩ := rep_S hx rv
    exact wc_of call_len_seq ⟨a, vs, rfl, ha.imp SqL.of SqT.of, k _ _ _ _ (.refl r) (.imm (by simp only [RepD]; rw [ra.length])) h⟩
  · have rv : RepD F H (.str s) x := rv
    simp only [RepD] at rv
    subst rv
    exact wc_of call_len_str ⟨s, rfl, by rw [sizeLine_eq]; exact hl, k _ _ _ _ (.refl r) (.imm (by simp only [RepD])) h⟩
@[simp] def oTuple : Und := fun v Φ => ∃ xs, toS v = some xs ∧ Φ (.d (.tuple xs))
theorem cs_tuple : CalS (.type "tuple") oTuple := by
  intro C X fx G F env σ H v x Q Φ r rv h k
  obtain ⟨xs, hx, h⟩ := h
  cases e : toT v with
  | some ys =>
    obtain ⟨a, vs, rfl, ha, ra, fa⟩ := rep_T e rv
    have ey : ys = xs := by
      unfold toT at e
      split at e
      · cases e; cases hx; rfl
      · cases e
    subst ey
    exact wc_of call_tuple_of ⟨a, vs, rfl, .inr ⟨SqT.of ha, k _ _ _ _ (.refl r) (.imm (by simp only [RepD]; exact ⟨a, vs, rfl, fa, ha, ra⟩)) h⟩⟩
  | none =>
    have hl : toL v = some xs := by
      unfold toS at hx
      split at hx
      · cases hx; rfl
      · cases hx; rfl
      · cases e
      · cases hx
    obtain ⟨a, vs, rfl, ha, ra⟩ := rep_L hl rv
    refine wc_of call_tuple_of ⟨a, vs, rfl, .inl ⟨SqL.of ha, fun p hp => ?_⟩⟩
    obtain ⟨e2, q2⟩ := res_tup r hp ra
    exact k _ _ _ _ e2 q2 h
@[simp] def oList : Und := fun v Φ => ∃ xs, toS v = some xs ∧ Φ (.own xs)
theorem cs_list : CalS (.type "list") oList := by
  intro C X fx G F env σ H v x Q Φ r rv h k
  obtain ⟨xs, hx, h⟩ := h
  obtain ⟨a, vs, rfl, ha, ra⟩ := rep_S hx rv
  refine wc_of call_list_of ⟨a, vs, rfl, ha.imp SqL.of SqT.of, fun p hp => ?_⟩
  obtain ⟨e2, q2⟩ := res_own r hp ra
  exact k _ _ _ _ e2 q2 h
def oSum : Und := fun v Φ => ∃ ns : List Int, toL v = some (ns.map .int) ∧ Φ (.d (.int ns.sum))
theorem cs_sum : CalS (.builtin "sum") oSum := by
  intro C X fx G F env σ H v x Q Φ r rv h k
  obtain ⟨ns, hx, h⟩ := h
  obtain ⟨a, vs, rfl, ha, ra⟩ := rep_L hx rv
  rw [ra.ints] at ha
  exact wc_of (cr_sum fx.calm) ⟨a, ns, rfl, SqL.of ha, k _ _ _ _ (.refl r) (.imm (by simp only [RepD])) h⟩
def oMin : Und := fun v Φ => ∃ ns : List Int, toL v = some (ns.map .int) ∧ ns ≠ [] ∧ ∀ m, m ∈ ns → (∀ y ∈ ns, m ≤ y) → Φ (.d (.int m))
theorem cs_min : CalS (.builtin "min") oMin := by
  intro C X fx G F env σ H v x Q Φ r rv h k
  obtain ⟨ns, hx, hne, h⟩ := h
  obtain ⟨a, vs, rfl, ha, ra⟩ := rep_L hx rv
  rw [ra.ints] at ha
  exact wc_of (cr_min fx.calm) ⟨a, ns, rfl, SqL.of ha, List.length_pos_iff.mpr hne, fun m h1 h2 => k _ _ _ _ (.refl r) (.imm (by simp only [RepD])) (h m h1 h2)⟩
def oMax : Und := fun v Φ => ∃ ns : List Int, toL v = some (ns.map .int) ∧ ns ≠ [] ∧ ∀ m, m ∈ ns → (∀ y ∈ ns, y ≤ m) → Φ (.d (.int m))
theorem cs_max : CalS (.builtin "max") oMax := by
  intro C X fx G F env σ H v x Q Φ r rv h k
  obtain ⟨ns, hx, hne, h⟩ := h
  obtain ⟨a, vs, rfl, ha, ra⟩ := rep_L hx rv
  rw [ra.ints] at ha
  exact wc_of (cr_max fx.calm) ⟨a, ns, rfl, SqL.of ha, List.length_pos_iff.mpr hne, fun m h1 h2 => k _ _ _ _ (.refl r) (.imm (by simp only [RepD])) (h m h1 h2)⟩
@[simp] def oMax2 : Opd := fun v w Φ => ∃ i j, toI v = some i ∧ toI w = some j ∧ Φ (.d (.int (if j > i then j else i)))
theorem cs_max2 : CalS2 (.builtin "max") oMax2 := by
  intro C X fx G F env σ H v w x y Q Φ r rv rw' h k
  obtain ⟨i, j, e1, e2, h⟩ := h
  obtain ⟨_, rfl⟩ := rep_I e1 rv
  obtain ⟨_, rfl⟩ := rep_I e2 rw'
  exact wc_of (call_max2 fx.calm) ⟨i, j, rfl, k _ _ _ _ (.refl r) (.imm (by simp only [RepD])) h⟩
@[simp] def oMin2 : Opd := fun v w Φ => ∃ i j, toI v = some i ∧ toI w = some j ∧ Φ (.d (.int (if j < i then j else i)))
theorem cs_min2 : CalS2 (.builtin "min") oMin2 := by
  intro C X fx G F env σ H v w x y Q Φ r rv rw' h k
  obtain ⟨i, j, e1, e2, h⟩ := h
  obtain ⟨_, rfl⟩ := rep_I e1 rv
  obtain ⟨_, rfl⟩ := rep_I e2 rw'
  exact wc_of (call_min2 fx.calm) ⟨i, j, rfl, k _ _ _ _ (.refl r) (.imm (by simp only [RepD])) h⟩
@[simp] def oAbs : Und := fun v Φ => ∃ i, toI v = some i ∧ Φ (.d (.int (if i < 0 then -i else i)))
theorem cs_abs : CalS (.builtin "abs") oAbs := by
  intro C X fx G F env σ H v x Q Φ r rv h k
  obtain ⟨i, e1, h⟩ := h
  obtain ⟨_, rfl⟩ := rep_I e1 rv
  exact wc_of call_abs ⟨i, rfl, k _ _ _ _ (.refl r) (.imm (by simp only [RepD])) h⟩
@[simp] def oInt : Und := fun v Φ => (∃ i, toI v = some i ∧ Φ (.d (.int i))) ∨ ∃ b, toB v = some b ∧ Φ (.d (.int (if b then 1 else 0)))
theorem cs_int : CalS (.type "int") oInt := by
  intro C X fx G F env σ H v x Q Φ r rv h k
  rcases h with ⟨i, e1, h⟩ | ⟨b, e1, h⟩
  · obtain ⟨_, rfl⟩ := rep_I e1 rv
    exact wc_of call_int1 (.inl ⟨i, rfl, k _ _ _ _ (.refl r) (.imm (by simp only [RepD])) h⟩)
  · obtain ⟨_, rfl⟩ := rep_B e1 rv
    exact wc_of call_int1 (.inr ⟨b, rfl, k _ _ _ _ (.refl r) (.imm (by simp only [RepD])) h⟩)
/-- any, all: of bools, ints -/
def truI : PyData → Option Bool
  | .bool b => some b
  | .int i => some (i != 0)
  | _ => none
def truIs : List PyData → Option (List Bool)
  | [] => some []
  | x :: xs => (truI x).bind fun b => (truIs xs).map fun r => b :: r
theorem truth_mixed {prog : Program} {w : World} {A : Around} {F : AP1} {H : Hp} : ∀ {ds : List PyData} {vs : List V} {its : List Value} {bs : List Bool}, truIs ds = some bs → RepAll F H ds vs → Vals vs its →
    TruthOf prog w A (fun i v => its.toArray[i]? = some v) (fun i => bs.getD i false) := fun {ds vs its bs} hb rr rv i v s Q E hv hq => by
  have hv' : its[i]? = some v := by simpa using hv
  clear hv
  induction ds generalizing vs its bs i with
  | nil => cases rr.inv0; cases rv; simp at hv'
  | cons d ds ih =>
    obtain ⟨x, t, rfl, r1, r2⟩ := rr.inv
    cases rv with
    | cons ru rt =>
      rename_i u us
      obtain ⟨b, hb1, hb2⟩ := Option.bind_eq_some_iff.mp (show (truI d).bind (fun b => (truIs ds).map fun r => b :: r) = some bs from hb)
      obtain ⟨bs', hb3, rfl⟩ := Option.map_eq_some_iff.mp hb2
      cases i with
      | zero =>
        have hv' : u = v := by simpa using hv'
        subst hv'
        have hq : Q b s := hq
        cases d with
        | bool c => cases hb1; simp only [RepD] at r1; subst r1; cases ru; exact wpAny_truthy_bool hq
        | int c => cases hb1; simp only [RepD] at r1; subst r1; obtain ⟨tk, rfl⟩ := ru; exact PyProof.Rows.truthy_int hq
        | _ => cases hb1
      | succ i => exact ih hb3 r2 rt i (by simpa using hq) (by simpa using hv')
theorem truIs_len : ∀ {ds : List PyData} {bs : List Bool}, truIs ds = some bs → bs.length = ds.length
  | [], _, h => by cases h; rfl
  | d :: ds, bs, h => by
    obtain ⟨b, hb1, hb2⟩ := Option.bind_eq_some_iff.mp (show (truI d).bind (fun b => (truIs ds).map fun r => b :: r) = some bs from h)
    obtain ⟨bs', hb3, rfl⟩ := Option.map_eq_some_iff.mp hb2
    simp [truIs_len hb3]
def oAny : Und := fun v Φ => ∃ ds bs, toL v = some ds ∧ truIs ds = some bs ∧ Φ (.d (.bool (bs.any id)))
def oAll : Und := fun v Φ => ∃ ds bs, toL v = some ds ∧ truIs ds = some bs ∧ Φ (.d (.bool (bs.all id)))
theorem cs_any : CalS (.builtin "any") oAny := by
  intro C X fx G F env σ H v x Q Φ r rv h k
  obtain ⟨ds, bs, hx, hb, h⟩ := h
  obtain ⟨a, vs, rfl, ha, ra⟩ := rep_L hx rv
  intro pins s σ' us I rvs
  obtain ⟨its, rv2, hl, _⟩ := I.list (SqL.of ha)
  rw [Vals.ref1 rvs]
  refine call_any_walk (iter_any hl.isList fun s₂ e2 st hne => ?_)
  subst e2
  refine ⟨_, _, _, _, _, _, _, rfl, Walks.list (A := X.A.in1) (I.ok.hd fx.calm) _ a hne its.toArray, st, truth_mixed hb ra rv2, fun h' tk hk => ?_⟩
  refine ⟨.bl (bs.any id), H, I.kept fun b o eo => hk b o (fun hmem => ?_) (Heap.get?_push_of_some _ eo), ?_, k _ _ _ _ (.refl r) (.imm (by simp only [RepD])) h⟩
  · rcases List.mem_cons.mp hmem with e1 | hmem
    · exact absurd (e1 ▸ Heap.lt_size eo) (Nat.lt_irrefl _)
    · cases hmem
  · show Value.bool _ = Value.bool _
    have e1 : its.length = bs.length := by rw [← rv2.length, ra.length, truIs_len hb]
    rw [← L2.any_range, List.size_toArray, e1]
theorem cs_all : CalS (.builtin "all") oAll := by
  intro C X fx G F env σ H v x Q Φ r rv h k
  obtain ⟨ds, bs, hx, hb, h⟩ := h
  obtain ⟨a, vs, rfl, ha, ra⟩ := rep_L hx rv
  intro pins s σ' us I rvs
  obtain ⟨its, rv2, hl, _⟩ := I.list (SqL.of ha)
  rw [Vals.ref1 rvs]
  refine call_all_walk (iter_any hl.isList fun s₂ e2 st hne => ?_)
  subst e2
  refine ⟨_, _, _, _, _, _, _, rfl, Walks.list (A := X.A.in1) (I.ok.hd fx.calm) _ a hne its.toArray, st, truth_mixed hb ra rv2, fun h' tk hk => ?_⟩
  refine ⟨.bl (bs.all id), H, I.kept fun b o eo => hk b o (fun hmem => ?_) (Heap.get?_push_of_some _ eo), ?_, k _ _ _ _ (.refl r) (.imm (by simp only [RepD])) h⟩
  · rcases List.mem_cons.mp hmem with e1 | hmem
    · exact absurd (e1 ▸ Heap.lt_size eo) (Nat.lt_irrefl _)
    · cases hmem
  · show Value.bool _ = Value.bool _
    have e1 : its.length = bs.length := by rw [← rv2.length, ra.length, truIs_len hb]
    rw [← L2.all_range, List.size_toArray, e1]
/-- sorted: ints; tuples of d ints -/
theorem RepAll.perm {F : AP1} {H : Hp} {vs ys : List V} (hp : ys.Perm vs) : ∀ {xs : List PyData}, RepAll F H xs vs → ∃ zs, zs.Perm xs ∧ RepAll F H zs ys := by
  induction hp with
  | nil => intro xs h; exact ⟨xs, .refl _, h⟩
  | cons y _ ih =>
    intro xs h
    cases xs with
    | nil => have := h.inv0; cases this
    | cons x xs =>
      obtain ⟨v, r, e, h1, h2⟩ := h.inv
      cases e
      obtain ⟨zs, p, q⟩ := ih h2
      exact ⟨x :: zs, p.cons x, .cons h1 q⟩
  | swap y z l =>
    intro xs h
    cases xs with
    | nil => have := h.inv0; cases this
    | cons x xs =>
      obtain ⟨v, r, e, h1, h2⟩ := h.inv
      cases e
      cases xs with
      | nil => have := h2.inv0; cases this
      | cons x2 xs =>
        obtain ⟨v, r, e, h3, h4⟩ := h2.inv
        cases e
        exact ⟨x2 :: x :: xs, .swap _ _ _, .cons h3 (.cons h1 h4)⟩
  | trans _ _ ih1 ih2 =>
    intro xs h
    obtain ⟨zs, p, q⟩ := ih2 h
    obtain ⟨ws, p2, q2⟩ := ih1 q
    exact ⟨ws, p2.trans p, q2⟩
def tupI (ns : List Int) : PyData := .tuple (ns.map .int)
def oSortI : Und := fun v Φ => ∃ ns : List Int, toL v = some (ns.map .int) ∧ ∀ ms : List Int, ms.Perm ns → ms.Pairwise (· ≤ ·) → Φ (.own (ms.map .int))
def oSortT : Und := fun v Φ => ∃ (d : Nat) (B : Int) (rs : List (List Int)), toL v = some (rs.map tupI) ∧ 1 ≤ d ∧ rs.length < 64 ∧ (∀ r ∈ rs, r.length = d ∧ TS.Bd B r) ∧ ∀ qs : List (List Int), qs.Perm rs → qs.Pairwise (fun x y => TS.code B x ≤ TS.code B y) → Φ (.own (qs.map tupI))
theorem tupI_inj {a b : List Int} (h : tupI a = tupI b) : a = b := by
  unfold tupI at h
  injection h with h
  have e : ∀ (a b : List Int), a.map PyData.int = b.map PyData.int → a = b := by
    intro a
    induction a with
    | nil => intro b h; cases b with
      | nil => rfl
      | cons _ _ => cases h
    | cons x a ih => intro b h; cases b with
      | nil => cases h
      | cons y b =>
        simp only [List.map_cons, List.cons.injEq, PyData.int.injEq] at h
        rw [h.1, ih b h.2]
  exact e a b h
theorem perm_map_inv {f : List Int → PyData} : ∀ {zs xs : List PyData}, zs.Perm xs → ∀ rs : List (List Int), xs = rs.map f → ∃ qs : List (List Int), qs.Perm rs ∧ zs = qs.map f := by
  intro zs xs hp
  induction hp with
  | nil => intro rs e; exact ⟨rs, .refl _, e⟩
  | cons x _ ih =>
    intro rs e
    cases rs with
    | nil => cases e
    | cons r rs =>
      simp only [List.map_cons, List.cons.injEq] at e
      obtain ⟨qs, p, e2⟩ := ih rs e.2
      exact ⟨r :: qs, p.cons r, by rw [e2, List.map_cons, e.1]⟩
  | swap x y l =>
    intro rs e
    cases rs with
    | nil => cases e
    | cons r rs =>
      cases rs with
      | nil => simp at e
      | cons r2 rs =>
        simp only [List.map_cons, List.cons.injEq] at e
        exact ⟨r2 :: r :: rs, .swap _ _ _, by rw [e.1, e.2.1, e.2.2]; rfl⟩
  | trans _ _ ih1 ih2 =>
    intro rs e
    obtain ⟨qs, p, e2⟩ := ih2 rs e
    obtain ⟨qs2, p2, e3⟩ := ih1 qs e2
    exact ⟨qs2, p2.trans p, e3⟩
theorem RepAll.tups {F : AP1} {H : Hp} {K : PySem.W.Frag} : ∀ {rs : List (List Int)} {vs : List V}, RepAll F H (rs.map tupI) vs → ∀ x ∈ vs, ∃ r ∈ rs, TupI K H x r
  | [], vs, h, x, hx => by cases (show vs = [] from h.inv0); cases hx
  | r :: rs, vs, h, x, hx => by
    obtain ⟨v, t, rfl, h1, h2⟩ := h.inv
    rcases List.mem_cons.mp hx with rfl | hx
    · simp only [tupI, RepD] at h1
      obtain ⟨a, ws, e, f, ha, rr⟩ := h1
      rw [rr.ints] at ha
      exact ⟨r, by simp, a, e, SqT.of ha⟩
    · obtain ⟨r', m, q⟩ := RepAll.tups h2 x hx
      exact ⟨r', List.mem_cons_of_mem _ m, q⟩
theorem RepAll.pair {F : AP1} {H : Hp} {K : PySem.W.Frag} {B : Int} : ∀ {qs : List (List Int)} {ys : List V}, RepAll F H (qs.map tupI) ys → ys.Pairwise (fun x y => ∀ n m, TupI K H x n → TupI K H y m → TS.code B n ≤ TS.code B m) → qs.Pairwise (fun x y => TS.code B x ≤ TS.code B y)
  | [], _, _, _ => .nil
  | q :: qs, ys, h, hp => by
    obtain ⟨v, t, rfl, h1, h2⟩ := h.inv
    rw [List.pairwise_cons] at hp
    refine List.pairwise_cons.mpr ⟨fun q' hq' => ?_, RepAll.pair h2 hp.2⟩
    obtain ⟨i, hi, ei⟩ := List.getElem_of_mem hq'
    have g : (qs.map tupI)[i]? = some (tupI q') := by rw [List.getElem?_map, List.getElem?_eq_getElem hi, ei]; rfl
    obtain ⟨y, hy, ry⟩ := h2.get g
    have t1 : ∀ {z : V} {n : List Int}, RepD F H (tupI n) z → TupI K H z n := fun {z n} hz => by
      simp only [tupI, RepD] at hz
      obtain ⟨a, ws, e, f, ha, rr⟩ := hz
      rw [rr.ints] at ha
      exact ⟨a, e, SqT.of ha⟩
    exact hp.1 y (List.mem_of_getElem? hy) q q' (t1 h1) (t1 ry)
theorem cs_sortI : CalS (.builtin "sorted") oSortI := by
  intro C X fx G F env σ H v x Q Φ r rv h k
  obtain ⟨ns, hx, h⟩ := h
  obtain ⟨a, vs, rfl, ha, ra⟩ := rep_L hx rv
  rw [ra.ints] at ha
  refine wc_of cr_sortedI ⟨a, ns, rfl, SqL.of ha, fun ms p h1 h2 hp => ?_⟩
  obtain ⟨e2, q2⟩ := res_own r hp (RepAll.ofInts ms)
  exact k _ _ _ _ e2 q2 (h ms h1 h2)
theorem cs_sortT : CalS (.builtin "sorted") oSortT := by
  intro C X fx G F env σ H v x Q Φ r rv h k
  obtain ⟨d, B, rs, hx, hd, hl, hb, h⟩ := h
  obtain ⟨a, vs, rfl, ha, ra⟩ := rep_L hx rv
  refine wc_of (cr_sortT (d := d) (B := B) hd) ⟨a, vs, rfl, SqL.of ha, by rw [ra.length, List.length_map]; exact hl, fun y hy => ?_, fun ys p h1 h2 hp => ?_⟩
  · obtain ⟨n, hn, t⟩ := ra.tups (K := X.K) y hy
    exact ⟨n, t, (hb n hn).1, (hb n hn).2⟩
  · obtain ⟨zs, z1, z2⟩ := RepAll.perm h1 ra
    obtain ⟨qs, q1, rfl⟩ := perm_map_inv z1 rs rfl
    obtain ⟨e2, q2⟩ := res_own r hp z2
    exact k _ _ _ _ e2 q2 (h qs q1 (RepAll.pair z2 h2))
theorem CalS.or {f : Value} {o o' : Und} (h : CalS f o) (h' : CalS f o') : CalS f fun v Φ => o v Φ ∨ o' v Φ := by
  intro C X fx G F env σ H v x Q Φ r rv q k
  rcases q with q | q
  · exact h C X fx G F env σ H v x Q Φ r rv q k
  · exact h' C X fx G F env σ H v x Q Φ r rv q k
def oSorted : Und := fun v Φ => oSortI v Φ ∨ oSortT v Φ
theorem cs_sorted : CalS (.builtin "sorted") oSorted := cs_sortI.or cs_sortT

/-! ### repr, isinstance, list(range(..)) -/
def oRepr : Und := fun v Φ => ∃ d, toD v = some d ∧ (toS v).isSome = true ∧ d.showable = true ∧ d.hasDict = false ∧ d.depth ≤ 60 ∧ d.shown.length ≤ 16777216 ∧ Φ (.d (.str d.shown))
theorem so_repr {C : SC} {a : Expr} {da : DO} {pos p : Pos} (hgr : C.grd = true) (hg : C.sc.names.lookup ("repr" : Str) = some .globalImplicit) (ha : SO C a da) (st : ∀ env, starEach [a] env = (false, eval a env) :: starEach [] env) :
    SO C (.Call (.Name "repr" p) [a] [] pos) (dUn oRepr da) := by
  intro X fx G F env σ H Q Φ r h hQ
  refine w_of (pe_callB (callr_w (f := .builtin "repr")) (gl_of fx hg) (bn_of fx (by decide)) (by decide +kernel) (pa_cons pe_w pa_nil (st X.env)) (by decide) (by decide) (st X.env) rfl) ?_
  refine one fx (Φ := fun v env1 => oRepr v fun z => Φ (.v z) env1) ha r h fun v env2 F2 H2 y e rv h2 => ?_
  obtain ⟨d, hd, hs, h1, h3, h4, h5, h2⟩ := h2
  have dp : Dp X.K H2 y d := rep_Dp hd rv
  obtain ⟨xs, hxs⟩ := Option.isSome_iff_exists.mp hs
  obtain ⟨b, vs, rfl, _, _⟩ := rep_S hxs rv
  intro pins s σ' us I rvs
  obtain ⟨u, rfl, ru⟩ := rvs.one
  cases ru
  obtain ⟨as, rd⟩ := Dp.reads I d _ _ dp rfl
  refine repr_of_reads' rd h1 (PyData.noDict_hsm h3) (fx.grd hgr) (by have := fx.units; omega) (fun _ _ h => h) (fun h' u tk hk => ?_) (by rw [sizeLine_eq]; exact h5)
  exact ⟨.str d.shown, H2, I.kept hk, ⟨_, rfl⟩, hQ (.v _) env2 F2 H2 _ e (Res.imm (by simp only [RepD])) h2⟩
def tyName : Val → String
  | .d .none => "NoneType"
  | .d (.bool _) => "bool"
  | .d (.int _) => "int"
  | .d (.str _) => "str"
  | .d (.list _) => "list"
  | .d (.tuple _) => "tuple"
  | .own _ => "list"
  | _ => "?"
theorem ty_ok {K : PySem.W.Frag} {G : Gh} {F : AP1} {H : Hp} {v : Val} {x : V} (r : RepV G F H v x) (h : tyName v ≠ "?") : TyX K H x (.type (tyName v)) := by
  cases v with
  | pot => exact (h rfl).elim
  | odk _ _ => exact (h rfl).elim
  | own xs => obtain ⟨a, vs, rfl, _, ha, _⟩ := r; exact .base (.lst ha)
  | d z =>
    have r : RepD F H z x := r
    cases z with
    | dict _ => exact (h rfl).elim
    | none => simp only [RepD] at r; subst r; exact .base .non
    | bool b => simp only [RepD] at r; subst r; exact .base (.bl b)
    | int i => simp only [RepD] at r; subst r; exact .base (.int i)
    | str s => simp only [RepD] at r; subst r; exact .base (.str s)
    | list xs => simp only [RepD] at r; obtain ⟨a, vs, rfl, _, ha, _⟩ := r; exact .base (.lst ha)
    | tuple xs => simp only [RepD] at r; obtain ⟨a, vs, rfl, _, ha, _⟩ := r; exact .base (.tup ha)
/-- isinstance(v, T): T a built-in type -/
def isi (T : String) (v : Val) : Option Bool := if tyName v = "?" then none else if tyName v = T then some true else if T = "int" ∧ tyName v = "bool" then some true else if T ∈ ["int", "bool", "str", "tuple", "list"] then some false else none
def oIsi (T : String) : Und := fun v Φ => ∃ b, isi T v = some b ∧ Φ (.d (.bool b))
theorem kit_all : ∀ t ∈ ["NoneType", "bool", "int", "str", "list", "tuple"], ∀ T ∈ ["int", "bool", "str", "tuple", "list"], kitB t T = some (decide (t = T) || (decide (T = "int") && decide (t = "bool"))) := by decide +kernel
theorem tyName_mem (v : Val) (h : tyName v ≠ "?") : tyName v ∈ ["NoneType", "bool", "int", "str", "list", "tuple"] := by
  cases v with
  | pot => exact (h rfl).elim
  | odk _ _ => exact (h rfl).elim
  | own _ => simp [tyName]
  | d z => cases z <;> first | (simp [tyName]; done) | exact (h rfl).elim
theorem so_isi {C : SC} {a : Expr} {da : DO} {pos p p2 : Pos} {x : Str} {T : String} (hT : T ∈ ["int", "bool", "str", "tuple", "list"]) (hx : x ∈ bltNames) (hv : bootBuiltins x = some (.type T)) (hn : x ≠ "__name__") (hdb : (x == ("__debug__" : Str)) = false) (hg : C.sc.names.lookup ("isinstance" : Str) = some .globalImplicit) (hg2 : C.sc.names.lookup x = some .globalImplicit) (ha : SO C a da)
    (st : ∀ env, starEach [a, .Name x p2] env = (false, eval a env) :: starEach [.Name x p2] env) : SO C (.Call (.Name "isinstance" p) [a, .Name x p2] [] pos) (dUn (oIsi T) da) := by
  intro X fx G F env σ H Q Φ r h hQ
  refine w_of (pe_callB call_isi (gl_of fx hg) (bn_of fx (by decide)) (by decide +kernel) (pa_cons pe_w (pa_cons (pe_bltn (v := .ty T) (gl_of fx hg2) (bn_of fx hx) hv rfl hn hdb) pa_nil) (st X.env)) (by decide) (by decide) (st X.env) rfl) ?_
  refine one fx (Φ := fun v env1 => oIsi T v fun z => Φ (.v z) env1) ha r h fun v env2 F2 H2 y e rv h2 => ?_
  obtain ⟨b, hb, h2⟩ := h2
  unfold isi at hb
  by_cases hq : tyName v = "?"
  · rw [if_pos hq] at hb; cases hb
  · rw [if_neg hq] at hb
    have k := kit_all _ (tyName_mem v hq) T hT
    have eb : b = (decide (tyName v = T) || (decide (T = "int") && decide (tyName v = "bool"))) := by
      by_cases q1 : tyName v = T
      · rw [if_pos q1] at hb; cases hb; simp [q1]
      · rw [if_neg q1] at hb
        by_cases q2 : T = "int" ∧ tyName v = "bool"
        · rw [if_pos q2] at hb; cases hb; simp [q2.1, q2.2]
        · rw [if_neg q2, if_pos hT] at hb; cases hb
          have e1 : decide (tyName v = T) = false := decide_eq_false q1
          rw [e1, Bool.false_or]
          by_cases q3 : T = "int"
          · have q4 : ¬ tyName v = "bool" := fun q => q2 ⟨q3, q⟩
            simp [q4]
          · simp [q3]
    exact ⟨y, .ty T, .type (tyName v), .type T, b, rfl, .ty T, ty_ok rv hq, kit_ty (by rw [k, eb]), hQ (.v _) env2 F2 H2 _ e (Res.imm (by simp only [RepD])) h2⟩
def rngD (a b : Int) : List PyData := (List.range (b - a).toNat).map fun (i : Nat) => PyData.int (a + i)
theorem rep_rng {F : AP1} {H : Hp} (a b : Int) : RepAll F H (rngD a b) (rgV a b) := by
  have e1 : rngD a b = ((List.range (b - a).toNat).map fun (i : Nat) => a + (i : Int)).map PyData.int := by unfold rngD; rw [List.map_map]; rfl
  have e2 : rgV a b = ((List.range (b - a).toNat).map fun (i : Nat) => a + (i : Int)).map V.int := by unfold rgV; rw [List.map_map]; rfl
  rw [e1, e2]
  exact RepAll.ofInts _
@[simp] def dListR1 (d : DO) : DO := fun env Φ => d env fun r env1 => ∃ v, r.get env1 = some v ∧ ∃ n, toI v = some n ∧ RgOk 0 n ∧ Φ (.v (.own (rngD 0 n))) env1
theorem so_listR1 {C : SC} {a : Expr} {da : DO} {pos p p2 pos2 : Pos} (hg : C.sc.names.lookup ("list" : Str) = some .globalImplicit) (hg2 : C.sc.names.lookup ("range" : Str) = some .globalImplicit) (ha : SO C a da)
    (st : ∀ env, starEach [a] env = (false, eval a env) :: starEach [] env) : SO C (.Call (.Name "list" p) [.Call (.Name "range" p2) [a] [] pos2] [] pos) (dListR1 da) := by
  intro X fx G F env σ H Q Φ r h hQ
  refine w_of (pe_listRg fx.calm (gl_of fx hg) (bn_of fx (by decide)) (prg_1 (gl_of fx hg2) (bn_of fx (by decide)) pe_w (st X.env))) ?_
  refine one fx (Φ := fun v env1 => ∃ n, toI v = some n ∧ RgOk 0 n ∧ Φ (.v (.own (rngD 0 n))) env1) ha r h fun v env2 F2 H2 y e rv h2 => ?_
  obtain ⟨n, hn, ho, h2⟩ := h2
  obtain ⟨_, rfl⟩ := rep_I hn rv
  refine ⟨n, rfl, ho, fun q hq => ?_⟩
  obtain ⟨e2, q2⟩ := res_own e.r hq (rep_rng 0 n)
  exact hQ (.v _) env2 _ _ _ (e.trans e2) (Res.back e q2) h2

@[simp] def dListR2 (d e : DO) : DO := fun env Φ => d env fun ra env1 => e env1 fun rb env2 => ∃ v w, ra.get env2 = some v ∧ rb.get env2 = some w ∧ ∃ m n, toI v = some m ∧ toI w = some n ∧ RgOk m n ∧ Φ (.v (.own (rngD m n))) env2
theorem so_listR2 {C : SC} {a b : Expr} {da db : DO} {pos p p2 pos2 : Pos} (hg : C.sc.names.lookup ("list" : Str) = some .globalImplicit) (hg2 : C.sc.names.lookup ("range" : Str) = some .globalImplicit) (ha : SO C a da) (hb : SO C b db)
    (st : ∀ env, starEach [a, b] env = (false, eval a env) :: starEach [b] env) (st2 : ∀ env, starEach [b] env = (false, eval b env) :: starEach [] env) (hpl : ∀ env, (backTo pos2 (starEach [b] env)).any (·.1) = false) :
    SO C (.Call (.Name "list" p) [.Call (.Name "range" p2) [a, b] [] pos2] [] pos) (dListR2 da db) := by
  intro X fx G F env σ H Q Φ r h hQ
  refine w_of (pe_listRg fx.calm (gl_of fx hg) (bn_of fx (by decide)) (prg_2 (gl_of fx hg2) (bn_of fx (by decide)) pe_w pe_w (st X.env) (st2 X.env) (hpl X.env))) ?_
  refine two fx (Φ := fun v w env2 => ∃ m n, toI v = some m ∧ toI w = some n ∧ RgOk m n ∧ Φ (.v (.own (rngD m n))) env2) ha hb r h fun v w env2 F2 H2 x y e rv rw' h2 => ?_
  obtain ⟨m, n, hm, hn, ho, h2⟩ := h2
  obtain ⟨_, rfl⟩ := rep_I hm rv
  obtain ⟨_, rfl⟩ := rep_I hn rw'
  refine ⟨m, n, rfl, rfl, ho, fun q hq => ?_⟩
  obtain ⟨e2, q2⟩ := res_own e.r hq (rep_rng m n)
  exact hQ (.v _) env2 _ _ _ (e.trans e2) (Res.back e q2) h2

/-! ### methods -/
@[simp] def oBits : Und := fun v Φ => ∃ i, toI v = some i ∧ Φ (.d (.int (Builtin.Int.intBits i : Nat)))
section
variable {C : SC} {a b : Expr} {da db : DO} {pos apos px cpos : Pos} {i : Nat} {x : Str}
theorem so_bits (ha : SO C a da) (hb : ∀ env, attributeBase a "bit_length" env (eval a env) = eval a env) (hl : (apos.endLine == pos.line) = true) : SO C (.Call (.Attribute a "bit_length" apos) [] [] pos) (dUn oBits da) := by
  intro X fx G F env σ H Q Φ r h hQ
  refine w_of (pe_bits pe_w (hb X.env) hl) ?_
  refine one fx (Φ := fun v env1 => oBits v fun z => Φ (.v z) env1) ha r h fun v env2 F2 H2 y e rv h2 => ?_
  obtain ⟨n, hn, h2⟩ := h2
  obtain ⟨_, rfl⟩ := rep_I hn rv
  exact ⟨n, rfl, hQ (.v _) env2 F2 H2 _ e (Res.imm (by simp only [RepD])) h2⟩
/-- xs.append(e), xs.extend(e), xs.pop(), xs.pop(e) of one's own list -/
@[simp] def dApp (i : Nat) (da : DO) : DO := fun env Φ => (∃ xs, env[i]? = some (some (.own xs))) ∧ da env fun r env1 => shR r env1 fun v env2 => ∃ d xs, v = .d d ∧ env2[i]? = some (some (.own xs)) ∧ xs.length < 16777216 ∧ Φ (.v (.d .none)) (env2.set i (some (.own (xs ++ [d]))))
@[simp] def dExt (i : Nat) (da : DO) : DO := fun env Φ => (∃ xs, env[i]? = some (some (.own xs))) ∧ da env fun r env1 => shR r env1 fun v env2 => ∃ ys xs, (v = .d (.list ys) ∨ v = .d (.tuple ys)) ∧ env2[i]? = some (some (.own xs)) ∧ xs.length + ys.length ≤ 16777216 ∧ Φ (.v (.d .none)) (env2.set i (some (.own (xs ++ ys))))
def dPop (i : Nat) : DO := fun env Φ => ∃ xs d, env[i]? = some (some (.own (xs ++ [d]))) ∧ Φ (.v (.d d)) (env.set i (some (.own xs)))
def dPopAt (i : Nat) (da : DO) : DO := fun env Φ => (∃ xs, env[i]? = some (some (.own xs))) ∧ da env fun r env1 => ∃ v, r.get env1 = some v ∧ ∃ (k : Nat) (xs : List PyData) (d : PyData), toI v = some (k : Int) ∧ env1[i]? = some (some (.own xs)) ∧ xs.length ≤ 16777216 ∧ xs[k]? = some d ∧ Φ (.v (.d d)) (env1.set i (some (.own (xs.eraseIdx k))))
theorem own_slot {G : Gh} {F : AP1} {env : Env} {σ : L2.St} {H : Hp} (r : R G F env σ H) {xs : List PyData} (ei : env[i]? = some (some (.own xs))) {o : V} (so : σ[i]? = some (some o)) : ∃ a vs, o = .ref a ∧ H a = some (.lst vs) ∧ RepAll F H xs vs ∧ OwnS env σ a := by
  obtain ⟨o', so', rv⟩ := r.rep i _ ei
  rw [so] at so'; cases so'
  obtain ⟨a, vs, rfl, _, ha, rr⟩ := rv
  exact ⟨a, vs, rfl, ha, rr, i, _, ei, rfl, so⟩
theorem few1 {a : Expr} {cpos : Pos} {env : PySem.Env} (st : starEach [a] env = (false, eval a env) :: starEach [] env) :
    ((backTo cpos (starEach [a] env)).all (fun x => !x.1) && (backToKw cpos (keywordEach [] env)).all (fun x => x.1.isSome) && decide (([a] : List Expr).length + ([] : List Keyword).length + (if ([] : List Keyword).isEmpty then 0 else 1) < 30)) = true := by
  rw [st]
  rfl
theorem so_app (hv : SO C (.Name x px) (dVar i)) (ha : SO C a da) (st : ∀ env, starEach [a] env = (false, eval a env) :: starEach [] env) (hl : (apos.endLine == cpos.line) = true) : SO C (.Call (.Attribute (.Name x px) "append" apos) [a] [] cpos) (dApp i da) := by
  intro X fx G F env σ H Q Φ r h hQ
  refine w_of (pe_bm PySem.F.plainAttrs_list PySem.F.slot_list_append PySem.F.type_list_append mt_append pe_w (pa_cons pe_w pa_nil (st X.env)) rfl (few1 (st X.env)) hl (st X.env) rfl) ?_
  obtain ⟨⟨xs0, ex0⟩, h⟩ := h
  refine hv X fx G F env σ H _ (fun rr env' => rr = .s i ∧ env' = env) r ⟨⟨_, ex0⟩, rfl, rfl⟩ fun r1 env1 F1 H1 o e1 q1 h1 => ?_
  obtain ⟨rfl, rfl⟩ := h1
  have q1 : σ[i]? = some (some o) := q1
  obtain ⟨a0, vs0, rfl, ha0, _, _⟩ := own_slot e1.r ex0 q1
  refine ⟨.inl ⟨rfl, vs0, SqL.of ha0⟩, ?_⟩
  show wE X a σ H1 fun y H2 => rAppend _ [y] H2 Q
  refine ha X fx G F1 env1 σ H1 _ _ e1.r h fun r2 env2 F2 H2 y e2 q2 h2 => ?_
  obtain ⟨F3, env3, v, e3, g3, rv, no, d, xs, rfl, ei, hlen, h3⟩ := share e2 q2 h2
  obtain ⟨a1, vs1, ea, ha1, ra1, oa1⟩ := own_slot e3.r ei q1
  cases ea
  refine ⟨_, vs1, y, rfl, rfl, ha1, by rw [ra1.length, sizeLine_eq]; exact hlen, ?_⟩
  have e4 := e3.r.write ei q1 (ra1.append (.cons rv .nil))
  have e14 := (e1.trans e3).trans e4
  exact hQ (.v _) _ F3 _ _ e14 (Res.imm (by simp only [RepD])) h3
theorem so_ext (hv : SO C (.Name x px) (dVar i)) (ha : SO C a da) (st : ∀ env, starEach [a] env = (false, eval a env) :: starEach [] env) (hl : (apos.endLine == cpos.line) = true) : SO C (.Call (.Attribute (.Name x px) "extend" apos) [a] [] cpos) (dExt i da) := by
  intro X fx G F env σ H Q Φ r h hQ
  refine w_of (pe_bm PySem.F.plainAttrs_list PySem.F.slot_list_extend PySem.F.type_list_extend mt_extendB pe_w (pa_cons pe_w pa_nil (st X.env)) rfl (few1 (st X.env)) hl (st X.env) rfl) ?_
  obtain ⟨⟨xs0, ex0⟩, h⟩ := h
  refine hv X fx G F env σ H _ (fun rr env' => rr = .s i ∧ env' = env) r ⟨⟨_, ex0⟩, rfl, rfl⟩ fun r1 env1 F1 H1 o e1 q1 h1 => ?_
  obtain ⟨rfl, rfl⟩ := h1
  have q1 : σ[i]? = some (some o) := q1
  obtain ⟨a0, vs0, rfl, ha0, _, _⟩ := own_slot e1.r ex0 q1
  refine ⟨.inl ⟨rfl, vs0, SqL.of ha0⟩, ?_⟩
  show wE X a σ H1 fun y H2 => rExtendB _ [y] H2 Q
  refine ha X fx G F1 env1 σ H1 _ _ e1.r h fun r2 env2 F2 H2 y e2 q2 h2 => ?_
  obtain ⟨F3, env3, v, e3, g3, rv, no, ys, xs, ev, ei, hlen, h3⟩ := share e2 q2 h2
  obtain ⟨a1, vs1, ea, ha1, ra1, oa1⟩ := own_slot e3.r ei q1
  cases ea
  rcases ev with rfl | rfl
  · have rv : RepD F3 H2 (.list ys) y := rv
    simp only [RepD] at rv
    obtain ⟨b, ws, rfl, fb, hb, rb⟩ := rv
    refine .inl ⟨_, b, vs1, ws, rfl, rfl, ha1, hb, by rw [ra1.length, rb.length, sizeLine_eq]; exact hlen, ?_⟩
    have e4 := e3.r.write ei q1 (ra1.append rb)
    have e14 := (e1.trans e3).trans e4
    exact hQ (.v _) _ F3 _ _ e14 (Res.imm (by simp only [RepD])) h3
  · have rv : RepD F3 H2 (.tuple ys) y := rv
    simp only [RepD] at rv
    obtain ⟨b, ws, rfl, fb, hb, rb⟩ := rv
    refine .inr ⟨_, b, vs1, ws, rfl, rfl, ha1, hb, by rw [ra1.length, rb.length, sizeLine_eq]; exact hlen, ?_⟩
    have e4 := e3.r.write ei q1 (ra1.append rb)
    have e14 := (e1.trans e3).trans e4
    exact hQ (.v _) _ F3 _ _ e14 (Res.imm (by simp only [RepD])) h3
theorem so_pop (hv : SO C (.Name x px) (dVar i)) (hl : (apos.endLine == cpos.line) = true) : SO C (.Call (.Attribute (.Name x px) "pop" apos) [] [] cpos) (dPop i) := by
  intro X fx G F env σ H Q Φ r h hQ
  refine w_of (pe_bm0 PySem.F.plainAttrs_list PySem.F.slot_list_pop PySem.F.type_list_pop mt_pop pe_w rfl hl) ?_
  obtain ⟨xs, d, ei, h⟩ := h
  refine hv X fx G F env σ H _ (fun rr env' => rr = .s i ∧ env' = env) r ⟨⟨_, ei⟩, rfl, rfl⟩ fun r1 env1 F1 H1 o e1 q1 h1 => ?_
  obtain ⟨rfl, rfl⟩ := h1
  have q1 : σ[i]? = some (some o) := q1
  obtain ⟨a0, vs0, rfl, ha0, ra0, _⟩ := own_slot e1.r ei q1
  have gl : (xs ++ [d])[(xs ++ [d]).length - 1]? = some d := by simp
  obtain ⟨y, hy, ry⟩ := ra0.get gl
  refine ⟨.inl ⟨rfl, vs0, SqL.of ha0⟩, a0, vs0, y, rfl, rfl, ha0, by rw [ra0.length]; exact hy, ?_⟩
  have e4 := e1.r.write ei q1 (by have := ra0.dropLast; rwa [List.dropLast_concat] at this)
  exact hQ (.v _) _ F1 _ _ (e1.trans e4) (Res.imm (e4.repD e1.r ry)) h
theorem so_popAt (hv : SO C (.Name x px) (dVar i)) (ha : SO C a da) (st : ∀ env, starEach [a] env = (false, eval a env) :: starEach [] env) (hl : (apos.endLine == cpos.line) = true) : SO C (.Call (.Attribute (.Name x px) "pop" apos) [a] [] cpos) (dPopAt i da) := by
  intro X fx G F env σ H Q Φ r h hQ
  refine w_of (pe_bm PySem.F.plainAttrs_list PySem.F.slot_list_pop PySem.F.type_list_pop mt_popAt pe_w (pa_cons pe_w pa_nil (st X.env)) rfl (few1 (st X.env)) hl (st X.env) rfl) ?_
  obtain ⟨⟨xs0, ex0⟩, h⟩ := h
  refine hv X fx G F env σ H _ (fun rr env' => rr = .s i ∧ env' = env) r ⟨⟨_, ex0⟩, rfl, rfl⟩ fun r1 env1 F1 H1 o e1 q1 h1 => ?_
  obtain ⟨rfl, rfl⟩ := h1
  have q1 : σ[i]? = some (some o) := q1
  obtain ⟨a0, vs0, rfl, ha0, _, _⟩ := own_slot e1.r ex0 q1
  refine ⟨.inl ⟨rfl, vs0, SqL.of ha0⟩, ?_⟩
  show wE X a σ H1 fun y H2 => rPopAt _ [y] H2 Q
  refine ha X fx G F1 env1 σ H1 _ _ e1.r h fun r2 env2 F2 H2 y e2 q2 h2 => ?_
  obtain ⟨v, g, k, xs, d, hk, ei, hlen, hd, h2⟩ := h2
  obtain ⟨_, rfl⟩ := rep_I hk (q2.at e2.r g)
  obtain ⟨a1, vs1, ea, ha1, ra1, oa1⟩ := own_slot e2.r ei q1
  cases ea
  obtain ⟨y, hy, ry⟩ := ra1.get hd
  have hkl : k < xs.length := (List.getElem?_eq_some_iff.mp hd).1
  refine ⟨_, vs1, (k : Int), k, y, rfl, rfl, ha1, by omega, by omega, ?_, hy, ?_⟩
  · have e0 : ixN vs1.length (k : Int) = some k := by
      unfold ixN
      rw [ra1.length, if_pos (by omega), if_pos (by omega)]
      simp
    exact (ixN_seq e0).1
  · have e4 := e2.r.write ei q1 (ra1.eraseIdx k)
    have e14 := (e1.trans e2).trans e4
    exact hQ (.v _) _ F2 _ _ e14 (Res.imm (e4.repD e2.r ry)) h2
end
end Ev
set_option Elab.async false
set_option linter.all false
set_option maxRecDepth 100000
/-! Ev9: from the text of a def to its reading, with the proof that the reading is right. -/
namespace Ev
open PySem PySem.Spec PyProof.Rows L2

/-! ### what a piece of syntax is not -/
def isStar : Expr → Bool
  | .Starred .. => true
  | _ => false
theorem star_ok {e : Expr} (h : isStar e = false) (es : List Expr) : ∀ env, starEach (e :: es) env = (false, eval e env) :: starEach es env := by
  cases e <;> first | (intro env; rfl) | cases h
theorem noStars {es : List Expr} (h : es.all (fun e => !isStar e) = true) (pos : Pos) : ∀ env, (backTo pos (starEach es env)).any (·.1) = false := by
  intro env
  induction es with
  | nil => rfl
  | cons e es ih =>
    rw [List.all_cons, Bool.and_eq_true] at h
    rw [star_ok (by simpa using h.1)]
    show (false || (backTo pos (starEach es env)).any (·.1)) = false
    rw [ih h.2]
    rfl
def isSlice : Expr → Bool
  | .Slice .. => true
  | _ => false
theorem plain_ok {e : Expr} (h : isSlice e = false) : PlainIx e := by
  cases e <;> first | (intro _ _; rfl) | cases h
def isTest : Expr → Bool
  | .UnaryOp .. => true
  | .BoolOp .. => true
  | .IfExp .. => true
  | .Compare .. => true
  | _ => false
theorem test_ok {e : Expr} (h : isTest e = false) : ∀ env whole, isTrue e env whole = (do let v ← whole; standAt e.pos; holding [v] (truthy v)) := by
  cases e <;> first | (intro _ _; rfl) | cases h
def isComp : Expr → Bool
  | .ListComp .. => true
  | .SetComp .. => true
  | .DictComp .. => true
  | .Set .. => true
  | _ => false
theorem swap_ok {e : Expr} (h : isComp e = false) (t : Option Expr) (l : Nat) : ∀ env, swapsWith e t l env = pure false := by
  cases e <;> first | (intro _; rfl) | cases h
theorem fold_ok {e : Expr} (h : isComp e = false) : ∀ env x, foldedSetIterable e env x = pure x := by
  cases e <;> first | (intro _ _; rfl) | cases h
def isZeroCall : Expr → Bool
  | .Call _ [] [] _ => true
  | _ => false
theorem attr_ok {e : Expr} (h : isZeroCall e = false) (m : Str) : ∀ env, attributeBase e m env (eval e env) = eval e env := by
  intro env
  cases e with
  | Call f as ks p =>
    cases as with
    | nil => cases ks with
      | nil => cases h
      | cons k ks => unfold attributeBase; cases f <;> rfl
    | cons a as => unfold attributeBase; cases f <;> rfl
  | _ => rfl
/-- the swapped stores of a tuple of names -/
def locNames (sc : Scope) (ts : List Expr) : List Str := ts.filterMap fun
  | .Name id pos => if sc.names.lookup id == some .local && pos.line == ((ts.head?.map (·.pos.line)).getD 0) then some id else none
  | _ => none
theorem swp_none {sc : Scope} {ts vs : List Expr} {k k2 : Nat} {p p2 : Pos} (h : ((ts.length == 2 || ts.length == 3) && (locNames sc ts).length == ts.length) = false) : ∀ env, env.scope = sc → swappedStores [.Tuple ts k p] (.Tuple vs k2 p2) env = pure none := by
  intro env he
  unfold swappedStores
  simp only [pure_bind]
  have e1 : ∀ id, env.kindOf id = sc.names.lookup id := fun id => by rw [← he]; rfl
  split
  · rfl
  · rename_i h1
    split
    · rfl
    · split
      · rfl
      · rename_i h3
        exfalso
        simp only [e1] at h3
        simp only [Bool.or_eq_true, not_or, Bool.not_eq_true', Bool.not_eq_true, Bool.or_eq_false_iff, bne_eq_false_iff_eq] at h1 h3
        have a1 : (ts.length == 2 || ts.length == 3) = true := by
          have := h1.1.1
          rw [Bool.or_eq_true]
          by_cases q : ts.length = 2
          · exact .inl (by simp [q])
          · exact .inr (by simpa [q] using this)
        have a2 : (locNames sc ts).length = ts.length := h3.1
        rw [a1, a2] at h
        simp at h
theorem swp_some2 {sc : Scope} {x y : Str} {px py p p2 : Pos} {k k2 : Nat} {a b : Expr} (hx : sc.names.lookup x = some .local) (hy : sc.names.lookup y = some .local) (hl : px.line = py.line) (hne : x ≠ y) (ha : isStar a = false) (hb : isStar b = false)
    (hf : ([a, b].all (foldedForSure 8)) = false) (hc : ([a, b].all (constantsAlone 8)) = false) : ∀ env, env.scope = sc → env.scope.kind = .function → swappedStores [.Tuple [.Name x px, .Name y py] k p] (.Tuple [a, b] k2 p2) env = pure (some [x, y]) := by
  intro env he hk
  have e1 : ∀ id, env.kindOf id = sc.names.lookup id := fun id => by rw [← he]; rfl
  have bk : env.blockKind = .function := by unfold Env.blockKind; rw [hk]; rfl
  unfold swappedStores
  simp only [pure_bind, bk]
  have nd : ([x, y] : List Str).eraseDups.length = 2 := by
    have : (y == x) = false := by simpa using fun z => hne z.symm
    simp [List.eraseDups, List.eraseDupsBy, List.eraseDupsBy.loop, this]
  simp [e1, hx, hy, hl, Expr.pos, nd, hf, hc]
  intro h
  exfalso
  (repeat' rcases h with h | h) <;> (split at h <;> simp_all [isStar])
theorem swp_some3 {sc : Scope} {x y z : Str} {px py pz p p2 : Pos} {k k2 : Nat} {a b c : Expr} (hx : sc.names.lookup x = some .local) (hy : sc.names.lookup y = some .local) (hz : sc.names.lookup z = some .local) (hl : px.line = py.line) (hl2 : px.line = pz.line) (hne : x ≠ y) (hne2 : x ≠ z) (hne3 : y ≠ z) (ha : isStar a = false) (hb : isStar b = false) (hc' : isStar c = false)
    (hf : ([a, b, c].all (foldedForSure 8)) = false) (hc : ([a, b, c].all (constantsAlone 8)) = false) : ∀ env, env.scope = sc → env.scope.kind = .function → swappedStores [.Tuple [.Name x px, .Name y py, .Name z pz] k p] (.Tuple [a, b, c] k2 p2) env = pure (some [x, y, z]) := by
  intro env he hk
  have e1 : ∀ id, env.kindOf id = sc.names.lookup id := fun id => by rw [← he]; rfl
  have bk : env.blockKind = .function := by unfold Env.blockKind; rw [hk]; rfl
  unfold swappedStores
  simp only [pure_bind, bk]
  have nd : ([x, y, z] : List Str).eraseDups.length = 3 := by
    have e1 : (y == x) = false := by simpa using fun z => hne z.symm
    have e2 : (z == x) = false := by simpa using fun z => hne2 z.symm
    have e3 : (z == y) = false := by simpa using fun z => hne3 z.symm
    simp [List.eraseDups, List.eraseDupsBy, List.eraseDupsBy.loop, e1, e2, e3]
  have l2 : (pz.line == py.line) = true := by rw [← hl, ← hl2]; simp
  have l3 : (py.line == px.line) = true := by rw [hl]; simp
  have l4 : (pz.line == px.line) = true := by rw [hl2]; simp
  have l5 : py.line = px.line := hl.symm
  have l6 : pz.line = px.line := hl2.symm
  simp [List.filterMap, e1, hx, hy, hz, Expr.pos, nd, hf, hc, l5, l6]
  intro h
  exfalso
  (repeat' rcases h with h | h) <;> (split at h <;> first | (cases h; done) | (cases ha; done) | (cases hb; done) | (cases hc'; done))
def isTupleE : Expr → Bool
  | .Tuple .. => true
  | _ => false
theorem swp_no {a tg : Expr} (h : isTupleE a = false) : ∀ env, swappedStores [tg] a env = pure none := by
  intro env
  cases a <;> first | (cases tg <;> rfl) | cases h
end Ev
set_option Elab.async false
set_option linter.all false
set_option maxRecDepth 100000
/-! Ex1: calls by keywords alone. -/
namespace Ev
open PySem PySem.Spec PyProof.Rows L2

def tCallK0 (m : Nat) (sp : Sp) (gV : List V → List V → List V) (E : XK) (tk : TA) : TE := fun σ H Q => tk σ H fun zs H1 => zs.length = m ∧ sp (gV [] zs) H1 Q E
theorem pe_callK0 {X : Cx} {CX : CXT} {k : Nat} {f : Addr} {fd : FuncData} {ps ks : List Str} {sp : Sp} {E : XK} {x : Str} {p pos : Pos} {kws : List Keyword} {tk : TA} {g : List Value → List Value → List Value} {gV : List V → List V → List V}
    (F : FnOk X.prog X.w X.K X.mg X.base CX k f fd ps sp) (hr : Room k X.A) (hg : Gl X x) (hm : X.mg x = some (.ref f)) (hk : PySem.W.keepIn X.K (.ref f) = true) (hb : KBn X.K fd ps 0 ks g gV) (hx : Passes CX X E) (hkw : PK X kws tk)
    (hall : (backToKw pos (keywordEach kws X.env)).all (·.1.isSome) = true) (hks : (backToKw pos (keywordEach kws X.env)).filterMap (·.1) = ks)
    (hdb : (x == ("__debug__" : Str)) = false) (hpl : ((backTo pos (starEach [] X.env)).any (·.1) || (backToKw pos (keywordEach kws X.env)).any (·.1.isNone)) = false) :
    PE X (.Call (.Name x p) [] kws pos) (tCallK0 ks.length sp gV E tk) := by
  refine ⟨fun pins s σ H Q I h => ?_⟩
  refine wpAny_Call_Name_kw (ld_glob I hg hm ?_ hdb)
  refine PySem.W.callWith_KW0 (h₀ := X.base) I.ok.mod.kin hk hall ?_ hpl
  refine thn (hkw.run pos pins s σ H _ I h) fun ws s2 ⟨zs, H2, I2, rz, l2, q2⟩ => ⟨I2.kIn, ?_⟩
  rw [hks]
  exact run_fnN (us := []) (vs := []) F hr hb hx I2 .nil rz rfl l2 q2
def wK (X : Cx) (kws : List Keyword) : TA := fun σ H Q => ∀ (pos : Pos) (pins : List (Addr × Obj)) (s : Shared), Inv X pins σ H s → wpAny (model X.prog X.w) X.A (evalAll ((backToKw pos (keywordEach kws X.env)).map (·.2))) (AP X pins σ Q) X.xe s
theorem pk_w {X : Cx} {kws : List Keyword} : PK X kws (wK X kws) := ⟨fun pos pins s σ H Q I h => h pos pins s I⟩
theorem wk_of {X : Cx} {kws : List Keyword} {t : TA} {σ H Q} (h : PK X kws t) (q : t σ H Q) : wK X kws σ H Q := fun pos pins s I => h.run pos pins s σ H Q I q
def SK (C : SC) (kws : List Keyword) (d : DA) : Prop := ∀ (X : Cx), Fits C X → ∀ (G : Gh) (F : AP1) (env : Env) (σ : L2.St) (H : Hp) (Q : List V → Hp → Prop) (Φ : List Val → Env → Prop), R G F env σ H → d env Φ →
  (∀ vs env' F' H' xs, Ext G F env σ H F' env' H' → RepVs G F' H' vs xs → Φ vs env' → Q xs H') → wK X kws σ H Q
section
variable {C : SC} {e : Expr} {kws : List Keyword} {d : DO} {ds : DA} {pos kpos : Pos} {nm : Option Str}
theorem sk_nil : SK C [] dNil := by
  intro X fx G F env σ H Q Φ r h hQ
  exact wk_of pk_nil (hQ [] env F H [] (.refl r) rfl h)
theorem sk_cons (hd : SO C e d) (hs : SK C kws ds) : SK C (⟨nm, e, kpos⟩ :: kws) (dCons d ds) := by
  intro X fx G F env σ H Q Φ r h hQ
  refine wk_of (pk_cons pe_w pk_w) ?_
  refine hd X fx G F env σ H _ _ r h fun r1 env1 F1 H1 x e1 q1 h1 => ?_
  obtain ⟨F2, env2, v, e2, g2, rv, no, h2⟩ := share e1 q1 h1
  refine hs X fx G F2 env2 σ H1 _ _ e2.r h2 fun vs env3 F3 H3 xs e3 rs h3 => ?_
  exact hQ (v :: vs) env3 F3 H3 (x :: xs) (e2.trans e3) ⟨x, xs, rfl, ⟨RepV.keep e2.r e3 rv no, no⟩, rs⟩ h3
theorem RepVs.at_ {G : Gh} {F : AP1} {H : Hp} : ∀ {vs : List Val} {xs : List V}, RepVs G F H vs xs → ∀ i : Nat, (∃ v x, vs[i]? = some v ∧ xs[i]? = some x ∧ RepV G F H v x ∧ isOwn v = false) ∨ (vs[i]? = none ∧ xs[i]? = none)
  | [], _, h, i => by cases h; exact .inr ⟨rfl, rfl⟩
  | v :: vs, _, h, i => by
    obtain ⟨x, t, rfl, ⟨h1, h2⟩, h3⟩ := h
    cases i with
    | zero => exact .inl ⟨v, x, rfl, rfl, h1, h2⟩
    | succ i => simpa using RepVs.at_ h3 i
theorem RepVs.sel {G : Gh} {F : AP1} {H : Hp} {vs : List Val} {xs : List V} (h : RepVs G F H vs xs) : ∀ ix : List Nat, RepVs G F H (selL ix vs) (selL ix xs)
  | [] => rfl
  | i :: ix => by
    have ih := RepVs.sel h ix
    unfold selL at ih ⊢
    rw [List.filterMap_cons, List.filterMap_cons]
    rcases h.at_ i with ⟨v, x, h1, h2, h3, h4⟩ | ⟨h1, h2⟩
    · rw [h1, h2]; exact ⟨x, _, rfl, ⟨h3, h4⟩, ih⟩
    · rw [h1, h2]; exact ih
@[simp] def dCallK (m : Nat) (ix : List Nat) (n : Nat) (sp : FSpec) (ds : DA) : DO := fun env Φ => ds env fun vs env1 => vs.length = m ∧ (selL ix vs).length = n ∧ sp (selL ix vs) fun z => Φ (.v z) env1
theorem kw_names (kws : List Keyword) (pos : Pos) (env : PySem.Env) : (backToKw pos (keywordEach kws env)).map (·.1) = kws.map (·.arg) := by
  induction kws with
  | nil => rfl
  | cons k kws ih =>
    obtain ⟨nm, e, kp⟩ := k
    show nm :: (backToKw pos (keywordEach kws env)).map (·.1) = _
    rw [ih]; rfl
theorem kw_all {kws : List Keyword} (h : kws.all (·.arg.isSome) = true) (pos : Pos) (env : PySem.Env) : (backToKw pos (keywordEach kws env)).all (·.1.isSome) = true := by
  have e := kw_names kws pos env
  have : (((backToKw pos (keywordEach kws env)).map (·.1)).all Option.isSome) = true := by
    rw [e, List.all_map]; exact h
  rw [List.all_map] at this
  exact this
theorem kw_some {kws : List Keyword} (pos : Pos) (env : PySem.Env) : (backToKw pos (keywordEach kws env)).filterMap (·.1) = kws.filterMap (·.arg) := by
  have e := kw_names kws pos env
  have a : ∀ l : List (Option Str × Sem Value), l.filterMap (·.1) = (l.map (·.1)).filterMap id := fun l => by rw [List.filterMap_map]; rfl
  have b : ∀ l : List Keyword, l.filterMap (·.arg) = (l.map (·.arg)).filterMap id := fun l => by rw [List.filterMap_map]; rfl
  rw [a, b, e]
theorem kw_plain {kws : List Keyword} (h : kws.all (·.arg.isSome) = true) (pos : Pos) (env : PySem.Env) : ((backTo pos (starEach [] env)).any (·.1) || (backToKw pos (keywordEach kws env)).any (·.1.isNone)) = false := by
  have a := kw_all h pos env
  show (false || _) = false
  rw [Bool.false_or]
  rw [List.all_eq_true] at a
  rw [List.any_eq_false]
  intro x hx
  have := a x hx
  cases q : x.1 with
  | none => rw [q] at this; cases this
  | some y => simp
theorem so_callK {f : FnS} {p : Pos} {q : List Str × List Nat} (hf : f ∈ C.fns) (hq : q ∈ f.kws) (hg : C.sc.names.lookup f.name = some .globalImplicit) (hs : SK C kws ds) (hdb : (f.name == ("__debug__" : Str)) = false)
    (ha : kws.all (·.arg.isSome) = true) (hn : kws.filterMap (·.arg) = q.1) : SO C (.Call (.Name f.name p) [] kws pos) (dCallK q.1.length q.2 f.ps.length f.sp ds) := by
  intro X fx G F env σ H Q Φ r h hQ
  obtain ⟨k, a, fd, FO, hr, hm, hk, _, hkw⟩ := (fx.fns f hf).ex
  refine w_of (pe_callK0 FO hr (gl_of fx hg) hm hk (hkw q hq) pass0 pk_w (kw_all ha _ _) (by rw [kw_some, hn]) hdb (kw_plain ha _ _)) ?_
  refine hs X fx G F env σ H _ _ r h fun vs env1 F1 H1 xs e1 rs h1 => ?_
  obtain ⟨h1, h2, h3⟩ := h1
  refine ⟨rs.len.trans h1, ?_⟩
  exact call_run (X := X) e1 (rs.sel q.2) ⟨h2, h3⟩ fun z env' F' H' x e q hz => hQ (.v z) env' F' H' x e q hz
end
end Ev
set_option Elab.async false
set_option linter.all false
set_option maxRecDepth 100000
/-! Ex2: dicts that one name alone holds. -/
namespace Ev
open PySem PySem.Spec PyProof.Rows L2

/-! ### by value -/
open Classical in
noncomputable def dGet : List (PyData × PyData) → PyData → Option PyData
  | [], _ => none
  | p :: r, k => if p.1 = k then some p.2 else dGet r k
open Classical in
noncomputable def dPut : List (PyData × PyData) → PyData → PyData → List (PyData × PyData)
  | [], k, v => [(k, v)]
  | p :: r, k, v => if p.1 = k then (p.1, v) :: r else p :: dPut r k v
def keyFit (b : Bool) (x : PyData) : Prop := if b = true then (keyOfT x).isSome = true else (keyOf x).isSome = true
theorem keyOf_inj {x y : PyData} {k : Key} (h : keyOf x = some k) (h' : keyOf y = some k) : x = y := by
  cases x <;> simp only [keyOf] at h <;> first | cases h | skip
  all_goals (cases y <;> simp only [keyOf] at h' <;> first | cases h' | skip)
  all_goals rfl
theorem codes_inj {κ : Type} {c : PyData → Option κ} (inj : ∀ {x y k}, c x = some k → c y = some k → x = y) : ∀ {xs ys : List PyData} {ks : List κ}, codes c xs = some ks → codes c ys = some ks → xs = ys
  | [], [], _, _, _ => rfl
  | [], y :: ys, ks, h, h' => by
    simp only [codes] at h h'
    cases h
    obtain ⟨k, _, h2⟩ := Option.bind_eq_some_iff.mp h'
    obtain ⟨r, _, h3⟩ := Option.map_eq_some_iff.mp h2
    cases h3
  | x :: xs, [], ks, h, h' => by
    simp only [codes] at h h'
    cases h'
    obtain ⟨k, _, h2⟩ := Option.bind_eq_some_iff.mp h
    obtain ⟨r, _, h3⟩ := Option.map_eq_some_iff.mp h2
    cases h3
  | x :: xs, y :: ys, ks, h, h' => by
    simp only [codes] at h h'
    obtain ⟨k, e1, h2⟩ := Option.bind_eq_some_iff.mp h
    obtain ⟨r, e2, h3⟩ := Option.map_eq_some_iff.mp h2
    obtain ⟨k', e1', h2'⟩ := Option.bind_eq_some_iff.mp h'
    obtain ⟨r', e2', h3'⟩ := Option.map_eq_some_iff.mp h2'
    subst h3
    cases h3'
    rw [inj e1 e1', codes_inj inj e2 e2']
theorem keyOfT_inj {x y : PyData} {k : List Key} (h : keyOfT x = some k) (h' : keyOfT y = some k) : x = y := by
  cases x <;> simp only [keyOfT] at h <;> first | cases h | skip
  cases y <;> simp only [keyOfT] at h' <;> first | cases h' | skip
  rw [codes_inj (fun a b => keyOf_inj a b) h h']
theorem codes_len {κ : Type} {c : PyData → Option κ} : ∀ {xs : List PyData} {ks : List κ}, codes c xs = some ks → ks.length = xs.length
  | [], _, h => by cases h; rfl
  | x :: xs, ks, h => by
    simp only [codes] at h
    obtain ⟨k, _, h2⟩ := Option.bind_eq_some_iff.mp h
    obtain ⟨r, e2, h3⟩ := Option.map_eq_some_iff.mp h2
    subst h3
    simp [codes_len e2]
theorem codes_cons {κ : Type} {c : PyData → Option κ} {x : PyData} {xs : List PyData} {ks : List κ} (h : codes c (x :: xs) = some ks) : ∃ k r, c x = some k ∧ codes c xs = some r ∧ ks = k :: r := by
  simp only [codes] at h
  obtain ⟨k, e1, h2⟩ := Option.bind_eq_some_iff.mp h
  obtain ⟨r, e2, h3⟩ := Option.map_eq_some_iff.mp h2
  exact ⟨k, r, e1, e2, h3.symm⟩
theorem codes_mk {κ : Type} {c : PyData → Option κ} {x : PyData} {xs : List PyData} {k : κ} {r : List κ} (h1 : c x = some k) (h2 : codes c xs = some r) : codes c (x :: xs) = some (k :: r) := by
  simp only [codes, h1, h2]; rfl

section
variable {κ : Type} [DecidableEq κ] {c : PyData → Option κ} {F : AP1} {H : Hp}
/-- in its place or at the end -/
def sPut (l : List (κ × V)) (k : κ) (v : V) : List (κ × V) := match l with
  | [] => [(k, v)]
  | p :: r => if p.1 = k then (p.1, v) :: r else p :: sPut r k v
theorem sput_eq {l : List (κ × V)} {k : κ} {v : V} (nd : (l.map (·.1)).Nodup) : putK l k v = sPut l k v := by
  induction l with
  | nil => rfl
  | cons p r ih =>
    have nd' : (r.map (·.1)).Nodup := (List.nodup_cons.mp nd).2
    have np : p.1 ∉ r.map (·.1) := (List.nodup_cons.mp nd).1
    by_cases e : p.1 = k
    · have hm : r.map (fun kv => if kv.1 = k then (kv.1, v) else kv) = r := by
        have : ∀ q ∈ r, (if q.1 = k then (q.1, v) else q) = q := fun q hq => by
          rw [if_neg]
          intro z
          exact np (by rw [e, ← z]; exact List.mem_map_of_mem hq)
        calc r.map (fun kv => if kv.1 = k then (kv.1, v) else kv) = r.map id := List.map_congr_left this
          _ = r := by simp
      simp [putK, sPut, e, hm]
    · rw [sPut, if_neg e, ← ih nd']
      unfold putK
      by_cases a : (r.any fun kv => decide (kv.1 = k)) = true
      · simp [e, a]
      · simp [e, a]
theorem get_rep (inj : ∀ {x y k}, c x = some k → c y = some k → x = y) {x : PyData} {k : κ} (hx : c x = some k) : ∀ {kvs : List (PyData × PyData)} {kk : List κ} {vs : List V}, codes c (kvs.map (·.1)) = some kk → RepAll F H (kvs.map (·.2)) vs →
    (dGet kvs x = none ∧ valV (kk.zip vs) k = none) ∨ ∃ d v, dGet kvs x = some d ∧ valV (kk.zip vs) k = some v ∧ RepD F H d v
  | [], kk, vs, h, r => by
    cases h; cases r.inv0
    exact .inl ⟨rfl, rfl⟩
  | p :: l, kk, vs, h, r => by
    obtain ⟨k0, r0, e1, e2, rfl⟩ := codes_cons h
    obtain ⟨v, t, rfl, r1, r2⟩ := r.inv
    simp only at e1 r1
    by_cases e : p.1 = x
    · have : k0 = k := by rw [e, hx] at e1; cases e1; rfl
      refine .inr ⟨p.2, v, by simp [dGet, e], ?_, r1⟩
      rw [List.zip_cons_cons, valV_pos this]
    · have : k0 ≠ k := fun z => e (inj e1 (by rw [z]; exact hx))
      rw [dGet, if_neg e, List.zip_cons_cons, valV_neg this]
      exact get_rep inj hx e2 r2
theorem put_rep (inj : ∀ {x y k}, c x = some k → c y = some k → x = y) {x d : PyData} {k : κ} {v : V} (hx : c x = some k) (hd : RepD F H d v) : ∀ {kvs : List (PyData × PyData)} {kk : List κ} {vs : List V}, codes c (kvs.map (·.1)) = some kk → RepAll F H (kvs.map (·.2)) vs →
    ∃ kk' vs', codes c ((dPut kvs x d).map (·.1)) = some kk' ∧ RepAll F H ((dPut kvs x d).map (·.2)) vs' ∧ sPut (kk.zip vs) k v = kk'.zip vs' ∧ (∀ j, j ∈ kk' ↔ j ∈ kk ∨ j = k) ∧ (kk.Nodup → kk'.Nodup)
  | [], kk, vs, h, r => by
    cases h; cases r.inv0
    exact ⟨[k], [v], by simp [dPut, codes, hx], .cons hd .nil, rfl, by simp, fun _ => by simp⟩
  | p :: l, kk, vs, h, r => by
    obtain ⟨k0, r0, e1, e2, rfl⟩ := codes_cons h
    obtain ⟨w, t, rfl, r1, r2⟩ := r.inv
    simp only at e1 r1
    by_cases e : p.1 = x
    · have : k0 = k := by rw [e, hx] at e1; cases e1; rfl
      subst this
      refine ⟨k0 :: r0, v :: t, ?_, ?_, by simp [sPut], by simp, id⟩
      · simp only [dPut, if_pos e, List.map_cons]; exact codes_mk e1 e2
      · simp only [dPut, if_pos e, List.map_cons]; exact .cons hd r2
    · have ne : k0 ≠ k := fun z => e (inj e1 (by rw [z]; exact hx))
      obtain ⟨kk', vs', h1, h2, h3, h4, h5⟩ := put_rep inj hx hd e2 r2
      refine ⟨k0 :: kk', w :: vs', ?_, ?_, ?_, fun j => ?_, fun nd => ?_⟩
      · simp only [dPut, if_neg e, List.map_cons]; exact codes_mk e1 h1
      · simp only [dPut, if_neg e, List.map_cons]; exact .cons r1 h2
      · simp [sPut, ne, h3]
      · simp [h4]
        constructor
        · rintro (z | z | z)
          · exact .inl (.inl z)
          · exact .inl (.inr z)
          · exact .inr z
        · rintro ((z | z) | z)
          · exact .inl z
          · exact .inr (.inl z)
          · exact .inr (.inr z)
      · obtain ⟨n1, n2⟩ := List.nodup_cons.mp nd
        refine List.nodup_cons.mpr ⟨fun z => ?_, h5 n2⟩
        rcases (h4 k0).mp z with z | z
        · exact n1 z
        · exact ne z
end
theorem zip_keys {κ : Type} {kk : List κ} {vs : List V} (h : kk.length = vs.length) : (kk.zip vs).map (·.1) = kk := by
  rw [List.map_fst_zip]
  omega

/-! ### keys as they stand in the heap -/
/-- a plain key -/
theorem key_V {F : AP1} {H : Hp} {x : PyData} {v : V} {k : Key} (h : keyOf x = some k) (r : RepD F H x v) : v = kV k := by
  cases x <;> simp only [keyOf] at h <;> first | cases h | skip
  all_goals (simp only [RepD] at r; rw [r]; rfl)
theorem keys_V {F : AP1} {H : Hp} : ∀ {xs : List PyData} {vs : List V} {ks : List Key}, codes keyOf xs = some ks → RepAll F H xs vs → vs = ks.map kV
  | [], _, _, h, r => by cases h; cases r.inv0; rfl
  | x :: xs, _, _, h, r => by
    obtain ⟨k, t, e1, e2, rfl⟩ := codes_cons h
    obtain ⟨v, u, rfl, r1, r2⟩ := r.inv
    rw [key_V e1 r1, keys_V e2 r2]; rfl
theorem keyT_V {F : AP1} {H : Hp} {x : PyData} {v : V} {k : List Key} (h : keyOfT x = some k) (r : RepD F H x v) : ∃ a, v = .ref a ∧ H a = some (.tup (k.map kV)) := by
  cases x <;> simp only [keyOfT] at h <;> first | cases h | skip
  simp only [RepD] at r
  obtain ⟨a, vs, e, _, ha, rr⟩ := r
  rw [keys_V h rr] at ha
  exact ⟨a, e, ha⟩
/-- the dict at a slot -/
theorem dict_slot {G : Gh} {F : AP1} {env : Env} {σ : L2.St} {H : Hp} (r : R G F env σ H) {i : Nat} {b : Bool} {kvs : List (PyData × PyData)} (ei : env[i]? = some (some (.odk b kvs))) {o : V} (so : σ[i]? = some (some o)) :
    ∃ a vs ob, o = .ref a ∧ RepAll F H (kvs.map (·.2)) vs ∧ H a = some ob ∧ DictHO b (kvs.map (·.1)) vs ob ∧ OwnS env σ a := by
  obtain ⟨o', so', rv⟩ := r.rep i _ ei
  rw [so] at so'; cases so'
  obtain ⟨a, vs, ob, rfl, _, rr, ha, ho⟩ := rv
  exact ⟨a, vs, ob, rfl, rr, ha, ho, i, _, ei, rfl, so⟩
theorem DictHO.isD {b : Bool} {ks : List PyData} {vs : List V} {o : HO} {H : Hp} {a : Addr} (h : DictHO b ks vs o) (ha : H a = some o) : IsD H a := by
  unfold DictHO at h
  split at h
  · obtain ⟨kk, _, _, rfl⟩ := h; exact .inr ⟨_, .of ha⟩
  · obtain ⟨kk, _, _, rfl⟩ := h; exact .inl ⟨_, .of ha⟩
/-- what is read by a key -/
theorem dict_get {F : AP1} {H : Hp} {a : Addr} {b : Bool} {kvs : List (PyData × PyData)} {vs : List V} {ob : HO} {x : PyData} {y : V} (rr : RepAll F H (kvs.map (·.2)) vs) (ha : H a = some ob) (ho : DictHO b (kvs.map (·.1)) vs ob) (hf : keyFit b x) (ry : RepD F H x y) :
    ∃ o, DGet H a y o ∧ ((dGet kvs x = none ∧ o = none) ∨ ∃ d v, dGet kvs x = some d ∧ o = some v ∧ RepD F H d v) := by
  unfold DictHO at ho
  unfold keyFit at hf
  split at ho
  · rename_i hb
    rw [if_pos hb] at hf
    obtain ⟨kk, hk, nd, rfl⟩ := ho
    obtain ⟨k, hk0⟩ := Option.isSome_iff_exists.mp hf
    obtain ⟨c, rfl, hc⟩ := keyT_V hk0 ry
    refine ⟨_, DGet.t ha hc, ?_⟩
    exact get_rep (fun p q => keyOfT_inj p q) hk0 hk rr
  · rename_i hb
    rw [if_neg hb] at hf
    obtain ⟨kk, hk, nd, rfl⟩ := ho
    obtain ⟨k, hk0⟩ := Option.isSome_iff_exists.mp hf
    have := key_V hk0 ry
    subst this
    refine ⟨_, DGet.k ha, ?_⟩
    exact get_rep (fun p q => keyOf_inj p q) hk0 hk rr

/-! ### d.get(k, e) -/
section
variable {C : SC} {a b : Expr} {da db : DO} {pos apos px cpos : Pos} {i : Nat} {x : Str}
@[simp] def dGet2 (i : Nat) (da db : DO) : DO := fun env Φ => (∃ t kvs, env[i]? = some (some (.odk t kvs))) ∧ da env fun r env1 => shR r env1 fun v env2 => db env2 fun r2 env3 => shR r2 env3 fun w env4 =>
  ∃ z d t kvs, v = .d z ∧ w = .d d ∧ env4[i]? = some (some (.odk t kvs)) ∧ keyFit t z ∧ Φ (.v (.d ((dGet kvs z).getD d))) env4
theorem m2_of {X : Cx} {o e f : Expr} {m : Str} (hb : attributeBase o m X.env (eval o X.env) = eval o X.env) (h1 : isStar e = false) (h2 : isStar f = false) (hl : (apos.endLine == cpos.line) = true) : M2 X o m apos e f cpos := by
  have s : starEach [e, f] X.env = [(false, eval e X.env), (false, eval f X.env)] := by rw [star_ok h1, star_ok h2]; rfl
  exact ⟨hb, by rw [s]; rfl, hl, by rw [s]; rfl⟩
theorem so_get2 (hv : SO C (.Name x px) (dVar i)) (ha : SO C a da) (hb : SO C b db) (h1 : isStar a = false) (h2 : isStar b = false) (hl : (apos.endLine == cpos.line) = true) : SO C (.Call (.Attribute (.Name x px) "get" apos) [a, b] [] cpos) (dGet2 i da db) := by
  intro X fx G F env σ H Q Φ r h hQ
  refine w_of (pe_dget2 (by have := fx.units; omega) pe_w pe_w pe_w (m2_of rfl h1 h2 hl)) ?_
  obtain ⟨⟨t0, kvs0, ei0⟩, h⟩ := h
  refine hv X fx G F env σ H _ (fun rr env' => rr = .s i ∧ env' = env) r ⟨⟨_, ei0⟩, rfl, rfl⟩ fun r1 env1 F1 H1 o e1 q1 hh1 => ?_
  obtain ⟨rfl, rfl⟩ := hh1
  have q1 : σ[i]? = some (some o) := q1
  obtain ⟨a0, vs0, ob0, rfl, rr0, ha0, ho0, _⟩ := dict_slot e1.r ei0 q1
  refine ⟨a0, rfl, ho0.isD ha0, ?_⟩
  refine ha X fx G F1 env1 σ H1 _ _ e1.r h fun r2 env2 F2 H2 y e2 q2 hh2 => ?_
  obtain ⟨F3, env3, v, e3, g3, rv, no, hh3⟩ := share e2 q2 hh2
  refine hb X fx G F3 env3 σ H2 _ _ e3.r hh3 fun r4 env4 F4 H4 z e4 q4 hh4 => ?_
  obtain ⟨F5, env5, w, e5, g5, rw5, no5, hh5⟩ := share e4 q4 hh4
  obtain ⟨zx, d, t, kvs, rfl, rfl, ei, hf, hh6⟩ := hh5
  obtain ⟨a1, vs1, ob1, ea, rr1, ha1, ho1, _⟩ := dict_slot e5.r ei q1
  cases ea
  have rv5 : RepD F5 H4 zx y := e5.repD e3.r rv
  obtain ⟨og, dg, hg⟩ := dict_get rr1 ha1 ho1 hf rv5
  have ee := (e1.trans e3).trans e5
  refine ⟨og, dg, ?_⟩
  rcases hg with ⟨g1, rfl⟩ | ⟨dd, vv, g1, rfl, rd⟩
  · rw [g1] at hh6
    exact hQ (.v _) _ F5 _ _ ee (Res.imm rw5) hh6
  · rw [g1] at hh6
    exact hQ (.v _) _ F5 _ _ ee (Res.imm rd) hh6
end
end Ev
set_option Elab.async false
set_option linter.all false
set_option maxRecDepth 100000
/-! Ex3: dict comprehensions. -/
namespace Ev
open PySem PySem.Spec PyProof.Rows L2

theorem dictHO_k {ks : List PyData} {kk : List Key} {vs : List V} (h : codes keyOf ks = some kk) (nd : kk.Nodup) : DictHO false ks vs (.dK (kk.zip vs)) := by
  unfold DictHO
  rw [if_neg (by decide)]
  exact ⟨kk, h, nd, rfl⟩
theorem dictHO_t {ks : List PyData} {kk : List (List Key)} {vs : List V} (h : codes keyOfT ks = some kk) (nd : kk.Nodup) : DictHO true ks vs (.dT (kk.zip vs)) := by
  unfold DictHO
  rw [if_pos rfl]
  exact ⟨kk, h, nd, rfl⟩
def dcompW (dt : DT) (dc : DB) (dk dv : DO) (vs : List Nat) : List PyData → Env → List (PyData × PyData) → (List (PyData × PyData) → Env → Prop) → Prop
  | [], env, acc, Φ => Φ acc env
  | x :: xs, env, acc, Φ => dt x env fun env1 => dc env1 fun b env2 =>
    (b = true → dk env2 fun r env3 => ∃ kx, r.get env3 = some (.d kx) ∧ (keyOf kx).isSome = true ∧ dv env3 fun r2 env4 => shR r2 env4 fun v env5 => ∃ d, v = .d d ∧ acc.length < 16777216 ∧ dcompW dt dc dk dv vs xs (wipeE env5 vs) (dPut acc kx d) Φ) ∧
    (b = false → dcompW dt dc dk dv vs xs (wipeE env2 vs) acc Φ)
@[simp] def dDc (vs : List Nat) (di : DI) (dt : DT) (dc : DB) (dk dv : DO) : DO := fun env Φ => di env fun items env1 => dcompW dt dc dk dv vs items (wipeE env1 vs) [] fun kvs env2 => Φ (.v (.odk false kvs)) (backE env1 env2 vs)
section
variable {C : SC} {tg iter elt kx : Expr} {ifs : List Expr} {scope : Scope} {own : List (Str × Nat)} {di : DI} {dt : DT} {dc : DB} {de dk : DO} {sl : List Nat} {pos : Pos}
theorem dc_run0 {X : Cx} (fx : Fits C X) (ok : BlkOk X.N X.env.scope scope own) (hg : SGn (blkSC C scope) tg sl dt) (hsl : ∀ i ∈ sl, i ∈ own.map (·.2)) (ht : STs (blkSC C scope) ifs dc) (hk : SO (blkSC C scope) kx dk) (he : SO (blkSC C scope) elt de)
    {G : Gh} {F : AP1} {env : Env} {σ : L2.St} {H : Hp} {Q : VK} {Φ : Rv → Env → Prop}
    (hi : ∀ (Q' : It → Hp → Prop) (Φ' : List PyData → Env → Prop), di env Φ' → (∀ items env' F' H' J, Ext G F env σ H F' env' H' → WalkD F' H' J items → Φ' items env' → Q' J H') → wI X tg iter σ H Q')
    (h : dDc (own.map (·.2)) di dt dc dk de env Φ)
    (hQ : ∀ ds env' F' H' x, Ext G F env σ H F' env' H' → Res G env σ H F' env' H' (.odk false ds) x → Φ (.v (.odk false ds)) env' → Q x H') :
    tDc (wI X tg iter) (bG X scope tg) (bT X scope ifs) (bE X scope kx) (bE X scope elt) (own.map (·.2)) σ H Q := by
  generalize own.map (·.2) = vs at *
  refine hi _ _ h fun items env1 F1 H1 J e1 w h1 => ?_
  intro D hD
  have r1 := e1.r
  have rw1 := r1.wipe vs
  have nD : ¬ F1 D := r1.freshF hD
  have oD : ¬ OwnS env1 σ D := r1.freshO hD
  have pD : ¬ InPot G D := r1.freshP hD
  have e0 : Ext G F1 (wipeE env1 vs) (wipe σ vs) H1 F1 (wipeE env1 vs) (upd H1 D (.dK [])) := (Ext.refl rw1).touch hD nD (fun z => oD z.wiped) pD
  refine ⟨fun i m H' => i ≤ items.length ∧ m = items.length - i ∧ ∃ F' env' acc accV kk, Ext G F1 (wipeE env1 vs) (wipe σ vs) H1 F' env' H' ∧ H' D = some (.dK (kk.zip accV)) ∧ RepAll F' H' (acc.map (·.2)) accV ∧ (codes keyOf (acc.map (·.1)) = some kk ∧ kk.Nodup) ∧ ¬ F' D ∧ ¬ OwnS env' (wipe σ vs) D ∧
    dcompW dt dc dk de vs (items.drop i) env' acc (fun ds env2 => Φ (.v (.odk false ds)) (backE env1 env2 vs)), ⟨items.length, Nat.zero_le _, rfl, F1, wipeE env1 vs, [], [], [], e0, upd_same, .nil, ⟨rfl, .nil⟩, nD, fun z => oD z.wiped, h1⟩, ?_⟩
  rintro i m H2 ⟨hle, rfl, F2, env2, acc, accV, kk, e2, hD2, ra, hkk, nD2, oD2, h2⟩
  have l2 : Lt F1 H1 F2 H2 := e2.lt rw1
  by_cases hlt : i < items.length
  · refine .inr ⟨w.go i H2 F2 l2 hlt, fun H' => ∃ F' env' acc accV kk, Ext G F1 (wipeE env1 vs) (wipe σ vs) H1 F' env' H' ∧ H' D = some (.dK (kk.zip accV)) ∧ RepAll F' H' (acc.map (·.2)) accV ∧ (codes keyOf (acc.map (·.1)) = some kk ∧ kk.Nodup) ∧ ¬ F' D ∧ ¬ OwnS env' (wipe σ vs) D ∧
      dcompW dt dc dk de vs (items.drop (i + 1)) env' acc (fun ds env2 => Φ (.v (.odk false ds)) (backE env1 env2 vs)), fun H' q => ⟨items.length - (i + 1), by omega, hlt, rfl, q⟩, fun x H3 y => ?_⟩
    obtain ⟨z, F3, hz, e3, rz⟩ := w.item e2.r l2 hlt y
    have hd : items.drop i = z :: items.drop (i + 1) := by
      rw [List.drop_eq_getElem_cons hlt]
      rw [List.getElem?_eq_getElem hlt] at hz
      cases hz; rfl
    rw [hd] at h2
    have e13 := e2.trans e3
    have kD3 : H3 D = some (.dK (kk.zip accV)) := e3.keep D _ hD2 oD2 pD
    have nD3 : ¬ F3 D := fun f => by
      rcases e3.fro D f with q | q | q | ⟨_, q⟩
      · exact nD2 q
      · exact oD2 q
      · rw [hD2] at q; cases q
      · rw [hD2] at q; cases q
    have ra3 := e3.repA e2.r ra
    intro s' H' A cl fp
    have fb := fits_blk fx ok s' H' A cl fp
    refine hg _ fb G F3 env2 (wipe σ vs) H3 z x _ _ e3.r rz h2 fun env4 σ4 r4 o4 w4 h4 => ?_
    have w4' : wipe σ4 vs = wipe σ vs := by rw [w4 vs hsl, wipe_wipe]
    refine ⟨w4', ?_⟩
    have oD4 : ¬ OwnS env4 σ4 D := fun q => oD2 (o4 D q)
    -- from the turn's own slots back to the wiped ones
    have fin : ∀ {F5 : AP1} {env5 : Env} {H5 : Hp}, Ext G F3 env4 σ4 H3 F5 env5 H5 → Ext G F1 (wipeE env1 vs) (wipe σ vs) H1 F5 (wipeE env5 vs) H5 ∧ ¬ OwnS (wipeE env5 vs) (wipe σ vs) D := fun {F5 env5 H5} e5 => by
      have r5 := e5.r.wipe vs
      rw [w4'] at r5
      have ow : ∀ a, OwnS (wipeE env5 vs) (wipe σ vs) a → OwnS env4 σ4 a := fun a q => e5.ownd a (by rw [← w4'] at q; exact q.wiped)
      refine ⟨⟨r5, fun a o q n1 n2 => e5.keep a o (e13.keep a o q n1 n2) (fun z => n1 (e2.ownd a (o4 a z))) n2, fun a o q => ?_, fun a q => e5.grow a (e13.grow a q), fun a q => ?_, fun a q => e2.ownd a (o4 a (ow a q))⟩, fun q => oD4 (ow D q)⟩
      · obtain ⟨o', q'⟩ := e13.live a o q
        exact e5.live a o' q'
      · rcases e5.fro a q with q | q | q | ⟨xs, q⟩
        · exact e13.fro a q
        · exact .inr (.inl (e2.ownd a (o4 a q)))
        · exact .inr (.inr (.inl (e13.free q)))
        · exact .inr (e13.tup q)
    intro s'' H'' A' cl' fp'
    have fb' := fits_blk fx ok s'' H'' A' cl' fp'
    refine ht _ fb' G F3 env4 σ4 H3 _ _ r4 h4 fun b env5 F5 H5 e5 h5 => ?_
    have kD5 : H5 D = some (.dK (kk.zip accV)) := e5.keep D _ kD3 oD4 pD
    have nD5 : ¬ F5 D := fun f => by
      rcases e5.fro D f with q | q | q | ⟨_, q⟩
      · exact nD3 q
      · exact oD4 q
      · rw [kD3] at q; cases q
      · rw [kD3] at q; cases q
    have ra5 := e5.repA r4 ra3
    have oD5 : ¬ OwnS env5 σ4 D := fun q => oD4 (e5.ownd D q)
    cases b with
    | false =>
      refine iteF ?_
      obtain ⟨e6, o6⟩ := fin e5
      exact ⟨F5, _, acc, accV, kk, e6, kD5, ra5, hkk, nD5, o6, h5.2 rfl⟩
    | true =>
      refine iteT ?_
      intro s3 H3' A3 cl3 fp3
      have fb3 := fits_blk fx ok s3 H3' A3 cl3 fp3
      refine hk _ fb3 G F5 env5 σ4 H5 _ _ e5.r (h5.1 rfl) fun rk envk Fk Hk yk ek qk hhk => ?_
      obtain ⟨kx', gk, ik, hhk⟩ := hhk
      obtain ⟨kc, ikc⟩ := Option.isSome_iff_exists.mp ik
      have rk0 : RepD Fk Hk kx' yk := qk.at ek.r gk
      have := key_V ikc rk0
      subst this
      intro s4 H4' A4 cl4 fp4
      have fb4 := fits_blk fx ok s4 H4' A4 cl4 fp4
      refine he _ fb4 G Fk envk σ4 Hk _ _ ek.r hhk fun r6 env6 F6 H6 y6 e6 q6 h6 => ?_
      obtain ⟨F7, env7, v, e7, g7, rv, no, d, rfl, hl, h7⟩ := share e6 q6 h6
      have e57 := (e5.trans ek).trans e7
      have k57 := ek.trans e7
      have kD6 : H6 D = some (.dK (kk.zip accV)) := k57.keep D _ kD5 oD5 pD
      have nD7 : ¬ F7 D := fun f => by
        rcases k57.fro D f with q | q | q | ⟨_, q⟩
        · exact nD5 q
        · exact oD5 q
        · rw [kD5] at q; cases q
        · rw [kD5] at q; cases q
      have ra7 := k57.repA e5.r ra5
      obtain ⟨e8, o8⟩ := fin e57
      have lk : kk.length = accV.length := by rw [codes_len hkk.1, ra.length]; simp
      obtain ⟨kk', accV', p1, p2, p3, _, p5⟩ := put_rep (fun a b => keyOf_inj a b) ikc rv hkk.1 ra7
      refine ⟨kk.zip accV, kc, rfl, kD6, ?_, F7, _, dPut acc kx' d, accV', kk', e8.touch hD nD7 o8 pD, ?_, ?_, ⟨p1, p5 hkk.2⟩, nD7, o8, h7⟩
      · have : accV.length = acc.length := by rw [ra.length]; simp
        rw [List.length_zip, lk, Nat.min_self, sizeLine_eq, this]; exact hl
      · rw [upd_same, sput_eq (by rw [zip_keys lk]; exact hkk.2), p3]
      · have st : ∀ a u, F7 a → H6 a = some u → upd H6 D (.dK (putK (kk.zip accV) kc y6)) a = some u := fun a u f q => by rw [upd_ne (fun z : a = D => nD7 (z ▸ f))]; exact q
        exact RepAll.mono (fun _ h => h) st _ _ p2
  · have e : i = items.length := by omega
    subst e
    refine .inl ⟨w.stop H2 F2 l2, ?_⟩
    rw [List.drop_length] at h2
    -- back to the outer names
    have ln : (backE env1 env2 vs).length = σ.length := by
      rw [backE_length, e2.r.len, wipe_length]
    have nf : ∀ a, OwnS env1 σ a → ¬ OwnS (wipeE env1 vs) (wipe σ vs) a → ∀ o, H1 a = some o → H2 a = some o := fun a q n o q' => e2.keep a o q' n fun z => r1.potO z q
    have rB : R G F2 (backE env1 env2 vs) σ H2 := by
      have gw : ∀ (j : Nat) (u : Val), (backE env1 env2 vs)[j]? = some (some u) → isOwn u = true → env2[j]? = some (some u) ∧ (wipe σ vs)[j]? = σ[j]? := fun j u ej ho => by
        rcases backE_some ej with q | ⟨z, rfl, q⟩
        · refine ⟨q, ?_⟩
          obtain ⟨x, sx, _⟩ := e2.r.rep j u q
          exact sx.trans (wipe_some sx).1.symm
        · cases ho
      refine ⟨ln, fun j u ej => ?_, fun j l u u' a ej el ou ou' sj sl => ?_, e2.r.al, fun p g eg => ?_⟩
      · rcases backE_some ej with q | ⟨z, rfl, q⟩
        · obtain ⟨x, sx, rx⟩ := e2.r.rep j u q
          exact ⟨x, (wipe_some sx).1, rx⟩
        · obtain ⟨x, sx, rx⟩ := r1.rep j _ q
          exact ⟨x, sx, RepD.mono l2.grow l2.stab _ _ rx⟩
      · obtain ⟨q1, q2⟩ := gw j u ej ou
        obtain ⟨q3, q4⟩ := gw l u' el ou'
        exact e2.r.sep j l u u' a q1 q3 ou ou' (q2.trans sj) (q4.trans sl)
      · obtain ⟨a1, a2, a3, a4⟩ := e2.r.pt p g eg
        refine ⟨a1, a2, a3, fun a ⟨j, u, ej, ou, sj⟩ => ?_⟩
        obtain ⟨q1, q2⟩ := gw j u ej ou
        exact a4 a ⟨j, u, q1, ou, q2.trans sj⟩
    have owB : ∀ a, OwnS (backE env1 env2 vs) σ a → OwnS env2 (wipe σ vs) a := fun a ⟨j, u, ej, ou, sj⟩ => by
      rcases backE_some ej with q | ⟨z, rfl, q⟩
      · obtain ⟨x, sx, _⟩ := e2.r.rep j u q
        rw [(wipe_some sx).1] at sj
        cases sj
        exact ⟨j, u, q, ou, sx⟩
      · cases ou
    have eB : Ext G F1 env1 σ H1 F2 (backE env1 env2 vs) H2 := ⟨rB, fun a o q n1 n2 => e2.keep a o q (fun z => n1 z.wiped) n2, e2.live, e2.grow, fun a q => (e2.fro a q).imp id (·.imp (·.wiped) id), fun a q => (e2.ownd a (owB a q)).wiped⟩
    exact hQ acc _ F2 H2 (.ref D) (e1.trans eB) ⟨⟨D, accV, _, rfl, nD2, ra, hD2, dictHO_k hkk.1 hkk.2⟩, fun _ a ea => by cases ea; exact ⟨.inr (e1.free hD), fun z => oD2 (owB D z), pD⟩⟩ h2
theorem so_dc (ok : BlkOk C.N C.sc scope own) (hi : SI C tg iter di) (hg : SGn (blkSC C scope) tg sl dt) (hsl : ∀ i ∈ sl, i ∈ own.map (·.2)) (ht : STs (blkSC C scope) ifs dc) (hk : SO (blkSC C scope) kx dk) (he : SO (blkSC C scope) elt de)
    (hs : ∀ env x, foldedSetIterable iter env x = pure x) : SO C (.DictComp kx elt [⟨tg, iter, ifs, 0⟩] scope pos) (dDc (own.map (·.2)) di dt dc dk de) := by
  intro X fx G F env σ H Q Φ r h hQ
  have ok' : BlkOk X.N X.env.scope scope own := by rw [fx.n, fx.sc]; exact ok
  refine w_of (pe_dc (own := own) fx.calm fx.nd pi_w ok' (g := bG X scope tg) (tt := bT X scope ifs) (tk := bE X scope kx) (tv := bE X scope elt) (fun s H' A cl fp => ⟨fun pins s' σ H v u Q I rv q => q s H' A cl fp pins s' u I rv⟩)
    (fun s H' A cl fp => ⟨fun pins s' σ H Q I q => pts_w.run pins s' σ H Q I (q s H' A cl fp)⟩) (fun s H' A cl fp => ⟨fun pins s' σ H Q I q => q s H' A cl fp pins s' I⟩) (fun s H' A cl fp => ⟨fun pins s' σ H Q I q => q s H' A cl fp pins s' I⟩) (hs X.env)) ?_
  exact dc_run0 fx ok' hg hsl ht hk he (fun Q' Φ' h k => hi X fx G F env σ H Q' Φ' r h k) h fun ds env' F' H' x e q hz => hQ (.v _) env' F' H' x e q hz
end
theorem swap_dc {kx elt : Expr} {gs : List Comprehension} {scope : Scope} {pos p : Pos} {x : Str} {l : Nat} {C : SC} (h : (C.sc.names.lookup x == some .local && p.line == pos.line && !(scope.names.any fun (n, k) => n == x && (k == .local || k == .cell))) = false) :
    ∀ env, env.scope = C.sc → swapsWith (.DictComp kx elt gs scope pos) (some (.Name x p)) l env = pure false := fun env he => by
  have e1 : env.kindOf x = C.sc.names.lookup x := by rw [← he]; rfl
  unfold swapsWith
  simp only [e1, Expr.pos]
  have : (env.blockKind == .function && C.sc.names.lookup x == some .local && p.line == pos.line && !(scope.names.any fun (n, k) => n == x && (k == .local || k == .cell))) = false := by
    rw [Bool.and_assoc, Bool.and_assoc, ← Bool.and_assoc (C.sc.names.lookup x == some .local), h, Bool.and_false]
  exact congrArg pure this
end Ev
set_option Elab.async false
set_option linter.all false
set_option maxRecDepth 100000
/-! Ex4: methods of lists and tuples alike: index, count. -/
namespace Ev
open PySem PySem.Spec PyProof.Rows L2

/-- a list (false), a tuple (true) -/
def sK (b : Bool) (v : Val) : Option (List PyData) := if b = true then toT v else toL v
@[simp] theorem sK_t {v : Val} : sK true v = toT v := rfl
@[simp] theorem sK_f {v : Val} : sK false v = toL v := rfl
theorem rep_K {G : Gh} {F : AP1} {H : Hp} {b : Bool} {v : Val} {x : V} {xs : List PyData} (h : sK b v = some xs) (r : RepV G F H v x) : ∃ a vs, x = .ref a ∧ H a = some (srcHO b vs) ∧ RepAll F H xs vs := by
  cases b with
  | true => obtain ⟨a, vs, e, ha, rr, _⟩ := rep_T h r; exact ⟨a, vs, e, ha, rr⟩
  | false => obtain ⟨a, vs, e, ha, rr⟩ := rep_L h r; exact ⟨a, vs, e, ha, rr⟩
def tyK (b : Bool) : String := if b = true then "tuple" else "list"
theorem tyK_is {X : Cx} {a : Addr} {vs : List V} {H : Hp} (h : H a = some (srcHO false vs)) : tyV X.K (tyK false) (.ref a) H := .inl ⟨rfl, vs, SqL.of h⟩
/-- a method that lists and tuples have alike -/
structure SeqMt (name : Str) (id : Bool → String) (o : Opd) : Prop where
  pa : ∀ b, PlainAttrs (tyK b)
  slot : ∀ b, Slot (tyK b) name (id b)
  ty : ∀ b, typeOf (.builtin (id b)) = pure (.type "method_descriptor")
  run : ∀ (b : Bool) (C : SC) (X : Cx), Fits C X → ∀ (G : Gh) (F : AP1) (env : Env) (σ : L2.St) (H : Hp) (v w : Val) (xs : List PyData) (x y : V) (Q : VK) (Φ : Val → Prop), R G F env σ H → sK b v = some xs → RepV G F H v x → RepV G F H w y → o v w Φ →
    (∀ z F' H' zx, Ext G F env σ H F' env H' → Res G env σ H F' env H' z zx → Φ z → Q zx H') → ∀ (pins : List (Addr × Obj)) (s : Shared) (u1 u2 : Value), Inv X pins σ H s → RelV x u1 → RelV y u2 →
      wpAny (model X.prog X.w) X.A (call (.builtin (id b)) [u1, u2]) (EP X pins σ Q) X.xe s
@[simp] def dSeqM (o : Opd) (da db : DO) : DO := fun env Φ => da env fun ra env1 => ∃ (v1 : Val) (xs1 : List PyData), ra.get env1 = some v1 ∧ toL v1 = some xs1 ∧
  db env1 fun rb env2 => ∃ v w, ra.get env2 = some v ∧ rb.get env2 = some w ∧ (toL v).isSome = true ∧ o v w fun z => Φ (.v z) env2
section
variable {C : SC} {a b : Expr} {da db : DO} {apos cpos : Pos}
theorem so_seqM {name : Str} {id : Bool → String} {o : Opd} (m : SeqMt name id o) (ha : SO C a da) (hb : SO C b db) (hat : ∀ env, attributeBase a name env (eval a env) = eval a env) (st : isStar b = false) (hl : (apos.endLine == cpos.line) = true) :
    SO C (.Call (.Attribute a name apos) [b] [] cpos) (dSeqM o da db) := by
  intro X fx G F env σ H Q Φ r h hQ pins s I
  have s1 : starEach [b] X.env = [(false, eval b X.env)] := by rw [star_ok st]; rfl
  have tr : backTo cpos (starEach [b] X.env) = [(false, eval b X.env)] := by rw [s1]; rfl
  refine wpAny_Call_method_late (hat X.env) (few1 (by rw [s1]; rfl)) hl tr ?_
  refine thn ((pe_w (e := a)).run pins s σ H (fun x H1 => ∃ (p : Addr) (vs : List V), x = .ref p ∧ H1 p = some (srcHO false vs) ∧ wE X b σ H1 fun y H2 => ∀ (pins : List (Addr × Obj)) (s : Shared) (u1 u2 : Value), Inv X pins σ H2 s → RelV x u1 → RelV y u2 →
      wpAny (model X.prog X.w) X.A (call (.builtin (id false)) [u1, u2]) (EP X pins σ Q) X.xe s) I ?_) fun u s2 ⟨x, H1, I1, rx, p, vs, ex, hp, q⟩ => ?_
  · refine ha X fx G F env σ H _ _ r h fun r1 env1 F1 H1 x e1 q1 h1 => ?_
    obtain ⟨v1, xs1, g1, k1, h2⟩ := h1
    obtain ⟨p, vs, ep, hp, _⟩ := rep_K (b := false) k1 (q1.at e1.r g1)
    refine ⟨p, vs, ep, hp, ?_⟩
    refine hb X fx G F1 env1 σ H1 _ _ e1.r h2 fun r2 env2 F2 H2 y e2 q2 h3 => ?_
    obtain ⟨v, w, g2, g3, k2, h4⟩ := h3
    obtain ⟨xs, k2⟩ := Option.isSome_iff_exists.mp k2
    have q1' := (q1.step e1.r e2).at e2.r g2
    intro pins' s' u1 u2 I' ru1 ru2
    exact m.run false C X fx G F2 env2 σ H2 v w xs x y Q _ e2.r k2 q1' (q2.at e2.r g3) h4 (fun z F3 H3 zx e3 q3 h5 => hQ (.v z) env2 F3 H3 zx ((e1.trans e2).trans e3) (Res.back (e1.trans e2) q3) h5) pins' s' u1 u2 I' ru1 ru2
  · subst ex
    obtain ⟨t1, t2⟩ := tyV_is I1 rx (tyK_is hp)
    refine ⟨tyK false, id false, m.pa false, m.slot false, m.ty false, t1, t2, ?_⟩
    refine Calls.callWith_builtin rfl (Calls.evalArgs_plain (Calls.spliced_cons (thn (pe_w.run pins s2 σ H1 _ I1 q) fun iv s3 ⟨y, H2, I2, ry, q3⟩ => Calls.spliced_nil ?_)))
    exact q3 pins s3 u iv I2 rx ry
end
theorem pa_K : ∀ b, PlainAttrs (tyK b)
  | true => PySem.F.plainAttrs_tuple
  | false => PySem.F.plainAttrs_list
def idIx (b : Bool) : String := if b = true then "tuple.index" else "list.index"
def idCt (b : Bool) : String := if b = true then "tuple.count" else "list.count"
/-- the first place of an int among ints -/
def oIdx : Opd := fun v w Φ => ∃ (ns : List Int) (k : Int), toS v = some (ns.map .int) ∧ toI w = some k ∧ k ∈ ns ∧ ns.length ≤ 16777216 ∧ Φ (.d (.int (ns.idxOf k : Nat)))
theorem sK_S {b : Bool} {v : Val} {xs : List PyData} (h : sK b v = some xs) : toS v = some xs := by
  cases b with
  | true => obtain ⟨_, _⟩ : True ∧ True := ⟨trivial, trivial⟩; unfold sK toT at h; simp only [if_true] at h; split at h <;> first | (cases h; rfl) | cases h
  | false => unfold sK toL at h; simp only [Bool.false_eq_true, if_false] at h; split at h <;> first | (cases h; rfl) | cases h
theorem sm_index : SeqMt "index" idIx oIdx where
  pa := pa_K
  slot := fun b => match b with | false => PySem.F.slot_list_index | true => PySem.F.slot_tuple_index
  ty := fun b => match b with | false => PySem.F.type_list_index | true => PySem.F.type_tuple_index
  run := by
    intro b C X fx G F env σ H v w xs x y Q Φ r hk rv rw' h k pins s u1 u2 I r1 r2
    obtain ⟨ns, n, h1, h2, hm, hl, h3⟩ := h
    rw [sK_S hk] at h1
    cases h1
    obtain ⟨_, rfl⟩ := rep_I h2 rw'
    obtain ⟨p, vs, rfl, hp, rr⟩ := rep_K hk rv
    have := rr.ints
    subst this
    cases r1
    obtain ⟨t, rfl⟩ := r2
    have fin : ∀ tk : Nat, EP X pins σ Q (.int (ns.idxOf n : Nat) s.toks) { s with toks := tk } := fun tk => ⟨.int (ns.idxOf n : Nat), H, I.tok _, ⟨s.toks, rfl⟩, k (.d (.int (ns.idxOf n : Nat))) F H _ (.refl r) (Res.imm (by simp only [RepD])) h3⟩
    cases b with
    | true =>
      obtain ⟨its, rv2, hT, hlen⟩ := I.tuple (SqT.of hp)
      exact SeqAt.tuple_index_ints hT (ints_of_vals rv2) hm (fin _)
    | false =>
      obtain ⟨its, rv2, ⟨o, m, ho, hc, hd, hdt⟩, hlen⟩ := I.list (SqL.of hp)
      exact SeqAt.list_index_ints ⟨o, ho, hc, m, hdt⟩ (ints_of_vals rv2) (by rw [sizeLine_eq]; exact hl) hm (fin _)
/-- how often data stand among data -/
def oCnt : Opd := fun v w Φ => ∃ (xs : List PyData) (d : PyData), toS v = some xs ∧ toD w = some d ∧ PyData.plainAll xs = true ∧ d.plain = true ∧ d.depth ≤ 60 ∧ Φ (.d (.int (xs.countP fun y => PyData.eqv y d : Nat)))
theorem RepAll.dpAll {F : AP1} {H : Hp} {K : PySem.W.Frag} {xs : List PyData} {vs : List V} (h : RepAll F H xs vs) : DpAll K H vs xs := RepAll.dp xs vs h
theorem sm_count : SeqMt "count" idCt oCnt where
  pa := pa_K
  slot := fun b => match b with | false => PySem.F.slot_list_count | true => PySem.F.slot_tuple_count
  ty := fun b => match b with | false => PySem.F.type_list_count | true => PySem.F.type_tuple_count
  run := by
    intro b C X fx G F env σ H v w xs x y Q Φ r hk rv rw' h k pins s u1 u2 I r1 r2
    obtain ⟨xs', d, h1, h2, p1, p2, hdp, h3⟩ := h
    rw [sK_S hk] at h1
    cases h1
    obtain ⟨p, vs, rfl, hp, rr⟩ := rep_K hk rv
    cases r1
    obtain ⟨bs, rd⟩ := Dp.reads I d y u2 (rep_Dp h2 rw') r2
    have hu := fx.units
    have room : X.A.units + 1 + min (PyData.depthAll xs) d.depth < cLine := by
      have : min (PyData.depthAll xs) d.depth ≤ d.depth := Nat.min_le_right _ _
      omega
    have fin : ∀ tk : Nat, EP X pins σ Q (.int ((xs.countP fun y => PyData.eqv y d : Nat) : Int) s.toks) { s with toks := tk } := fun tk =>
      ⟨.int (xs.countP fun y => PyData.eqv y d : Nat), H, I.tok _, ⟨s.toks, rfl⟩, k (.d (.int (xs.countP fun y => PyData.eqv y d : Nat))) F H _ (.refl r) (Res.imm (by simp only [RepD])) h3⟩
    cases b with
    | true =>
      obtain ⟨its, rv2, hT, hlen⟩ := I.tuple (SqT.of hp)
      obtain ⟨as, ra⟩ := Dp.readsAll I xs _ its rr.dpAll rv2
      exact SeqAt.count_tuple_data hT ra rd p1 p2 room (fin _)
    | false =>
      obtain ⟨its, rv2, ⟨o, m, ho, hc, hd, hdt⟩, hlen⟩ := I.list (SqL.of hp)
      obtain ⟨as, ra⟩ := Dp.readsAll I xs _ its rr.dpAll rv2
      exact SeqAt.count_list_data ⟨o, ho, hc, m, hdt⟩ ra rd p1 p2 room (fin _)
end Ev
set_option Elab.async false
set_option linter.all false
set_option maxRecDepth 100000
/-! Ev10: the reader of texts. -/
namespace Ev
open PySem PySem.Spec PyProof.Rows L2

structure CO (C : SC) (e : Expr) where
  d : DO
  ok : SO C e d
structure CT (C : SC) (e : Expr) where
  d : DB
  ok : STe C e d
structure CW (C : SC) (e : Expr) where
  d : DB
  ok : SW C e d
structure CA (C : SC) (es : List Expr) where
  d : DA
  ok : SA C es d
structure CK (C : SC) (kws : List Keyword) where
  d : DA
  ok : SK C kws d
structure CP (C : SC) (e : Option Expr) where
  d : DP
  ok : SP' C e d
structure CI (C : SC) (tg iter : Expr) where
  d : DI
  ok : SI C tg iter d
structure CN (C : SC) (tg : Expr) where
  sl : List Nat
  d : DT
  ok : SGn C tg sl d
structure CNs (C : SC) (tg : List Expr) where
  sl : List Nat
  d : DTs
  ok : SGns C tg sl d
structure CG (C : SC) (tg : Expr) where
  d : DT
  ok : SG C tg d
structure CGs (C : SC) (tg : List Expr) where
  d : DTs
  ok : SGs C tg d
structure CS (C : SC) (st : Stmt) where
  d : DS
  ok : SS C st d
structure CB (C : SC) (st : List Stmt) where
  d : DS
  ok : SB C st d

def findIx : (N : List Str) → (x : Str) → Option { i : Nat // N[i]? = some x }
  | [], _ => none
  | y :: N, x => if h : y = x then some ⟨0, by simp [h]⟩ else match findIx N x with
    | some ⟨i, hi⟩ => some ⟨i + 1, by simpa using hi⟩
    | none => none
def findFn : (l : List FnS) → (x : Str) → Option { f : FnS // f ∈ l ∧ f.name = x }
  | [], _ => none
  | f :: l, x => if h : f.name = x then some ⟨f, by simp, h⟩ else match findFn l x with
    | some ⟨g, hg, e⟩ => some ⟨g, List.mem_cons_of_mem _ hg, e⟩
    | none => none
def findKw : (l : List (List Str × List Nat)) → (ks : List Str) → Option { q : List Str × List Nat // q ∈ l ∧ q.1 = ks }
  | [], _ => none
  | q :: l, ks => if h : q.1 = ks then some ⟨q, by simp, h⟩ else match findKw l ks with
    | some ⟨r, hr, e⟩ => some ⟨r, List.mem_cons_of_mem _ hr, e⟩
    | none => none
def findGl : (l : List (Str × Int)) → (x : Str) → Option { n : Int // (x, n) ∈ l }
  | [], _ => none
  | p :: l, x => if h : p.1 = x then some ⟨p.2, by rw [← h]; simp⟩ else match findGl l x with
    | some ⟨n, hn⟩ => some ⟨n, List.mem_cons_of_mem _ hn⟩
    | none => none
def visB (sc : Scope) (x : Str) : Bool := match sc.names.lookup x with
  | some .local => true
  | some .cell => true
  | some .free => true
  | _ => false
theorem vis_ok {sc : Scope} {x : Str} (h : visB sc x = true) : Vis sc x := by
  unfold visB at h
  split at h
  · exact .inl (by assumption)
  · exact .inr (.inl (by assumption))
  · exact .inr (.inr (by assumption))
  · cases h
def locB (C : SC) (x : Str) : Bool := match C.sc.names.lookup x with
  | some .local => true
  | some .cell => decide (x ∈ C.own)
  | _ => false
theorem loc_ok {C : SC} {x : Str} (h : locB C x = true) : LocC C x := by
  unfold locB at h
  split at h
  · exact ⟨.inl (by assumption), .inl (by assumption)⟩
  · exact ⟨.inr (by assumption), .inr (of_decide_eq_true h)⟩
  · cases h

/-! ### built-ins of one argument -/
def bO (x : Str) : Option Und :=
  if x = "len" then some oLen else if x = "sum" then some oSum else if x = "abs" then some oAbs else if x = "any" then some oAny else if x = "all" then some oAll else if x = "sorted" then some oSorted else if x = "min" then some oMin else if x = "max" then some oMax else
  if x = "tuple" then some oTuple else if x = "list" then some oList else if x = "int" then some oInt else none
structure BFact (x : Str) (o : Und) : Prop where
  mem : x ∈ bltNames
  v : (∃ id, bootBuiltins x = some (.builtin id) ∧ CalS (.builtin id) o) ∨ ∃ T, bootBuiltins x = some (.type T) ∧ CalS (.type T) o
  n : x ≠ "__name__"
  db : (x == ("__debug__" : Str)) = false
theorem bf_len : BFact "len" oLen := ⟨by decide +kernel, .inl ⟨_, by decide +kernel, cs_len⟩, by decide +kernel, by decide +kernel⟩
theorem bf_sum : BFact "sum" oSum := ⟨by decide +kernel, .inl ⟨_, by decide +kernel, cs_sum⟩, by decide +kernel, by decide +kernel⟩
theorem bf_abs : BFact "abs" oAbs := ⟨by decide +kernel, .inl ⟨_, by decide +kernel, cs_abs⟩, by decide +kernel, by decide +kernel⟩
theorem bf_any : BFact "any" oAny := ⟨by decide +kernel, .inl ⟨_, by decide +kernel, cs_any⟩, by decide +kernel, by decide +kernel⟩
theorem bf_all : BFact "all" oAll := ⟨by decide +kernel, .inl ⟨_, by decide +kernel, cs_all⟩, by decide +kernel, by decide +kernel⟩
theorem bf_sorted : BFact "sorted" oSorted := ⟨by decide +kernel, .inl ⟨_, by decide +kernel, cs_sorted⟩, by decide +kernel, by decide +kernel⟩
theorem bf_min : BFact "min" oMin := ⟨by decide +kernel, .inl ⟨_, by decide +kernel, cs_min⟩, by decide +kernel, by decide +kernel⟩
theorem bf_max : BFact "max" oMax := ⟨by decide +kernel, .inl ⟨_, by decide +kernel, cs_max⟩, by decide +kernel, by decide +kernel⟩
theorem bf_tuple : BFact "tuple" oTuple := ⟨by decide +kernel, .inr ⟨_, by decide +kernel, cs_tuple⟩, by decide +kernel, by decide +kernel⟩
theorem bf_list : BFact "list" oList := ⟨by decide +kernel, .inr ⟨_, by decide +kernel, cs_list⟩, by decide +kernel, by decide +kernel⟩
theorem bf_int : BFact "int" oInt := ⟨by decide +kernel, .inr ⟨_, by decide +kernel, cs_int⟩, by decide +kernel, by decide +kernel⟩
theorem bf_ok {x : Str} {o : Und} (h : bO x = some o) : BFact x o := by
  unfold bO at h
  repeat' (first | (split at h; (rename_i e; subst e; cases h; first | exact bf_len | exact bf_sum | exact bf_abs | exact bf_any | exact bf_all | exact bf_sorted | exact bf_min | exact bf_max | exact bf_tuple | exact bf_list | exact bf_int)) | cases h)
theorem bO_ok {x : Str} {o : Und} (h : bO x = some o) {C : SC} {a : Expr} {da : DO} {pos p : Pos} (hg : C.sc.names.lookup x = some .globalImplicit) (ha : SO C a da) (st : ∀ env, starEach [a] env = (false, eval a env) :: starEach [] env) :
    SO C (.Call (.Name x p) [a] [] pos) (dUn o da) := by
  have f := bf_ok h
  rcases f.v with ⟨id, h1, h2⟩ | ⟨T, h1, h2⟩
  · exact so_blt1 f.mem h1 hg h2 ha f.n f.db st
  · exact so_ty1 f.mem h1 hg h2 ha f.n f.db st
def bO2 (x : Str) : Option Opd := if x = "max" then some oMax2 else if x = "min" then some oMin2 else none
theorem bO2_ok {x : Str} {o : Opd} (h : bO2 x = some o) {C : SC} {a b : Expr} {da db : DO} {pos p : Pos} (hg : C.sc.names.lookup x = some .globalImplicit) (ha : SO C a da) (hb : SO C b db)
    (st : ∀ env, starEach [a, b] env = (false, eval a env) :: starEach [b] env) (st2 : ∀ env, starEach [b] env = (false, eval b env) :: starEach [] env) (hpl : ∀ env, (backTo pos (starEach [b] env)).any (·.1) = false) :
    SO C (.Call (.Name x p) [a, b] [] pos) (dBin o da db) := by
  unfold bO2 at h
  split at h
  · rename_i e; subst e; cases h; exact so_blt2 (by decide) (by decide +kernel) hg cs_max2 ha hb (by decide) (by decide) st st2 hpl
  split at h
  · rename_i e; subst e; cases h; exact so_blt2 (by decide) (by decide +kernel) hg cs_min2 ha hb (by decide) (by decide) st st2 hpl
  · cases h
def isiT (x : Str) : Option String := if x = "int" then some "int" else if x = "bool" then some "bool" else if x = "str" then some "str" else if x = "tuple" then some "tuple" else if x = "list" then some "list" else none
theorem isi_ok {x : Str} {T : String} (h : isiT x = some T) {C : SC} {a : Expr} {da : DO} {pos p p2 : Pos} (hg : C.sc.names.lookup ("isinstance" : Str) = some .globalImplicit) (hg2 : C.sc.names.lookup x = some .globalImplicit) (ha : SO C a da)
    (st : ∀ env, starEach [a, .Name x p2] env = (false, eval a env) :: starEach [.Name x p2] env) : SO C (.Call (.Name "isinstance" p) [a, .Name x p2] [] pos) (dUn (oIsi T) da) := by
  unfold isiT at h
  split at h
  · rename_i e; subst e; cases h; exact so_isi (by decide) (by decide) (by decide +kernel) (by decide) (by decide) hg hg2 ha st
  split at h
  · rename_i e; subst e; cases h; exact so_isi (by decide) (by decide) (by decide +kernel) (by decide) (by decide) hg hg2 ha st
  split at h
  · rename_i e; subst e; cases h; exact so_isi (by decide) (by decide) (by decide +kernel) (by decide) (by decide) hg hg2 ha st
  split at h
  · rename_i e; subst e; cases h; exact so_isi (by decide) (by decide) (by decide +kernel) (by decide) (by decide) hg hg2 ha st
  split at h
  · rename_i e; subst e; cases h; exact so_isi (by decide) (by decide) (by decide +kernel) (by decide) (by decide) hg hg2 ha st
  · cases h

/-! ### targets of names -/
def coName (C : SC) (x : Str) (pos : Pos) : Option (CO C (.Name x pos)) :=
  if h1 : visB C.sc x = true then match findIx C.N x with
    | some ⟨i, hi⟩ => if h2 : (x == ("__debug__" : Str)) = false then if h3 : (x == ("__classdict__" : Str)) = false then some ⟨dVar i, so_var hi (vis_ok h1) h2 h3⟩ else none else none
    | none => none
  else if h1 : C.sc.names.lookup x = some .globalImplicit then match findGl C.glb x with
    | some ⟨n, hn⟩ => if h2 : (x == ("__debug__" : Str)) = false then some ⟨dC (.int n), so_glb h1 hn h2⟩ else none
    | none => none
  else none
theorem asg_ok {e : Expr} (h : isStar e = false) (es : List Expr) : ∀ env, (assignEach (e :: es) env).map (·.2) = assign e env :: (assignEach es env).map (·.2) := by
  cases e <;> first | (intro env; rfl) | cases h
theorem asg_len (es : List Expr) : ∀ env, (assignEach es env).length = es.length := by
  intro env
  induction es with
  | nil => rfl
  | cons e es ih =>
    cases e <;> (show (assignEach es env).length + 1 = es.length + 1; rw [ih])
theorem asg_star {es : List Expr} (h : es.all (fun e => !isStar e) = true) : ∀ env, (assignEach es env).findIdx? (·.1) = none := by
  intro env
  induction es with
  | nil => rfl
  | cons e es ih =>
    rw [List.all_cons, Bool.and_eq_true] at h
    have q : assignEach (e :: es) env = (false, assign e env) :: assignEach es env := by
      cases e <;> first | rfl | (have := h.1; cases this)
    rw [q, List.findIdx?_cons]
    simp [ih h.2]
mutual
def coN : Nat → (C : SC) → (tg : Expr) → Option (CN C tg)
  | 0, _, _ => none
  | n + 1, C, .Name x pos => match findIx C.N x with
    | some ⟨i, hi⟩ => if h : locB C x = true then some ⟨[i], tName i, sgn_name hi (loc_ok h)⟩ else none
    | none => none
  | n + 1, C, .Tuple es k pos => match coNs n C es with
    | some ⟨sl, d, ok⟩ => if h : es.all (fun e => !isStar e) = true then some ⟨sl, tTup es.length d, sgn_tup ok (asg_len es) (asg_star h)⟩ else none
    | none => none
  | _ + 1, _, _ => none
def coNs : Nat → (C : SC) → (ts : List Expr) → Option (CNs C ts)
  | 0, _, _ => none
  | n + 1, C, [] => some ⟨[], tNil, sgns_nil⟩
  | n + 1, C, e :: es => match coN n C e, coNs n C es with
    | some a, some b => if h : isStar e = false then some ⟨a.sl ++ b.sl, tCons a.d b.d, sgns_cons a.ok b.ok (asg_ok h es)⟩ else none
    | _, _ => none
end
/-- the names of a target -/
def tgNames : Nat → Expr → List Str
  | 0, _ => []
  | n + 1, .Name x _ => [x]
  | n + 1, .Tuple es _ _ => (es.map (tgNames n)).flatten
  | _ + 1, _ => []
def ownOf (N : List Str) (xs : List Str) : List (Str × Nat) := xs.filterMap fun x => match findIx N x with
  | some ⟨i, _⟩ => some (x, i)
  | none => none

/-! ### expressions -/
mutual
def coE : Nat → (C : SC) → (e : Expr) → Option (CO C e)
  | 0, _, _ => none
  | n + 1, C, .Name x pos => coName C x pos
  | n + 1, C, .Constant (.int i) j pos => some ⟨dC (.int i), so_int⟩
  | n + 1, C, .Constant (.bool b) j pos => some ⟨dC (.bool b), so_bool⟩
  | n + 1, C, .Constant .none j pos => some ⟨dC .none, so_none⟩
  | n + 1, C, .Constant (.str s) j pos => some ⟨dC (.str s), so_str⟩
  | n + 1, C, .BinOp a op b pos => match opOf op, coE n C a, coE n C b with
    | some o, some x, some y => some ⟨dBin o.1 x.d y.d, so_bin o.2 x.ok y.ok⟩
    | _, _, _ => none
  | n + 1, C, .UnaryOp .USub a pos => match coE n C a with
    | some x => some ⟨dUn oNeg x.d, so_neg x.ok⟩
    | none => none
  | n + 1, C, .UnaryOp .Not a pos => match coE n C a with
    | some x => some ⟨dNotV x.d, so_not x.ok⟩
    | none => none
  | n + 1, C, .BoolOp op vs pos => coV n C op vs pos
  | n + 1, C, .Compare a [op] [b] pos => match cmpOf op, coE n C a, coE n C b with
    | some o, some x, some y => if h : behindInMarks op b = false then some ⟨dBin o.1 x.d y.d, so_cmp o.2 x.ok y.ok h⟩ else none
    | _, _, _ => none
  | n + 1, C, .Compare a [op, op2] [b, c] pos => match cmpOf op, cmpOf op2, coE n C a, coE n C b, coE n C c with
    | some o, some o2, some x, some y, some z => if h : lastMarks [op, op2] [b, c] = false then some ⟨dChain o.1 o2.1 x.d y.d z.d, so_chain o.2 o2.2 x.ok y.ok z.ok h⟩ else none
    | _, _, _, _, _ => none
  | n + 1, C, .IfExp c a b pos => match coT n C c, coE n C a, coE n C b with
    | some t, some x, some y => some ⟨dIf t.d x.d y.d, so_if t.ok x.ok y.ok⟩
    | _, _, _ => none
  | n + 1, C, .Tuple es k pos => match coA n C es with
    | some x => some ⟨dTup x.d, so_tup x.ok⟩
    | none => none
  | n + 1, C, .List es pos => match coA n C es with
    | some x => some ⟨dLst x.d, so_lst x.ok⟩
    | none => none
  | n + 1, C, .Subscript a (.Slice none none (some (.UnaryOp .USub (.Constant (.int 1) k p1) p3)) p4) pos => match coE n C a with
    | some x => some ⟨dUn oRev x.d, so_revL x.ok⟩
    | none => none
  | n + 1, C, .Subscript a (.Slice lo hi none p2) pos => match coE n C a, coP n C lo, coP n C hi with
    | some x, some l, some h => some ⟨dSl x.d l.d h.d, so_sl x.ok l.ok h.ok⟩
    | _, _, _ => none
  | n + 1, C, .Subscript a b pos => match coE n C a, coE n C b with
    | some x, some y => if h : isSlice b = false then some ⟨dBin oIxS x.d y.d, so_ix x.ok y.ok (plain_ok h)⟩ else none
    | _, _ => none
  | n + 1, C, .Call (.Name x p) as [] pos => coC n C x p as pos
  | n + 1, C, .Call (.Name x p) [] (k :: kws) pos => coKC n C x p (k :: kws) pos
  | n + 1, C, .Call (.Attribute o m apos) as [] pos => match coQ n C o m apos as pos with
    | some y => some y
    | none => coM n C o m apos as pos
  | n + 1, C, .ListComp elt [⟨tg, iter, ifs, 0⟩] scope pos =>
    if h0 : blkC C.N C.sc scope (ownOf C.N (tgNames 9 tg)) = true then
      match coI n C tg iter, coN 9 (blkSC C scope) tg, coE n (blkSC C scope) elt with
      | some i, some t, some e => if h1 : (∀ j ∈ t.sl, j ∈ (ownOf C.N (tgNames 9 tg)).map (·.2)) then if h2 : isComp iter = false then
          match ifs with
          | [] => some ⟨dLc ((ownOf C.N (tgNames 9 tg)).map (·.2)) i.d t.d dYes e.d, so_lc (blkOk_by h0) i.ok t.ok h1 sts_nil e.ok (fold_ok h2)⟩
          | [c] => match coT n (blkSC C scope) c with
            | some q => some ⟨dLc ((ownOf C.N (tgNames 9 tg)).map (·.2)) i.d t.d q.d e.d, so_lc (blkOk_by h0) i.ok t.ok h1 (sts_one q.ok) e.ok (fold_ok h2)⟩
            | none => none
          | _ => none
          else none else none
      | _, _, _ => none
    else none
  | n + 1, C, .DictComp kx elt [⟨tg, iter, ifs, 0⟩] scope pos =>
    if h0 : blkC C.N C.sc scope (ownOf C.N (tgNames 9 tg)) = true then
      match coI n C tg iter, coN 9 (blkSC C scope) tg, coE n (blkSC C scope) kx, coE n (blkSC C scope) elt with
      | some i, some t, some k, some e => if h1 : (∀ j ∈ t.sl, j ∈ (ownOf C.N (tgNames 9 tg)).map (·.2)) then if h2 : isComp iter = false then
          match ifs with
          | [] => some ⟨dDc ((ownOf C.N (tgNames 9 tg)).map (·.2)) i.d t.d dYes k.d e.d, so_dc (blkOk_by h0) i.ok t.ok h1 sts_nil k.ok e.ok (fold_ok h2)⟩
          | [c] => match coT n (blkSC C scope) c with
            | some q => some ⟨dDc ((ownOf C.N (tgNames 9 tg)).map (·.2)) i.d t.d q.d k.d e.d, so_dc (blkOk_by h0) i.ok t.ok h1 (sts_one q.ok) k.ok e.ok (fold_ok h2)⟩
            | none => none
          | _ => none
          else none else none
      | _, _, _, _ => none
    else none
  | _ + 1, _, _ => none
def coKC : Nat → (C : SC) → (x : Str) → (p : Pos) → (kws : List Keyword) → (pos : Pos) → Option (CO C (.Call (.Name x p) [] kws pos))
  | 0, _, _, _, _, _ => none
  | n + 1, C, x, p, kws, pos => if hg : C.sc.names.lookup x = some .globalImplicit then match findFn C.fns x, coKw n C kws with
    | some ⟨f, hf, e⟩, some y => match findKw f.kws (kws.filterMap (·.arg)) with
      | some ⟨q, hq, he⟩ => if h1 : (f.name == ("__debug__" : Str)) = false then if h2 : kws.all (·.arg.isSome) = true then some ⟨dCallK q.1.length q.2 f.ps.length f.sp y.d, by subst e; exact so_callK hf hq hg y.ok h1 h2 he.symm⟩ else none else none
      | none => none
    | _, _ => none
    else none
def coKw : Nat → (C : SC) → (kws : List Keyword) → Option (CK C kws)
  | 0, _, _ => none
  | n + 1, C, [] => some ⟨dNil, sk_nil⟩
  | n + 1, C, ⟨nm, e, kp⟩ :: kws => match coE n C e, coKw n C kws with
    | some x, some y => some ⟨dCons x.d y.d, sk_cons x.ok y.ok⟩
    | _, _ => none
def coQ : Nat → (C : SC) → (o : Expr) → (m : Str) → (apos : Pos) → (as : List Expr) → (pos : Pos) → Option (CO C (.Call (.Attribute o m apos) as [] pos))
  | 0, _, _, _, _, _, _ => none
  | n + 1, C, o, m, apos, [b], pos => if hl : (apos.endLine == pos.line) = true then if h1 : isZeroCall o = false then if h2 : isStar b = false then
      if hm : m = "index" then match coE n C o, coE n C b with
        | some x, some y => some ⟨dSeqM oIdx x.d y.d, by subst hm; exact so_seqM sm_index x.ok y.ok (attr_ok h1 _) h2 hl⟩
        | _, _ => none
      else if hm : m = "count" then match coE n C o, coE n C b with
        | some x, some y => some ⟨dSeqM oCnt x.d y.d, by subst hm; exact so_seqM sm_count x.ok y.ok (attr_ok h1 _) h2 hl⟩
        | _, _ => none
      else none
    else none else none else none
  | n + 1, C, .Name y px, m, apos, [a, b], pos => if hm : m = "get" then match findIx C.N y, coE n C a, coE n C b with
    | some ⟨i, hi⟩, some u, some v => if hv : visB C.sc y = true then if h2 : (y == ("__debug__" : Str)) = false then if h3 : (y == ("__classdict__" : Str)) = false then if hl : (apos.endLine == pos.line) = true then if h4 : isStar a = false then if h5 : isStar b = false then
        some ⟨dGet2 i u.d v.d, by subst hm; exact so_get2 (so_var hi (vis_ok hv) h2 h3) u.ok v.ok h4 h5 hl⟩
      else none else none else none else none else none else none
    | _, _, _ => none
    else none
  | _ + 1, _, _, _, _, _, _ => none
def coP : Nat → (C : SC) → (e : Option Expr) → Option (CP C e)
  | 0, _, _ => none
  | n + 1, C, none => some ⟨dNoP, sp_none⟩
  | n + 1, C, some e => match coE n C e with
    | some x => some ⟨dSomeP x.d, sp_some x.ok⟩
    | none => none
def coA : Nat → (C : SC) → (es : List Expr) → Option (CA C es)
  | 0, _, _ => none
  | n + 1, C, [] => some ⟨dNil, sa_nil⟩
  | n + 1, C, e :: es => match coE n C e, coA n C es with
    | some x, some y => if h : isStar e = false then some ⟨dCons x.d y.d, sa_cons x.ok y.ok (star_ok h es)⟩ else none
    | _, _ => none
def coV : Nat → (C : SC) → (op : BoolOp) → (vs : List Expr) → (pos : Pos) → Option (CO C (.BoolOp op vs pos))
  | 0, _, _, _, _ => none
  | n + 1, C, op, [a], pos => match coE n C a with
    | some x => some ⟨x.d, so_bo1 x.ok⟩
    | none => none
  | n + 1, C, .And, a :: b :: r, pos => match coE n C a, coV n C .And (b :: r) pos with
    | some x, some y => some ⟨dAndV x.d y.d, so_and x.ok y.ok⟩
    | _, _ => none
  | n + 1, C, .Or, a :: b :: r, pos => match coE n C a, coV n C .Or (b :: r) pos with
    | some x, some y => some ⟨dOrV x.d y.d, so_or x.ok y.ok⟩
    | _, _ => none
  | _ + 1, _, _, [], _ => none
def coW : Nat → (C : SC) → (op : BoolOp) → (vs : List Expr) → (pos : Pos) → Option (CW C (.BoolOp op vs pos))
  | 0, _, _, _, _ => none
  | n + 1, C, .And, [a], pos => match coT n C a with
    | some x => some ⟨x.d, sw_and1 x.ok⟩
    | none => none
  | n + 1, C, .Or, [a], pos => match coT n C a with
    | some x => some ⟨x.d, sw_or1 x.ok⟩
    | none => none
  | n + 1, C, .And, a :: b :: r, pos => match coT n C a, coW n C .And (b :: r) pos with
    | some x, some y => some ⟨dAndT x.d y.d, sw_and x.ok y.ok⟩
    | _, _ => none
  | n + 1, C, .Or, a :: b :: r, pos => match coT n C a, coW n C .Or (b :: r) pos with
    | some x, some y => some ⟨dOrT x.d y.d, sw_or x.ok y.ok⟩
    | _, _ => none
  | _ + 1, _, _, [], _ => none
def coT : Nat → (C : SC) → (e : Expr) → Option (CT C e)
  | 0, _, _ => none
  | n + 1, C, .UnaryOp .Not a pos => match coT n C a with
    | some x => some ⟨dNotT x.d, st_not x.ok⟩
    | none => none
  | n + 1, C, .BoolOp op vs pos => match coW n C op vs pos with
    | some x => some ⟨x.d, st_w x.ok⟩
    | none => none
  | n + 1, C, .Compare a [op] [b] pos => match cmpOf op, coE n C a, coE n C b with
    | some o, some x, some y => if h : behindInMarks op b = false then some ⟨dTst (dBin o.1 x.d y.d), st_cmp o.2 x.ok y.ok h⟩ else none
    | _, _, _ => none
  | n + 1, C, .Compare a [op, op2] [b, c] pos => match cmpOf op, cmpOf op2, coE n C a, coE n C b, coE n C c with
    | some o, some o2, some x, some y, some z => if h : lastMarks [op, op2] [b, c] = false then some ⟨dTst (dChain o.1 o2.1 x.d y.d z.d), st_chain o.2 o2.2 x.ok y.ok z.ok h⟩ else none
    | _, _, _, _, _ => none
  | n + 1, C, e => if h : isTest e = false then match coE n C e with
    | some x => some ⟨dTru x.d, st_tru x.ok (test_ok h)⟩
    | none => none
    else none
def coC : Nat → (C : SC) → (x : Str) → (p : Pos) → (as : List Expr) → (pos : Pos) → Option (CO C (.Call (.Name x p) as [] pos))
  | 0, _, _, _, _, _ => none
  | n + 1, C, x, p, as, pos => if hg : C.sc.names.lookup x = some .globalImplicit then
    match findFn C.fns x with
    | some ⟨f, hf, hx⟩ => match as with
      | e :: es => match coA n C (e :: es) with
        | some y => if h1 : isStar e = false then if h2 : es.all (fun e => !isStar e) = true then if h3 : (f.name == ("__debug__" : Str)) = false then
            some ⟨dCall f.ps.length f.sp y.d, hx ▸ so_call hf (hx.symm ▸ hg) y.ok h3 (star_ok h1 es) (noStars h2 pos)⟩ else none else none else none
        | none => none
      | [] => none
    | none => match as with
      | [a] => match a with
        | .Call (.Name y p2) [b] [] pos2 => if hl : x = "list" ∧ y = "range" then if hg2 : C.sc.names.lookup y = some .globalImplicit then match coE n C b with
            | some z => if hs : isStar b = false then some ⟨dListR1 z.d, by obtain ⟨rfl, rfl⟩ := hl; exact so_listR1 hg hg2 z.ok (star_ok hs [])⟩ else none
            | none => none
            else none
          else match hb : bO x with
            | some o => match coE n C (.Call (.Name y p2) [b] [] pos2) with
              | some z => some ⟨dUn o z.d, bO_ok hb hg z.ok (star_ok rfl [])⟩
              | none => none
            | none => none
        | .Call (.Name y p2) [b, c] [] pos2 => if hl : x = "list" ∧ y = "range" then if hg2 : C.sc.names.lookup y = some .globalImplicit then match coE n C b, coE n C c with
            | some z, some z2 => if hs : isStar b = false then if hs2 : isStar c = false then some ⟨dListR2 z.d z2.d, by obtain ⟨rfl, rfl⟩ := hl; exact so_listR2 hg hg2 z.ok z2.ok (star_ok hs _) (star_ok hs2 []) (noStars (by simp [hs2]) pos2)⟩ else none else none
            | _, _ => none
            else none
          else match hb : bO x with
            | some o => match coE n C (.Call (.Name y p2) [b, c] [] pos2) with
              | some z => some ⟨dUn o z.d, bO_ok hb hg z.ok (star_ok rfl [])⟩
              | none => none
            | none => none
        | a => if hr : x = "repr" ∧ C.grd = true then match coE n C a with
            | some z => if hs : isStar a = false then some ⟨dUn oRepr z.d, by obtain ⟨rfl, hr⟩ := hr; exact so_repr hr hg z.ok (star_ok hs [])⟩ else none
            | none => none
          else match hb : bO x with
            | some o => match coE n C a with
              | some z => if hs : isStar a = false then some ⟨dUn o z.d, bO_ok hb hg z.ok (star_ok hs [])⟩ else none
              | none => none
            | none => none
      | [a, b] => if hi : x = "isinstance" then match b with
          | .Name y p2 => match ht : isiT y with
            | some T => if hg2 : C.sc.names.lookup y = some .globalImplicit then match coE n C a with
              | some z => if hs : isStar a = false then some ⟨dUn (oIsi T) z.d, by subst hi; exact isi_ok ht hg hg2 z.ok (star_ok hs _)⟩ else none
              | none => none
              else none
            | none => none
          | _ => none
        else match hb : bO2 x with
          | some o => match coE n C a, coE n C b with
            | some y, some z => if h1 : isStar a = false then if h2 : isStar b = false then some ⟨dBin o y.d z.d, bO2_ok hb hg y.ok z.ok (star_ok h1 _) (star_ok h2 _) (noStars (by simp [h2]) pos)⟩ else none else none
            | _, _ => none
          | none => none
      | _ => none
    else none
def coM : Nat → (C : SC) → (o : Expr) → (m : Str) → (apos : Pos) → (as : List Expr) → (pos : Pos) → Option (CO C (.Call (.Attribute o m apos) as [] pos))
  | 0, _, _, _, _, _, _ => none
  | n + 1, C, .Name y px, m, apos, as, pos => match findIx C.N y with
    | some ⟨i, hi⟩ => if hv : visB C.sc y = true then if h2 : (y == ("__debug__" : Str)) = false then if h3 : (y == ("__classdict__" : Str)) = false then if hl : (apos.endLine == pos.line) = true then
      match as with
      | [a] => match coE n C a with
        | some z => if hs : isStar a = false then
            if hm : m = "append" then some ⟨dApp i z.d, by subst hm; exact so_app (so_var hi (vis_ok hv) h2 h3) z.ok (star_ok hs []) hl⟩ else
            if hm : m = "extend" then some ⟨dExt i z.d, by subst hm; exact so_ext (so_var hi (vis_ok hv) h2 h3) z.ok (star_ok hs []) hl⟩ else
            if hm : m = "pop" then some ⟨dPopAt i z.d, by subst hm; exact so_popAt (so_var hi (vis_ok hv) h2 h3) z.ok (star_ok hs []) hl⟩ else none
          else none
        | none => none
      | [] => if hm : m = "pop" then some ⟨dPop i, by subst hm; exact so_pop (so_var hi (vis_ok hv) h2 h3) hl⟩ else
        if hm : m = "bit_length" then some ⟨dUn oBits (dVar i), by subst hm; exact so_bits (so_var hi (vis_ok hv) h2 h3) (attr_ok rfl _) hl⟩ else none
      | _ => none
      else none else none else none else none
    | none => none
  | n + 1, C, o, m, apos, as, pos => if hm : m = "bit_length" ∧ as = [] then match coE n C o with
      | some z => if h1 : isZeroCall o = false then if hl : (apos.endLine == pos.line) = true then some ⟨dUn oBits z.d, by obtain ⟨rfl, rfl⟩ := hm; exact so_bits z.ok (attr_ok h1 _) hl⟩ else none else none
      | none => none
    else none
def coI : Nat → (C : SC) → (tg iter : Expr) → Option (CI C tg iter)
  | 0, _, _, _ => none
  | n + 1, C, tg, .Call (.Name x p) as [] pos => if hg : C.sc.names.lookup x = some .globalImplicit then
    if hr : x = "range" then match coA n C as with
      | some y => if hs : as.all (fun e => !isStar e) = true then match as with
        | [a] => some ⟨dRng1 y.d, by subst hr; exact si_rng1 hg y.ok (star_ok (by simpa using hs) [])⟩
        | [a, b] => some ⟨dRng2 y.d, by subst hr; simp at hs; exact si_rng2 hg y.ok (fun env => by rw [star_ok hs.1, star_ok hs.2]; rfl) (star_ok hs.2 [])⟩
        | [a, b, c] => some ⟨dRng3 y.d, by subst hr; simp at hs; exact si_rng3 hg y.ok (star_ok hs.1 _) (noStars (by simp [hs]) pos)⟩
        | _ => none
        else none
      | none => none
    else if he : x = "enumerate" then match tg, as with
      | .Tuple es k tp, [a] => match coA n C [a] with
        | some y => if hs : isStar a = false then some ⟨dEnum y.d, by subst he; exact si_enum hg y.ok (star_ok hs [])⟩ else none
        | none => none
      | _, _ => none
    else if hz : x = "zip" then match tg, as with
      | .Tuple es k tp, [a, b] => match coA n C [a, b] with
        | some y => if h1 : isStar a = false then if h2 : isStar b = false then some ⟨dZip y.d, by subst hz; exact si_zip hg y.ok (star_ok h1 _) (noStars (by simp [h2]) pos)⟩ else none else none
        | none => none
      | _, _ => none
    else match coE n C (.Call (.Name x p) as [] pos) with
      | some y => some ⟨dSeqI y.d, si_seq y.ok⟩
      | none => none
    else none
  | n + 1, C, tg, e => match coE n C e with
    | some y => some ⟨dSeqI y.d, si_seq y.ok⟩
    | none => none
end

/-! ### targets, statements -/
theorem assign_ix {x : Str} {p pos : Pos} {b : Expr} (h : isSlice b = false) : ∀ env v, assign (.Subscript (.Name x p) b pos) env v = (do
      let ov ← holding [v] (eval (.Name x p) env)
      let iv ← holding [v, ov] (eval b env)
      standAt pos
      holding [v, ov, iv] (setItem ov iv v)
      release [v, ov, iv] []) := by
  intro env v
  cases b <;> first | rfl | cases h
mutual
def coG : Nat → (C : SC) → (tg : Expr) → Option (CG C tg)
  | 0, _, _ => none
  | n + 1, C, .Name x pos => match findIx C.N x with
    | some ⟨i, hi⟩ => if h : locB C x = true then some ⟨tName i, sg_name hi (loc_ok h)⟩ else none
    | none => none
  | n + 1, C, .Tuple es k pos => match coGs n C es with
    | some y => if h : es.all (fun e => !isStar e) = true then some ⟨tTup es.length y.d, sg_tup y.ok (asg_len es) (asg_star h)⟩ else none
    | none => none
  | n + 1, C, .Subscript (.Name x p) b pos => match findIx C.N x with
    | some ⟨i, hi⟩ => if hv : visB C.sc x = true then if h2 : (x == ("__debug__" : Str)) = false then if h3 : (x == ("__classdict__" : Str)) = false then match coE 60 C b with
      | some y => if hb : isSlice b = false then some ⟨tSub i y.d, sg_sub (so_var hi (vis_ok hv) h2 h3) y.ok (assign_ix hb)⟩ else none
      | none => none
      else none else none else none
    | none => none
  | _ + 1, _, _ => none
def coGs : Nat → (C : SC) → (ts : List Expr) → Option (CGs C ts)
  | 0, _, _ => none
  | n + 1, C, [] => some ⟨tNil, sgs_nil⟩
  | n + 1, C, e :: es => match coG n C e, coGs n C es with
    | some a, some b => if h : isStar e = false then some ⟨tCons a.d b.d, sgs_cons a.ok b.ok (asg_ok h es)⟩ else none
    | _, _ => none
end
theorem sole_ok {a tg : Expr} {l : Nat} (h : isComp a = false) : ∀ env, swapsWithSole [tg] a l env = pure false := fun env => swap_ok h (some tg) l env
theorem sole_tup {a : Expr} {ts : List Expr} {k : Nat} {p : Pos} {l : Nat} : ∀ env, swapsWithSole [.Tuple ts k p] a l env = pure false := fun env => by
  cases a <;> rfl
theorem one_asg {tg : Expr} (h : isStar tg = false) : ∀ env, (assignEach [tg] env).map (·.2) = [assign tg env] := fun env => asg_ok h [] env
theorem swap_lc {elt : Expr} {gs : List Comprehension} {scope : Scope} {pos p : Pos} {x : Str} {l : Nat} {C : SC} (h : (C.sc.names.lookup x == some .local && p.line == pos.line && !(scope.names.any fun (n, k) => n == x && (k == .local || k == .cell))) = false) :
    ∀ env, env.scope = C.sc → swapsWith (.ListComp elt gs scope pos) (some (.Name x p)) l env = pure false := fun env he => by
  have e1 : env.kindOf x = C.sc.names.lookup x := by rw [← he]; rfl
  unfold swapsWith
  simp only [e1, Expr.pos]
  have : (env.blockKind == .function && C.sc.names.lookup x == some .local && p.line == pos.line && !(scope.names.any fun (n, k) => n == x && (k == .local || k == .cell))) = false := by
    rw [Bool.and_assoc, Bool.and_assoc, ← Bool.and_assoc (C.sc.names.lookup x == some .local), h, Bool.and_false]
  exact congrArg pure this
def coAsgT (C : SC) (tg a : Expr) (pos : Pos) (hs : ∀ env, swapsWithSole [tg] a pos.line env = pure false) (hw : ∀ env, env.scope = C.sc → swappedStores [tg] a env = pure none) : Option (CS C (.Assign [tg] a pos)) :=
  match coE 60 C a, coG 20 C tg with
  | some x, some g => if h : isStar tg = false then some ⟨dAsg g.d x.d, ss_asg x.ok g.ok hs hw (one_asg h)⟩ else none
  | _, _ => none
def coSet (C : SC) (x : Str) (p : Pos) (a : Expr) (pos : Pos) : Option (CS C (.Assign [.Name x p] a pos)) :=
  match findIx C.N x with
  | some ⟨i, hi⟩ => if hl : locB C x = true then
    match a with
    | .ListComp elt [⟨tg, iter, ifs, 0⟩] scope lp =>
      if hc : (C.sc.names.lookup x == some .local && p.line == lp.line && !(scope.names.any fun (n, k) => n == x && (k == .local || k == .cell))) = false then
        match coE 60 C (.ListComp elt [⟨tg, iter, ifs, 0⟩] scope lp) with
        | some y => some ⟨dSet i y.d, ss_set hi (loc_ok hl) y.ok (swap_lc hc)⟩
        | none => none
      else if hx : C.sc.names.lookup x = some .local then if h4 : (p.line == lp.line) = true then if h5 : (scope.names.any fun (n, k) => n == x && (k == .local || k == .cell)) = false then
        if h0 : blkC C.N C.sc scope (ownOf C.N (tgNames 9 tg)) = true then
          match coI 60 C tg iter, coN 9 (blkSC C scope) tg, coE 60 (blkSC C scope) elt with
          | some i', some t, some e => if h1 : (∀ j ∈ t.sl, j ∈ (ownOf C.N (tgNames 9 tg)).map (·.2)) then if h2 : isComp iter = false then
              match ifs with
              | [] => some ⟨dSet i (dLc ((ownOf C.N (tgNames 9 tg)).map (·.2)) i'.d t.d dYes e.d), ss_lc hi hx (blkOk_by h0) i'.ok t.ok h1 sts_nil e.ok (fold_ok h2) h4 h5⟩
              | [c] => match coT 60 (blkSC C scope) c with
                | some q => some ⟨dSet i (dLc ((ownOf C.N (tgNames 9 tg)).map (·.2)) i'.d t.d q.d e.d), ss_lc hi hx (blkOk_by h0) i'.ok t.ok h1 (sts_one q.ok) e.ok (fold_ok h2) h4 h5⟩
                | none => none
              | _ => none
              else none else none
          | _, _, _ => none
        else none
        else none else none else none
    | .DictComp kx elt [⟨tg, iter, ifs, 0⟩] scope lp =>
      if hc : (C.sc.names.lookup x == some .local && p.line == lp.line && !(scope.names.any fun (n, k) => n == x && (k == .local || k == .cell))) = false then
        match coE 60 C (.DictComp kx elt [⟨tg, iter, ifs, 0⟩] scope lp) with
        | some y => some ⟨dSet i y.d, ss_set hi (loc_ok hl) y.ok (swap_dc hc)⟩
        | none => none
      else none
    | a => if hc : isComp a = false then match coE 60 C a with
      | some y => some ⟨dSet i y.d, ss_set hi (loc_ok hl) y.ok (fun env _ => swap_ok hc _ _ env)⟩
      | none => none
      else none
    else none
  | none => none
/-- names that are not swapped -/
def coParU (C : SC) (ts : List Expr) (k : Nat) (pt : Pos) (vs : List Expr) (k2 : Nat) (pv : Pos) (pos : Pos) (h : ((ts.length == 2 || ts.length == 3) && (locNames C.sc ts).length == ts.length) = false) : Option (CS C (.Assign [.Tuple ts k pt] (.Tuple vs k2 pv) pos)) :=
  match ts, vs, h with
  | [.Name x px, .Name y py], [a, b], h => match findIx C.N x, findIx C.N y, coE 60 C a, coE 60 C b with
    | some ⟨i, hi⟩, some ⟨j, hj⟩, some u, some v => if hx : locB C x = true then if hy : locB C y = true then if sa : isStar a = false then if sb : isStar b = false then
        some ⟨dPar2 i j u.d v.d, ss_parU2 hi hj (loc_ok hx) (loc_ok hy) u.ok v.ok (star_ok sa _) (star_ok sb _) sole_tup (swp_none h)⟩
      else none else none else none else none
    | _, _, _, _ => none
  | [.Name x px, .Name y py, .Name z pz], [a, b, c], h => match findIx C.N x, findIx C.N y, findIx C.N z, coE 60 C a, coE 60 C b, coE 60 C c with
    | some ⟨i, hi⟩, some ⟨j, hj⟩, some ⟨l, hl⟩, some u, some v, some w => if hx : locB C x = true then if hy : locB C y = true then if hz : locB C z = true then if sa : isStar a = false then if sb : isStar b = false then if sc : isStar c = false then
        some ⟨dPar3 i j l u.d v.d w.d, ss_parU3 hi hj hl (loc_ok hx) (loc_ok hy) (loc_ok hz) u.ok v.ok w.ok (star_ok sa _) (star_ok sb _) (star_ok sc _) sole_tup (swp_none h)⟩
      else none else none else none else none else none else none
    | _, _, _, _, _, _ => none
  | ts, vs, h => coAsgT C (.Tuple ts k pt) (.Tuple vs k2 pv) pos sole_tup (swp_none h)
def coPar (C : SC) (ts : List Expr) (k : Nat) (pt : Pos) (vs : List Expr) (k2 : Nat) (pv : Pos) (pos : Pos) : Option (CS C (.Assign [.Tuple ts k pt] (.Tuple vs k2 pv) pos)) :=
  if h : ((ts.length == 2 || ts.length == 3) && (locNames C.sc ts).length == ts.length) = false then coParU C ts k pt vs k2 pv pos h
  else match ts, vs with
    | [.Name x px, .Name y py], [a, b] => match findIx C.N x, findIx C.N y, coE 60 C a, coE 60 C b with
      | some ⟨i, hi⟩, some ⟨j, hj⟩, some u, some v => if hx : C.sc.names.lookup x = some .local then if hy : C.sc.names.lookup y = some .local then if hl : px.line = py.line then if hne : x ≠ y then if hij : i ≠ j then if sa : isStar a = false then if sb : isStar b = false then
          if hf : ([a, b].all (foldedForSure 8)) = false then if hc : ([a, b].all (constantsAlone 8)) = false then
            some ⟨dPar2 i j u.d v.d, ss_par2 hi hj hij hx hy u.ok v.ok (star_ok sa _) (star_ok sb _) (swp_some2 hx hy hl hne sa sb hf hc)⟩
          else none else none else none else none else none else none else none else none else none
      | _, _, _, _ => none
    | [.Name x px, .Name y py, .Name z pz], [a, b, c] => match findIx C.N x, findIx C.N y, findIx C.N z, coE 60 C a, coE 60 C b, coE 60 C c with
      | some ⟨i, hi⟩, some ⟨j, hj⟩, some ⟨l, hl'⟩, some u, some v, some w => if hx : C.sc.names.lookup x = some .local then if hy : C.sc.names.lookup y = some .local then if hz : C.sc.names.lookup z = some .local then if hl : px.line = py.line then if hl2 : px.line = pz.line then if hne : x ≠ y then if hne2 : x ≠ z then if hne3 : y ≠ z then
          if hij : i ≠ j then if hil : i ≠ l then if hjl : j ≠ l then if sa : isStar a = false then if sb : isStar b = false then if sc : isStar c = false then
          if hf : ([a, b, c].all (foldedForSure 8)) = false then if hc : ([a, b, c].all (constantsAlone 8)) = false then
            some ⟨dPar3 i j l u.d v.d w.d, ss_par3 hi hj hl' hij hil hjl hx hy hz u.ok v.ok w.ok (star_ok sa _) (star_ok sb _) (star_ok sc _) (swp_some3 hx hy hz hl hl2 hne hne2 hne3 sa sb sc hf hc)⟩
          else none else none else none else none else none else none else none else none else none else none else none else none else none else none else none else none
      | _, _, _, _, _, _ => none
    | _, _ => none
mutual
def coS : Nat → (C : SC) → (st : Stmt) → Option (CS C st)
  | 0, _, _ => none
  | n + 1, C, .Assign [.Name x p] a pos => coSet C x p a pos
  | n + 1, C, .Assign [.Tuple ts k p] (.Tuple vs k2 p2) pos => coPar C ts k p vs k2 p2 pos
  | n + 1, C, .Assign [tg] a pos => if h1 : isTupleE a = false then if h2 : isComp a = false then coAsgT C tg a pos (sole_ok h2) (fun env _ => swp_no h1 env) else none else none
  | n + 1, C, .If c B1 B2 pos => match coT 60 C c, coB n C B1, coB n C B2 with
    | some x, some y, some z => some ⟨dIfS x.d y.d z.d, ss_if x.ok y.ok z.ok⟩
    | _, _, _ => none
  | n + 1, C, .For tg iter B [] pos => match coI 60 C tg iter, coG 20 C tg, coB n C B with
    | some x, some y, some z => if h : isComp iter = false then some ⟨dFor x.d y.d z.d, ss_for x.ok y.ok z.ok (fold_ok h)⟩ else none
    | _, _, _ => none
  | n + 1, C, .While c B [] pos => match coT 60 C c, coB n C B with
    | some x, some z => some ⟨dWhile x.d z.d, ss_while x.ok z.ok⟩
    | _, _ => none
  | n + 1, C, .Return (some a) pos => match coE 60 C a with
    | some x => some ⟨dRet x.d, ss_ret x.ok⟩
    | none => none
  | n + 1, C, .Return none pos => some ⟨dRetN, ss_retN⟩
  | n + 1, C, .Expr a pos => if h : isComp a = false then match coE 60 C a with
    | some x => some ⟨dExpr x.d, ss_expr x.ok (swap_ok h none pos.line)⟩
    | none => none
    else none
  | n + 1, C, .Pass pos => some ⟨dPass, ss_pass⟩
  | n + 1, C, .Break pos => some ⟨dBreak, ss_break⟩
  | n + 1, C, .Continue pos => some ⟨dCont, ss_cont⟩
  | n + 1, C, .Raise e c pos => some ⟨dNever, ss_never⟩
  | _ + 1, _, _ => none
def coB : Nat → (C : SC) → (st : List Stmt) → Option (CB C st)
  | 0, _, _ => none
  | n + 1, C, [] => some ⟨dNext, sb_nil⟩
  | n + 1, C, st :: r => match coS n C st, coB n C r with
    | some x, some y => some ⟨dSeq x.d y.d, sb_cons x.ok y.ok⟩
    | _, _ => none
end
end Ev
set_option Elab.async false
set_option linter.all false
set_option maxRecDepth 100000
/-! Ev11: defs keep their promises; the law's call. -/
namespace Ev
open PySem PySem.Spec PyProof.Rows L2

@[simp] def kRet (Φ : Val → Prop) : KE := { nx := fun _ => Φ (.d .none), rt := Φ, bk := fun _ => False, ct := fun _ => False }
def envS (N : List Str) (args : List Val) : Env := args.map some ++ List.replicate (N.length - args.length) none

theorem RepVs.get {G : Gh} {F : AP1} {H : Hp} : ∀ {vs : List Val} {xs : List V}, RepVs G F H vs xs → ∀ {i : Nat} {v : Val}, vs[i]? = some v → ∃ x, xs[i]? = some x ∧ RepV G F H v x ∧ isOwn v = false
  | [], _, _, i, v, e => by simp at e
  | u :: us, _, h, i, v, e => by
    obtain ⟨x, t, rfl, ⟨h1, h2⟩, h3⟩ := h
    cases i with
    | zero => simp at e; subst e; exact ⟨x, rfl, h1, h2⟩
    | succ i => simp at e; obtain ⟨y, e1, e2⟩ := RepVs.get h3 e; exact ⟨y, by simpa using e1, e2⟩
theorem envS_get {N : List Str} {args : List Val} {i : Nat} {v : Val} (e : (envS N args)[i]? = some (some v)) : args[i]? = some v := by
  unfold envS at e
  by_cases hi : i < args.length
  · rw [List.getElem?_append_left (by simpa using hi), List.getElem?_map] at e
    cases q : args[i]? with
    | none => rw [q] at e; cases e
    | some u => rw [q] at e; cases e; rfl
  · rw [List.getElem?_append_right (by simpa using hi), List.getElem?_replicate] at e
    split at e <;> cases e
theorem r_start {G : Gh} {F : AP1} {H : Hp} {N : List Str} {args : List Val} {vs : List V} (b : CBeg G F H) (rv : RepVs G F H args vs) : R G F (envS N args) (L2.start N vs) H := by
  have hl := rv.len
  have no : ∀ (i : Nat) (v : Val), (envS N args)[i]? = some (some v) → isOwn v = false := fun i v e => by
    obtain ⟨_, _, _, h⟩ := rv.get (envS_get e)
    exact h
  refine ⟨?_, fun i v e => ?_, fun i j v w a e1 e2 o1 o2 => ?_, b.al, fun p g e => ?_⟩
  · unfold envS L2.start
    simp [hl]
  · obtain ⟨x, h1, h2, _⟩ := rv.get (envS_get e)
    refine ⟨x, ?_, h2⟩
    unfold L2.start
    have hi : i < vs.length := (List.getElem?_eq_some_iff.mp h1).1
    rw [List.getElem?_append_left (by simpa using hi), List.getElem?_map, h1]
    rfl
  · rw [no i v e1] at o1; cases o1
  · obtain ⟨h1, h2, h3⟩ := b.pt p g e
    exact ⟨h1, h2, h3, fun a ⟨i, v, e, o, _⟩ => by rw [no i v e] at o; cases o⟩

/-! ### a module's defs -/
structure Mods (K : PySem.W.Frag) (mg : Str → Option Value) (glb : List (Str × Int)) : Prop where
  blt : ∀ x ∈ bltNames, mg x = none
  glb : ∀ p ∈ glb, ∃ t, mg p.1 = some (.int p.2 t)
structure OkAt (P : Program) (w : World) (K : PySem.W.Frag) (mg : Str → Option Value) (base : Heap) (k : Nat) (f : FnS) : Prop where
  ex : ∃ (a : Addr) (fd : FuncData), FnOk P w K mg base CX0 k a fd f.ps (spV f.ps.length f.sp) ∧ mg f.name = some (.ref a) ∧ PySem.W.keepIn K (.ref a) = true ∧ Binds K fd f.ps [] ∧ ∀ q ∈ f.kws, KwOk K fd f.ps q
def AllOk (P : Program) (w : World) (K : PySem.W.Frag) (mg : Str → Option Value) (base : Heap) (k : Nat) (fns : List FnS) : Prop := ∀ f ∈ fns, OkAt P w K mg base k f
/-- the def's text stands under the name -/
structure TextAt (K : PySem.W.Frag) (mg : Str → Option Value) (at_ : Str) (nm : Str) (st : Stmt) (a : Addr) (fd : FuncData) : Prop where
  fun_ : FunD K nm nm (defArgs st) (defBody st) (defScope st) [] [] a fd
  mg : mg at_ = some (.ref a)
section
variable {P : Program} {w : World} {K : PySem.W.Frag} {mg : Str → Option Value} {base : Heap} {k : Nat} {fns : List FnS} {glb : List (Str × Int)} {a : Addr} {fd : FuncData} {nm : Str} {st : Stmt}
theorem AllOk.nil : AllOk P w K mg base k [] := fun f h => by cases h
theorem AllOk.sub {fns' : List FnS} (h : AllOk P w K mg base k fns) (s : ∀ f ∈ fns', f ∈ fns) : AllOk P w K mg base k fns' := fun f hf => h f (s f hf)
theorem OkAt.mono {j : Nat} {f : FnS} (h : OkAt P w K mg base j f) (l : j ≤ k) : OkAt P w K mg base k f := by
  obtain ⟨a, fd, h1, h2⟩ := h.ex
  exact ⟨a, fd, h1.mono l, h2⟩
theorem AllOk.cons {f : FnS} (h : AllOk P w K mg base k fns) (g : OkAt P w K mg base k f) : AllOk P w K mg base k (f :: fns) := fun x hx => by
  rcases List.mem_cons.mp hx with rfl | hx
  · exact g
  · exact h x hx
theorem OkAt.call {X : Cx} {f : FnS} (h : OkAt X.prog X.w X.K X.mg X.base k f) (r : Room k X.A) : CallOk X f := by
  obtain ⟨a, fd, h1, h2, h3, h4⟩ := h.ex
  exact ⟨k, a, fd, h1, r, h2, h3, h4⟩
/-- the same function under another of its names -/
theorem OkAt.alias {f : FnS} {y : Str} {a : Addr} (h : OkAt P w K mg base k f) (e : mg f.name = some (.ref a)) (g : mg y = some (.ref a)) : OkAt P w K mg base k { f with name := y } := by
  obtain ⟨b, fd, h1, h2, h3, h4⟩ := h.ex
  have : b = a := by rw [h2] at e; cases e; rfl
  subst this
  exact ⟨b, fd, h1, g, h3, h4⟩
theorem fits_of {N own : List Str} {scope : Scope} {qual : Str} {f : Addr} {cd : Value} {A : Around} {outer : List PySem.Env} {s : Shared} {H : Hp} {E : XK} {g : Bool} (m : Mods K mg glb) (h : AllOk P w K mg base k fns) (nd : N.Nodup) (hk : scope.kind = .function)
    (hr : Room k (A.deeper (envOfC qual scope s.heap.objs.size f cd))) (hg : g = true → A.guards = some []) : Fits ⟨N, scope, fns, glb, g, own⟩ (cxOf CX0 P w K mg base N qual scope f cd A outer s H E).nox where
  n := rfl
  nd := nd
  sc := rfl
  kind := hk
  calm := rfl
  xe := rfl
  fn := fun _ _ => rfl
  blt := m.blt
  glb := m.glb
  fns := fun f hf => (h f hf).call hr
  grd := hg
  units := by
    have := hr.un
    show (A.deeper (envOfC qual scope s.heap.objs.size f cd)).units + 65 < cLine
    omega
theorem kw_ok {x qual : Str} {params : Arguments} {body : List Stmt} {scope : Scope} {kws : List (Str × V)} {ps : List Str} {q : List Str × List Nat} (F : FunD K x qual params body scope [] kws a fd)
    (h : ∀ (kV doc pm : Value) (an : Option Addr) (cdv ct : Value) (ws : List Value), ws.length = q.1.length → bindArgs (PySem.W.fnOf x qual params body scope .none kV doc pm an cdv ct) ⟨[], q.1.zip ws⟩ = pure (ps.zip (selL q.2 ws))) : KwOk K fd ps q := by
  obtain ⟨oc, od, dV, kV, doc, pm, an, cdv, ct, osl, rfl, lk, hcd, hD, hK⟩ := F.ex
  rcases hD with ⟨_, rfl⟩ | ⟨e, _⟩
  · refine ⟨fun s us ws _ h1 h2 => ?_, fun _ r => selL_vals r _⟩
    have : us = [] := List.eq_nil_of_length_eq_zero h1
    subst this
    exact .of_eq (h kV doc pm an cdv ct ws h2)
  · exact absurd rfl e
theorem add_def {f : FnS} {N own : List Str} {d : DS} (m : Mods K mg glb) (h : AllOk P w K mg base k fns) (T : TextAt K mg f.name nm st a fd) (S : FnScope N f.ps (defScope st))
    (hb : ∀ (kV doc pm : Value) (an : Option Addr) (cdv ct : Value) (us : List Value), us.length = f.ps.length → bindArgs (PySem.W.fnOf nm nm (defArgs st) (defBody st) (defScope st) .none kV doc pm an cdv ct) ⟨us, []⟩ = pure (f.ps.zip us))
    (hd : SB ⟨N, defScope st, fns, glb, false, own⟩ (defBody st) d)
    (hv : ∀ args Φ, args.length = f.ps.length → f.sp args Φ → d (kRet Φ) (envS N args))
    (hw : ∀ q ∈ f.kws, ∀ (kV doc pm : Value) (an : Option Addr) (cdv ct : Value) (ws : List Value), ws.length = q.1.length → bindArgs (PySem.W.fnOf nm nm (defArgs st) (defBody st) (defScope st) .none kV doc pm an cdv ct) ⟨[], q.1.zip ws⟩ = pure (f.ps.zip (selL q.2 ws))) : OkAt P w K mg base (k + 1) f := by
  refine ⟨a, fd, T.fun_.ok S (fun vs H Q E q => q.1) (fun cdv A outer s H vs Q E hr q => ?_), T.mg, T.fun_.kp, T.fun_.bindsN hb, fun q hq => kw_ok T.fun_ (hw q hq)⟩
  obtain ⟨hl, G, F, args, Φ, cb, rv, hs, hQ⟩ := q
  refine ⟨_, PSs.nox (pb_w (X := (cxOf CX0 P w K mg base N nm (defScope st) a cdv A outer s H E).nox)), ?_⟩
  have fx := fits_of (own := own) (g := false) (E := E) (outer := outer) (H := H) m h S.nd S.kind hr (fun z => by cases z)
  have r0 : R G F (envS N args) (L2.start N vs) H := r_start cb rv
  have no : ∀ c, ¬ OwnS (envS N args) (L2.start N vs) c := fun c ⟨i, v, e, o, _⟩ => by
    obtain ⟨_, _, _, z⟩ := rv.get (envS_get e)
    rw [z] at o; cases o
  refine hd _ fx G F H F (envS N args) (L2.start N vs) H _ (kRet Φ) ⟨r0, fun _ _ e _ => e, fun _ o e => ⟨o, e⟩, fun _ e => e, fun _ e => .inl e, fun c z => (no c z).elim⟩ (hv args Φ (by rw [← rv.len]; exact hl) hs) ⟨fun env' F' σ' H' r' l hn => ?_, fun _ _ _ _ _ _ z => z.elim, fun _ _ _ _ _ _ z => z.elim, fun v F' H' x ce cr hh => hQ v F' H' x ce cr hh⟩
  exact hQ (.d .none) F' H' .non r'.cend ⟨by simp only [RepV, RepD], fun z => by cases z⟩ hn
end
end Ev
set_option Elab.async false
set_option linter.all false
set_option maxRecDepth 100000
/-! Ev12: the law's own call, at the claim's caller alone. -/
namespace Ev
open PySem PySem.Spec PyProof.Rows L2

/-- a def entered from the claim's caller -/
def RunsAt (P : Program) (w : World) (K : PySem.W.Frag) (mg : Str → Option Value) (base : Heap) (f : Addr) (fd : FuncData) (ps : List Str) (sp : Sp) : Prop :=
  ∀ (s : Shared) (H : Hp) (ag : Args) (us : List Value) (vs : List V) (Q : VK) (E : XK), Env0 P w K mg base callerA [] s H → BindsTo s fd ag (ps.zip us) → Vals vs us → sp vs H Q E → codeAny (model P w) callerA (.call (.ref f) ag) (CR CX0 [] P w H s Q E) s
section
variable {P : Program} {w : World} {K : PySem.W.Frag} {mg : Str → Option Value} {base : Heap} {k : Nat} {f : Addr} {fd : FuncData}
theorem runs_at {nm ql : Str} {pr : Arguments} {bd : List Stmt} {sc : Scope} {N ps : List Str} {sp : Sp} (T : FunD K nm ql pr bd sc [] [] f fd) (S : FnScope N ps sc) (hr : Room (k + 1) callerA) (hn : ∀ vs H Q E, sp vs H Q E → vs.length = ps.length)
    (go : ∀ (cv : Value) (s : Shared) (H : Hp) (vs : List V) (Q : VK) (E : XK), Room k (callerA.deeper (envOfC ql sc s.heap.objs.size f cv)) → sp vs H Q E →
      wB (cxOf CX0 P w K mg base N ql sc f cv callerA [] s H E).nox bd { nx := fun _ H' => Q .non H', rt := Q } (L2.start N vs) H) : RunsAt P w K mg base f fd ps sp := by
  obtain ⟨oc, od, dV, kV, doc, pm, an, cv, ct, sl, rfl, lk, hcd, _, _⟩ := T.ex
  intro s H ag us vs Q E e0 hb rv hs
  have hl := hn _ _ _ _ hs
  have kin : K.In s.heap := e0.mod.kin.keeps fun b o e => (e0.bs b o e).1
  have lim : s.heap.NoLimit := e0.mod.nolimit.keeps fun b o e => (e0.bs b o e).1
  have kd : ∀ y ∈ ps.zip us, sc.names.lookup y.1 = some .local ∨ (sc.names.lookup y.1 = some .cell ∧ ((cellsFrom (s.heap.objs.size + 1) sc.names []).lookup y.1).isSome = true) := fun ⟨n, v⟩ hy => by
    rcases S.par n (List.of_mem_zip hy).1 with q | q
    · exact .inl q
    · exact .inr ⟨q, PySem.W.cellsFrom_some _ _ _ (.inl q)⟩
  refine codeAny_call_function hr.depth (kin _ _ lk) rfl S.co S.gen rfl (PySem.W.codeRec_of kin hcd) (hb _ _ _ _ ?_)
  refine wpAny_newFunctionEnv_cells S.kind kd fun env he s1 x => ?_
  subst he
  refine ⟨lim.keeps x.toInCall.keep, codeAny_func ?_⟩
  have I : Inv (cxOf CX0 P w K mg base N ql sc f cv callerA [] s H E) [] (L2.start N vs) H s1 := inv_start S hr.hd e0 hl rv x
  have run := (PSs.nox (X := cxOf CX0 P w K mg base N ql sc f cv callerA [] s H E) pb_w).run [] s1 (L2.start N vs) H _ I (go cv s H vs Q E (hr.deeper _) hs)
  refine wpAny_mono run (fun fl s2 h2 => ?_) fun e s2 h2 => h2
  have fin : ∀ {σ' : L2.St} {H' : Hp} {v : V} {u : Value}, Inv (cxOf CX0 P w K mg base N ql sc f cv callerA [] s H E) [] σ' H' s2 → RelV v u → Q v H' → CE [] P w H s Q u s2 :=
    fun {σ' H' v u} J r q => ⟨v, H', J.os, J.bare, J.base, J.hok, r, q⟩
  cases fl with
  | ret u => obtain ⟨v, σ', H', J, r, q⟩ := h2; exact fin J r q
  | next => obtain ⟨σ', H', J, q⟩ := h2; exact fin (v := V.non) (u := Value.none) J rfl q
  | brk => obtain ⟨_, _, _, q⟩ := h2; exact False.elim q
  | cont => obtain ⟨_, _, _, q⟩ := h2; exact False.elim q

/-- the claim's call of the law over a script of ints -/
theorem law_at {mb : Str → Option Value} {a : Addr} {x : Str} {sp : Sp} {t : Shared} {vs : List Value} {ns : List Int}
    (kin : K.In t.heap) (hm : t.heap.Ns mainGlobals mg) (hb : t.heap.Ns builtinsNs mb) (hbb : ∀ x : Str, x ≠ "__name__" → mb x = bootBuiltins x) (lim : t.heap.NoLimit) (hg : t.gens = #[])
    (ha : t.heap.get? a = some { cls := .type "list", data := .seq vs.toArray }) (hi : IntsAre vs ns) (hl : ns.length ≤ sizeLine)
    (F : ∀ bs : Heap, K.In bs → bs.Ns mainGlobals mg → RunsAt P w K mg bs f fd [x] sp) (hbind : ∀ (s : Shared) (u : Value), BindsTo s fd ⟨[u], []⟩ [(x, u)])
    (hsp : ∀ H : Hp, Only H → SqL K H a (ns.map V.int) → sp [.ref a] H (fun v _ => v = .bl true) fun _ _ _ => False) :
    codeAny (model P w) callerA (.call (.ref f) ⟨[.ref a], []⟩) (fun r s' => r = .ok (.ret (.bool true)) ∧ OldK t.heap s'.heap ∧ s'.os = t.os ∧ AllBare s'.gens) t := by
  have rv := vals_ints hi
  have lv := hi.length
  have core : ∀ H : Hp, Only H → SqL K H a (ns.map V.int) → HOk P w H t.heap → (∀ b, H b ≠ none → b = a) → (H a ≠ none → K.lookup a = none) →
      codeAny (model P w) callerA (.call (.ref f) ⟨[.ref a], []⟩) (fun r s' => r = .ok (.ret (.bool true)) ∧ OldK t.heap s'.heap ∧ s'.os = t.os ∧ AllBare s'.gens) t := by
    intro H hO hS ho hA hK
    have one : ∀ {b : Addr} {u : HO}, H b = some u → b = a := fun {b u} e => hA b (by rw [e]; intro z; cases z)
    have up : ∀ {b : Addr} {o : Obj}, t.heap.get? b = some o → H b = none → (hidT t.heap H).get? b = some o := fun e n => hidT_get e n
    have noD : ∀ {b : Addr} {o : Obj} {es : Array DictEntry} {ep : Nat}, t.heap.get? b = some o → o.data = .dict es ep → H b = none := fun {b o es ep} e d => by
      cases q : H b with
      | none => rfl
      | some u =>
        have z := one q
        subst z
        rw [ha] at e; cases e
        have d' : Data.seq vs.toArray _ = Data.dict es ep := d
        cases d'
    have nsT : ∀ {b : Addr} {m : Str → Option Value}, t.heap.Ns b m → (hidT t.heap H).Ns b m := fun {b m} ⟨o, es, ep, e, d, r⟩ => ⟨o, es, ep, up e (noD e d), d, r⟩
    have kB : K.In (hidT t.heap H) := fun b o e => up (kin b o e) (by
      cases q : H b with
      | none => rfl
      | some u =>
        have z := one q
        subst z
        rw [hK (by rw [q]; intro y; cases y)] at e; cases e)
    have md : Mod K mg (hidT t.heap H) := ⟨kB, nsT hm, ⟨mb, nsT hb, hbb⟩, let ⟨mc, h1, h2⟩ := lim; ⟨mc, nsT h1, h2⟩⟩
    have nomem : ∀ {b : Addr}, b ∉ ([] : List Addr) := fun {b} z => by cases z
    have e0 : Env0 P w K mg (hidT t.heap H) callerA [] t H := ⟨rfl, md, fun b o e => of_hidT e, Nat.le_of_eq (hidT_size _ _), trivial, fun b z => (nomem z).elim, ho, .of_eq hg⟩
    refine codeAny_mono (F _ kB (nsT hm) t H ⟨[.ref a], []⟩ [.ref a] [.ref a] _ _ e0 (hbind t (.ref a)) (.cons rfl .nil) (hsp H hO hS)) fun r s' h => ?_
    cases r with
    | error e => exact False.elim h
    | ok fl => cases fl with
      | next => exact False.elim h
      | brk => exact False.elim h
      | cont => exact False.elim h
      | ret u =>
        obtain ⟨v, H', os, bare, un, ho', r', q⟩ := h
        have q2 : v = .bl true := q
        subst q2
        obtain rfl : u = Value.bool true := r'
        refine ⟨rfl, OldK.of_keep fun b o e => ?_, os, bare⟩
        cases q : H b with
        | none => exact un.keep b o e q (fun z => (nomem z).elim) nomem
        | some u =>
          rcases hO b with z | ⟨ob, xs, z⟩
          · rw [q] at z; cases z
          · obtain ⟨e1, _⟩ := ho b _ z
            obtain ⟨e2, _⟩ := ho' b _ (un.frzs b ob _ z)
            rw [e] at e1; cases e1
            exact e2
  cases hk : K.lookup a with
  | some o =>
    have e := kin a o hk
    rw [ha] at e
    cases e
    exact core (fun _ => none) (fun _ => .inl rfl) (.inr ⟨_, vs.toArray, _, hk, rfl, rfl, rfl, by rw [List.size_toArray, lv]; exact hl, by simpa using rv⟩) (fun b u z => by cases z) (fun b z => absurd rfl z) fun z => absurd rfl z
  | none =>
    have at_ : ∀ b, b = a → (fun b => if b = a then some (HO.frz { cls := .type "list", data := .seq vs.toArray } (.lst (ns.map V.int))) else none : Hp) b = some (.frz { cls := .type "list", data := .seq vs.toArray } (.lst (ns.map V.int))) := fun b z => if_pos z
    have off : ∀ b, b ≠ a → (fun b => if b = a then some (HO.frz { cls := .type "list", data := .seq vs.toArray } (.lst (ns.map V.int))) else none : Hp) b = none := fun b z => if_neg z
    generalize (fun b => if b = a then some (HO.frz { cls := .type "list", data := .seq vs.toArray } (.lst (ns.map V.int))) else none : Hp) = H1 at at_ off
    refine core H1 (fun b => ?_) (.inl (.inr ⟨_, at_ a rfl⟩)) (fun b u z => ?_) (fun b z => ?_) fun _ => hk
    · by_cases hc : b = a
      · exact .inr ⟨_, _, at_ b hc⟩
      · exact .inl (off b hc)
    · by_cases hc : b = a
      · have y := (at_ b hc).symm.trans z
        cases y
        subst hc
        exact ⟨ha, by rw [List.length_map]; exact hl, vs, _, rv, ha⟩
      · have y := (off b hc).symm.trans z
        cases y
    · by_cases hc : b = a
      · exact hc
      · exact absurd (off b hc) z
end

/-- the head's last goal -/
theorem walk_law {l : PySem.W.OpenLaw} {n : Nat} {q : Program} {loose : List Str} {XP : (Str → Option Value) → Heap → Prop} {YP : World → Heap → Prop} {d : DefRec} {x : Str}
    (hn : l.most = some n) (hn2 : n ≤ sizeLine) (hdf : d.params.defaults = [])
    (F : ∀ (w : World) (mg : Str → Option Value) (fa : Addr) (h : Heap), YP w h → h.Ns mainGlobals mg → mg d.name = some (.ref fa) →
      ∃ (K : PySem.W.Frag) (fd : FuncData) (sp : Sp), K.In h ∧ (∀ (s : Shared) (u : Value), BindsTo s fd ⟨[u], []⟩ [(x, u)]) ∧
        (∀ (H : Hp) (a : Addr) (ns : List Int), ns.length ≤ n → Only H → SqL K H a (ns.map V.int) → sp [.ref a] H (fun v _ => v = .bl true) fun _ _ _ => False) ∧
        ∀ base : Heap, K.In base → base.Ns mainGlobals mg → RunsAt l.prog w K mg base fa fd [x] sp) :
    PySem.W.WalkO q loose XP YP l.row.toRowW d [] (fun f vs => PySem.call f vs) := by
  refine Att.attach_call hn hdf fun w s0 s1 mg mb fa o pm cd doc a vs ns G Y h1 h2 h3 hmg ho hi hl hg => ?_
  obtain ⟨K, fd, sp, kx, hb, hsp, hF⟩ := F w mg fa _ Y G.T.g hmg
  exact law_at kx G.T.g G.T.b G.T.builtins G.T.nolimit hg ho hi (Nat.le_trans hl hn2) hF hb fun H hO hS => hsp H a ns hl hO hS

/-! ### the law's body: the pot first -/
def spPot (K : PySem.W.Frag) : Sp := fun vs H Q _ => ∃ (a : Addr) (ns : List Int), vs = [.ref a] ∧ SqL K H a (ns.map V.int) ∧ ns.length ≤ 63 ∧ ∀ H' p g, PotOk H' p g → Q (.ref p) H'
def envPot (N : List Str) : Env := (List.replicate N.length none).set 1 (some .pot)
section
variable {P : Program} {w : World} {K : PySem.W.Frag} {mg : Str → Option Value} {base : Heap} {k : Nat} {fns : List FnS} {glb : List (Str × Int)} {f : Addr} {fd : FuncData}
theorem r_pot {N : List Str} {a p g : Addr} {H : Hp} (h2 : 2 ≤ N.length) (h : PotOk H p g) : R (some (p, g)) (fun _ => False) (envPot N) ((L2.start N [V.ref a]).set 1 (some (V.ref p))) H := by
  have at1 : ∀ (i : Nat) (v : Val), (envPot N)[i]? = some (some v) → i = 1 ∧ v = .pot := fun i v e => by
    unfold envPot at e
    by_cases hi : 1 = i
    · subst hi
      rw [List.getElem?_set_self (by rw [List.length_replicate]; omega)] at e
      cases e; exact ⟨rfl, rfl⟩
    · rw [List.getElem?_set_ne hi, List.getElem?_replicate] at e
      split at e <;> cases e
  refine ⟨by unfold envPot L2.start; simp; omega, fun i v e => ?_, fun i j v u c e1 e2 o1 _ => ?_, fun c z => z.elim, fun p' g' e => ?_⟩
  · obtain ⟨rfl, rfl⟩ := at1 i v e
    refine ⟨.ref p, ?_, p, g, rfl, rfl⟩
    rw [List.getElem?_set_self]
    unfold L2.start
    simp; omega
  · obtain ⟨_, rfl⟩ := at1 i v e1
    cases o1
  · cases e
    exact ⟨h, fun z => z, fun z => z, fun c ⟨i, v, e, o, _⟩ => by obtain ⟨_, rfl⟩ := at1 i v e; cases o⟩
theorem law_runs {nm : Str} {st : Stmt} {N own : List Str} {rest : List Stmt} {d : DS} {ap : Addr} {fp : FuncData} {px pf pa pc ps : Pos} {kp : Nat} (T : FunD K nm nm (defArgs st) (defBody st) (defScope st) [] [] f fd) (m : Mods K mg glb) (h : AllOk P w K mg base k fns)
    (S : FnScope N ["script"] (defScope st)) (hr : Room (k + 1) callerA) (hbody : defBody st = .Assign [.Name "pot" px] (.Call (.Name "_law_pot" pf) [.Name "script" pa] [] pc) ps :: rest)
    (FO : FnOk P w K mg base CX0 kp ap fp ["script"] (spPot K)) (hkp : kp ≤ k) (hm : mg "_law_pot" = some (.ref ap)) (hk : PySem.W.keepIn K (.ref ap) = true) (hbp : Binds K fp ["script"] [])
    (n0 : N[0]? = some ("script" : Str)) (n1 : N[1]? = some ("pot" : Str)) (g1 : (defScope st).names.lookup ("_law_pot" : Str) = some .globalImplicit) (g2 : LocC ⟨N, defScope st, fns, glb, true, own⟩ "pot") (g3 : (defScope st).names.lookup ("script" : Str) = some .local)
    (hd : SB ⟨N, defScope st, fns, glb, true, own⟩ rest d) (hv : d (kRet fun v => v = .d (.bool true)) (envPot N)) :
    RunsAt P w K mg base f fd ["script"] (fun vs H Q _ => (∃ (a : Addr) (ns : List Int), vs = [.ref a] ∧ SqL K H a (ns.map V.int) ∧ ns.length ≤ 63) ∧ ∀ H', Q (.bl true) H') := by
  refine runs_at T S hr (fun vs H Q E ⟨⟨a, ns, e, _⟩, _⟩ => by rw [e]; rfl) fun cv s H vs Q E hr2 ⟨⟨a, ns, e, hS, hl⟩, hQ⟩ => ?_
  subst e
  rw [hbody]
  have fx := fits_of (own := own) (g := true) (E := E) (outer := []) (H := H) m h S.nd S.kind hr2 (fun _ => rfl)
  have l2 : 2 ≤ N.length := (List.getElem?_eq_some_iff.mp n1).1
  have s0 : (L2.start N [V.ref a])[0]? = some (some (V.ref a)) := rfl
  refine wb_of (pss_cons (ps_set (i := 1) S.nd n1 g2.1 (pe_call FO (hr2.mono hkp) (gl_of fx g1) hm hk hbp .nil pass0 (pa_cons (pe_var (i := 0) n0 (.inl g3)) pa_nil)) (by rfl) (fn_of' fx g2)) pb_w) ?_
  refine ⟨V.ref a, s0, a, ns, rfl, hS, hl, fun H' p g po => ?_⟩
  have r0 := r_pot (a := a) (N := N) l2 po
  have no : ∀ c, ¬ OwnS (envPot N) ((L2.start N [V.ref a]).set 1 (some (V.ref p))) c := fun c z => (r0.ownL z).elim fun o _ => by
    obtain ⟨i, v, e, ow, _⟩ := z
    unfold envPot at e
    by_cases hi : 1 = i
    · subst hi
      rw [List.getElem?_set_self (by rw [List.length_replicate]; omega)] at e
      cases e; cases ow
    · rw [List.getElem?_set_ne hi, List.getElem?_replicate] at e
      split at e <;> cases e
  refine hd _ fx _ _ H' _ (envPot N) _ H' _ _ ⟨r0, fun _ _ e _ => e, fun _ o e => ⟨o, e⟩, fun _ e => e, fun _ e => .inl e, fun c z => (no c z).elim⟩ hv ⟨fun env' F' σ' H2 r' l hn => ?_, fun _ _ _ _ _ _ z => z.elim, fun _ _ _ _ _ _ z => z.elim, fun v F' H2 x ce cr hh => ?_⟩
  · cases hn
  · have hh : v = .d (.bool true) := hh
    subst hh
    have z : x = .bl true := by have := cr.rep; simpa only [RepV, RepD] using this
    subst z
    exact hQ H2
end
end Ev
set_option Elab.async false
set_option linter.all false
set_option maxRecDepth 100000
/-! Ev13: the laws' own draw, by hand. -/
namespace Ev
open PySem PySem.Spec PyProof.Rows L2

abbrev kGreat : L2.Key := Sum.inr (Str.ofString "great")
abbrev kSeal : L2.Key := Sum.inr (Str.ofString "seal")
abbrev kTurn : L2.Key := Sum.inr (Str.ofString "turn")
def potKv (g : Addr) (sl tn : Int) : List (L2.Key × V) := [(kGreat, V.ref g), (kSeal, V.int sl), (kTurn, V.int tn)]
theorem ks_gs : kGreat ≠ kSeal := by decide
theorem ks_gt : kGreat ≠ kTurn := by decide
theorem ks_st : kSeal ≠ kTurn := by decide
theorem val_g {g sl tn} : valV (potKv g sl tn) kGreat = some (V.ref g) := rfl
theorem val_s {g sl tn} : valV (potKv g sl tn) kSeal = some (V.int sl) := by
  unfold potKv
  rw [valV_neg (show ¬ kGreat = kSeal from ks_gs), valV_pos rfl]
theorem val_t {g sl tn} : valV (potKv g sl tn) kTurn = some (V.int tn) := by
  unfold potKv
  rw [valV_neg (show ¬ kGreat = kTurn from ks_gt), valV_neg (show ¬ kSeal = kTurn from ks_st), valV_pos rfl]
theorem put_s {g sl tn x} : putK (potKv g sl tn) kSeal (V.int x) = potKv g x tn := by
  have a1 : decide (kGreat = kSeal) = false := by decide
  have a2 : decide (kTurn = kSeal) = false := by decide
  unfold putK potKv
  rw [if_pos (by simp [List.any_cons])]
  simp only [List.map_cons, List.map_nil, if_neg (of_decide_eq_false a1), if_neg (of_decide_eq_false a2), if_true]
theorem put_t {g sl tn x} : putK (potKv g sl tn) kTurn (V.int x) = potKv g sl x := by
  have a1 : decide (kGreat = kTurn) = false := by decide
  have a2 : decide (kSeal = kTurn) = false := by decide
  unfold putK potKv
  rw [if_pos (by simp [List.any_cons])]
  simp only [List.map_cons, List.map_nil, if_neg (of_decide_eq_false a1), if_neg (of_decide_eq_false a2), if_true]
theorem dput_s {H : Hp} {p g : Addr} {sl tn x : Int} (h : H p = some (.dK (potKv g sl tn))) : DPut H p (.str "seal") (V.int x) (upd H p (.dK (potKv g x tn))) := by
  have := DPut.k (k := kSeal) (v := V.int x) h (by rw [sizeLine_eq]; show 3 < 16777216; decide)
  rw [put_s] at this
  exact this
theorem dput_t {H : Hp} {p g : Addr} {sl tn x : Int} (h : H p = some (.dK (potKv g sl tn))) : DPut H p (.str "turn") (V.int x) (upd H p (.dK (potKv g sl x))) := by
  have := DPut.k (k := kTurn) (v := V.int x) h (by rw [sizeLine_eq]; show 3 < 16777216; decide)
  rw [put_t] at this
  exact this
/-- the heap behind a draw -/
structure AfterDraw (p g : Addr) (H H' : Hp) : Prop where
  ok : PotOk H' p g
  keep : ∀ a o, H a = some o → a ≠ p → a ≠ g → H' a = some o
  live : ∀ a o, H a = some o → ∃ o', H' a = some o'
def DN : List Str := ["pot", "many", "great", "cell", "own"]
structure DrawSc (X : Cx) : Prop where
  n : X.N = DN
  l0 : X.env.scope.names.lookup ("pot" : Str) = some .local
  l1 : X.env.scope.names.lookup ("many" : Str) = some .local
  l2 : X.env.scope.names.lookup ("great" : Str) = some .local
  l3 : X.env.scope.names.lookup ("cell" : Str) = some .local
  l4 : X.env.scope.names.lookup ("own" : Str) = some .local
  gi : Gl X "int"
  mi : X.mg "int" = none
  hu : X.A.units + 65 < cLine
theorem dn_nd : DN.Nodup := by decide
section
variable {X : Cx} {D : Ends} {p g : Addr} {m : Int} {H : Hp}
theorem lt0 {a : Int} (h : 0 < a) (x : Int) : 0 ≤ x % a ∧ x % a < a := ⟨Int.emod_nonneg _ (by omega), Int.emod_lt_of_pos _ h⟩
variable {q0 q1 q2 q3 q4 q5 q6 q7 q8 q9 q10 q11 q12 q13 q14 q15 q16 q17 q18 q19 q20 q21 q22 q23 q24 q25 q26 q27 q28 q29 q30 q31 q32 q33 q34 q35 q36 q37 q38 q39 q40 q41 q42 q43 q44 q45 q46 q47 q48 q49 q50 q51 q52 q53 q54 q55 q56 q57 q58 q59 q60 q61 q62 q63 q64 q65 q66 q67 q68 q69 q70 q71 q72 q73 q74 q75 q76 q77 q78 q79 q80 q81 q82 q83 q84 q85 q86 q87 q88 q89 q90 q91 q92 q93 q94 q95 q96 : Pos}
theorem pe_ty1 {x : Expr} {te : TE} {pf pos : Pos} (S : DrawSc X) (h : PE X x te) (hs : starEach [x] X.env = (false, eval x X.env) :: starEach [] X.env) : PE X (.Call (.Name "int" pf) [x] [] pos) (tCB (fun xs H Q => (∃ i, xs = [.int i] ∧ Q (.int i) H) ∨ ∃ k, xs = [.bl k] ∧ Q (.int (if k then 1 else 0)) H) (L2.tCons te L2.tNil)) :=
  pe_callTy call_int1 S.gi S.mi (by decide +kernel) (pa_cons h pa_nil hs) (by decide) (by decide) hs rfl
theorem v0 (S : DrawSc X) {q : Pos} : PE X (.Name "pot" q) (tVar 0) := pe_var (by rw [S.n]; rfl) (.inl S.l0)
theorem v1 (S : DrawSc X) {q : Pos} : PE X (.Name "many" q) (tVar 1) := pe_var (by rw [S.n]; rfl) (.inl S.l1)
theorem v2 (S : DrawSc X) {q : Pos} : PE X (.Name "great" q) (tVar 2) := pe_var (by rw [S.n]; rfl) (.inl S.l2)
theorem v3 (S : DrawSc X) {q : Pos} : PE X (.Name "cell" q) (tVar 3) := pe_var (by rw [S.n]; rfl) (.inl S.l3)
theorem v4 (S : DrawSc X) {q : Pos} : PE X (.Name "own" q) (tVar 4) := pe_var (by rw [S.n]; rfl) (.inl S.l4)
theorem pot_get (S : DrawSc X) {k : String} {q r s : Pos} {j : Nat} : PE X (.Subscript (.Name "pot" q) (.Constant (.str k) j r) s) (tDGet (tVar 0) (tC (.str k))) :=
  pe_dget (by have := S.hu; omega) (v0 S) pe_str (fun _ _ => rfl)
theorem draw_tail (S : DrawSc X) {gv : Option V} {c4 : Option V} {sl tn : Int} {ns : List Int} (hp : H p = some (.dK (potKv g sl tn))) (hg : H g = some (.lst (ns.map V.int))) (hne : p ≠ g) (hns : ∀ n ∈ ns, 0 ≤ n) (hl : ns.length ≤ 62) (h1 : 0 ≤ sl) (h2 : sl < 4294967291) (h3 : 0 ≤ tn)
    (hm : 0 < m) (hm2 : m < 2 ^ 30) (hQ : ∀ r H', AfterDraw p g H H' → 0 ≤ r → r < m → D.rt (.int r) H') :
    wB X [.Assign [(.Subscript (.Name "pot" q31) (.Constant (.str "turn") 0 q32) q33)] (.BinOp (.Subscript (.Name "pot" q34) (.Constant (.str "turn") 0 q35) q36) .Add (.Constant (.int 1) 0 q37) q38) q39,
   .Assign [(.Name "own" q40)] (.BinOp (.Call (.Name "int" q41) [(.BinOp (.BinOp (.BinOp (.Subscript (.Name "pot" q42) (.Constant (.str "seal") 0 q43) q44) .Mult (.Constant (.int 69621) 0 q45) q46) .Add (.BinOp (.Subscript (.Name "pot" q47) (.Constant (.str "turn") 0 q48) q49) .Mult (.Constant (.int 40503) 0 q50) q51) q52) .Add (.Constant (.int 29) 0 q53) q54)] [] q55) .Mod (.Constant (.int 4294967279) 0 q56) q57) q58,
   .Assign [(.Name "own" q59)] (.BinOp (.Call (.Name "int" q60) [(.BinOp (.BinOp (.Name "own" q61) .Mult (.Name "own" q62) q63) .Add (.BinOp (.Subscript (.Name "pot" q64) (.Constant (.str "seal") 0 q65) q66) .Mult (.Constant (.int 7) 0 q67) q68) q69)] [] q70) .Mod (.Constant (.int 4294967231) 0 q71) q72) q73,
   .Assign [(.Subscript (.Name "pot" q74) (.Constant (.str "seal") 0 q75) q76)] (.BinOp (.Call (.Name "int" q77) [(.BinOp (.BinOp (.Subscript (.Name "pot" q78) (.Constant (.str "seal") 0 q79) q80) .Mult (.Constant (.int 48271) 0 q81) q82) .Add (.Name "own" q83) q84)] [] q85) .Mod (.Constant (.int 4294967291) 0 q86) q87) q88,
   .Return (some (.BinOp (.Call (.Name "int" q89) [(.BinOp (.Name "own" q90) .FloorDiv (.Constant (.int 64) 0 q91) q92)] [] q93) .Mod (.Name "many" q94) q95)) q96] D [some (.ref p), some (.int m), gv, none, c4] H := by
  have nd : X.N.Nodup := by rw [S.n]; exact dn_nd
  have c64 : ∀ {a b : Int}, -(2 ^ 64) < b → b < 2 ^ 64 → CMul a b := fun h1 h2 => .inr ⟨h1, h2⟩
  refine wb_of (pss_cons (ps_dput (by have := S.hu; omega) (v0 S) pe_str (pe_op op_add (pot_get S) pe_int) rfl) pb_w) ?_
  refine ⟨_, rfl, p, V.int tn, rfl, ?_, tn, 1, rfl, rfl, _, rfl, p, _, rfl, dput_t hp, ?_⟩
  · have := DGet.k (k := kTurn) hp; rw [val_t] at this; exact this
  generalize hH1 : upd H p (.dK (potKv g sl (tn + 1))) = H1
  have hp1 : H1 p = some (.dK (potKv g sl (tn + 1))) := by rw [← hH1]; exact upd_same
  have g1 : DGet H1 p (.str "seal") (some (V.int sl)) := by have := DGet.k (k := kSeal) hp1; rw [val_s] at this; exact this
  have g2 : DGet H1 p (.str "turn") (some (V.int (tn + 1))) := by have := DGet.k (k := kTurn) hp1; rw [val_t] at this; exact this
  show wB X _ D _ H1
  refine wb_of (pss_cons (ps_set (i := 4) nd (by rw [S.n]; rfl) (.inl S.l4) (pe_op op_mod (pe_ty1 S (pe_op op_add (pe_op op_add (pe_op op_mul (pot_get S) pe_int) (pe_op op_mul (pot_get S) pe_int)) pe_int) rfl) pe_int) rfl (.inr S.l4)) pb_w) ?_
  refine ⟨_, rfl, p, _, rfl, g1, sl, 69621, rfl, rfl, c64 (by decide) (by decide), _, rfl, p, _, rfl, g2, tn + 1, 40503, rfl, rfl, c64 (by decide) (by decide), _, _, rfl, rfl, _, _, rfl, rfl, .inl ⟨_, rfl, _, _, rfl, rfl, (by show (0 : Int) < _; decide), ?_⟩⟩
  show wB X _ D [some (.ref p), some (.int m), gv, none, some (.int ((sl * 69621 + (tn + 1) * 40503 + 29) % 4294967279))] H1
  generalize ho : (sl * 69621 + (tn + 1) * 40503 + 29) % 4294967279 = o1
  have ho1 := lt0 (a := 4294967279) (by decide) (sl * 69621 + (tn + 1) * 40503 + 29)
  rw [ho] at ho1
  refine wb_of (pss_cons (ps_set (i := 4) nd (by rw [S.n]; rfl) (.inl S.l4) (pe_op op_mod (pe_ty1 S (pe_op op_add (pe_op op_mul (v4 S) (v4 S)) (pe_op op_mul (pot_get S) pe_int)) rfl) pe_int) rfl (.inr S.l4)) pb_w) ?_
  refine ⟨_, rfl, _, rfl, o1, o1, rfl, rfl, c64 (by have := ho1.1; omega) (by have := ho1.2; omega), _, rfl, p, _, rfl, g1, sl, 7, rfl, rfl, c64 (by decide) (by decide), _, _, rfl, rfl, .inl ⟨_, rfl, _, _, rfl, rfl, (by show (0 : Int) < _; decide), ?_⟩⟩
  show wB X _ D [some (.ref p), some (.int m), gv, none, some (.int ((o1 * o1 + sl * 7) % 4294967231))] H1
  generalize ho2 : (o1 * o1 + sl * 7) % 4294967231 = o2
  have ho3 := lt0 (a := 4294967231) (by decide) (o1 * o1 + sl * 7)
  rw [ho2] at ho3
  refine wb_of (pss_cons (ps_dput (by have := S.hu; omega) (v0 S) pe_str (pe_op op_mod (pe_ty1 S (pe_op op_add (pe_op op_mul (pot_get S) pe_int) (v4 S)) rfl) pe_int) rfl) pb_w) ?_
  refine ⟨_, rfl, p, _, rfl, g1, sl, 48271, rfl, rfl, c64 (by decide) (by decide), _, rfl, _, _, rfl, rfl, .inl ⟨_, rfl, _, _, rfl, rfl, (by show (0 : Int) < _; decide), _, rfl, p, _, rfl, dput_s hp1, ?_⟩⟩
  show wB X _ D [some (.ref p), some (.int m), gv, none, some (.int o2)] (upd H1 p (.dK (potKv g ((sl * 48271 + o2) % 4294967291) (tn + 1))))
  have hs := lt0 (a := 4294967291) (by decide) (sl * 48271 + o2)
  generalize (sl * 48271 + o2) % 4294967291 = s2 at hs
  generalize hH2 : upd H1 p (.dK (potKv g s2 (tn + 1))) = H2
  have hp2 : H2 p = some (.dK (potKv g s2 (tn + 1))) := by rw [← hH2]; exact upd_same
  have same : ∀ a, a ≠ p → H2 a = H a := fun a z => by rw [← hH2, upd_ne z, ← hH1, upd_ne z]
  have ad : AfterDraw p g H H2 := by
    refine ⟨⟨ns, s2, tn + 1, hp2, by rw [same g (Ne.symm hne)]; exact hg, hns, hl, hs.1, hs.2, by omega⟩, fun a o e n _ => by rw [same a n]; exact e, fun a o e => ?_⟩
    by_cases z : a = p
    · subst z; exact ⟨_, hp2⟩
    · exact ⟨o, by rw [same a z]; exact e⟩
  show wB X _ D [some (.ref p), some (.int m), gv, none, some (.int o2)] H2
  refine wb_of (pss_one (ps_ret (pe_op op_mod (pe_ty1 S (pe_op op_fdiv (v4 S) pe_int) rfl) (v1 S)))) ?_
  refine ⟨_, rfl, _, _, rfl, rfl, by constructor <;> decide, .inl ⟨_, rfl, _, rfl, _, _, rfl, rfl, hm, ?_⟩⟩
  have := lt0 hm (o2 / 64)
  exact hQ _ H2 ad this.1 this.2
theorem draw_body (S : DrawSc X) (po : PotOk H p g) (hne : p ≠ g) (hm : 0 < m) (hm2 : m < 2 ^ 30) (hl1 : (q10.endLine == q11.line) = true) (hl2 : (q17.endLine == q21.line) = true) (hQ : ∀ r H', AfterDraw p g H H' → 0 ≤ r → r < m → D.rt (.int r) H') :
    wB X [.Assign [(.Name "great" q0)] (.Subscript (.Name "pot" q1) (.Constant (.str "great") 0 q2) q3) q4,
   .If (.Compare (.Name "great" q5) [.NotEq] [(.List [] q6)] q7) [.Assign [(.Name "cell" q8)] (.Call (.Attribute (.Name "great" q9) "pop" q10) [] [] q11) q12, .If (.Compare (.Name "cell" q13) [.GtE] [(.Name "many" q14)] q15) [.Expr (.Call (.Attribute (.Name "great" q16) "append" q17) [(.BinOp (.Name "cell" q18) .FloorDiv (.Name "many" q19) q20)] [] q21) q22] [] q23, .Return (some (.BinOp (.Call (.Name "int" q24) [(.Name "cell" q25)] [] q26) .Mod (.Name "many" q27) q28)) q29] [] q30,
   .Assign [(.Subscript (.Name "pot" q31) (.Constant (.str "turn") 0 q32) q33)] (.BinOp (.Subscript (.Name "pot" q34) (.Constant (.str "turn") 0 q35) q36) .Add (.Constant (.int 1) 0 q37) q38) q39,
   .Assign [(.Name "own" q40)] (.BinOp (.Call (.Name "int" q41) [(.BinOp (.BinOp (.BinOp (.Subscript (.Name "pot" q42) (.Constant (.str "seal") 0 q43) q44) .Mult (.Constant (.int 69621) 0 q45) q46) .Add (.BinOp (.Subscript (.Name "pot" q47) (.Constant (.str "turn") 0 q48) q49) .Mult (.Constant (.int 40503) 0 q50) q51) q52) .Add (.Constant (.int 29) 0 q53) q54)] [] q55) .Mod (.Constant (.int 4294967279) 0 q56) q57) q58,
   .Assign [(.Name "own" q59)] (.BinOp (.Call (.Name "int" q60) [(.BinOp (.BinOp (.Name "own" q61) .Mult (.Name "own" q62) q63) .Add (.BinOp (.Subscript (.Name "pot" q64) (.Constant (.str "seal") 0 q65) q66) .Mult (.Constant (.int 7) 0 q67) q68) q69)] [] q70) .Mod (.Constant (.int 4294967231) 0 q71) q72) q73,
   .Assign [(.Subscript (.Name "pot" q74) (.Constant (.str "seal") 0 q75) q76)] (.BinOp (.Call (.Name "int" q77) [(.BinOp (.BinOp (.Subscript (.Name "pot" q78) (.Constant (.str "seal") 0 q79) q80) .Mult (.Constant (.int 48271) 0 q81) q82) .Add (.Name "own" q83) q84)] [] q85) .Mod (.Constant (.int 4294967291) 0 q86) q87) q88,
   .Return (some (.BinOp (.Call (.Name "int" q89) [(.BinOp (.Name "own" q90) .FloorDiv (.Constant (.int 64) 0 q91) q92)] [] q93) .Mod (.Name "many" q94) q95)) q96] D [some (.ref p), some (.int m), none, none, none] H := by
  have nd : X.N.Nodup := by rw [S.n]; exact dn_nd
  obtain ⟨ns, sl, tn, hp, hg, hns, hl, h1, h2, h3⟩ := po
  have hp : H p = some (.dK (potKv g sl tn)) := hp
  refine wb_of (pss_cons (ps_set (i := 2) nd (by rw [S.n]; rfl) (.inl S.l2) (pot_get S) rfl (.inr S.l2)) pb_w) ?_
  refine ⟨_, rfl, p, V.ref g, rfl, ?_, ?_⟩
  · have := DGet.k (k := kGreat) hp; rw [val_g] at this; exact this
  show wB X _ D [some (.ref p), some (.int m), some (.ref g), none, none] H
  refine wb_of (pss_cons (ps_if (pt_cmpR (op_neD (by have := S.hu; omega)) (v2 S) (pe_lst pa_nil) rfl) pb_w pb_w) pb_w) ?_
  refine ⟨_, rfl, (by rw [sizeLine_eq]; exact Nat.zero_le _), fun q hq => ?_⟩
  have qp : p ≠ q := fun z => by subst z; rw [hq] at hp; cases hp
  have qg : g ≠ q := fun z => by subst z; rw [hq] at hg; cases hg
  generalize hH1 : upd H q (.lst []) = H1
  have hp1 : H1 p = some (.dK (potKv g sl tn)) := by rw [← hH1, upd_ne qp]; exact hp
  have hg1 : H1 g = some (.lst (ns.map V.int)) := by rw [← hH1, upd_ne qg]; exact hg
  have hq1 : H1 q = some (.lst []) := by rw [← hH1]; exact upd_same
  have k1 : ∀ a o, H a = some o → H1 a = some o := fun a o e => by
    rw [← hH1, upd_ne (fun z => by subst z; rw [hq] at e; cases e)]; exact e
  refine ⟨.list (ns.map .int), .list [], .lst (SqL.of hg1) (RepAll.dp (F := fun _ => False) _ _ (RepAll.ofInts ns)), .lst (SqL.of hq1) .nil, PySem.W.shaped_ints ns, rfl, _, rfl, ?_⟩
  have after : ∀ {H2 : Hp}, AfterDraw p g H1 H2 → AfterDraw p g H H2 := fun {H2} a => ⟨a.ok, fun b o e n1 n2 => a.keep b o (k1 b o e) n1 n2, fun b o e => a.live b o (k1 b o e)⟩
  cases ns using List.rec with
  | nil =>
    refine iteF ?_
    refine wb_of pss_nil ?_
    exact draw_tail S hp1 hg1 hne hns hl h1 h2 h3 hm hm2 fun r H' a r1 r2 => hQ r H' (after a) r1 r2
  | cons n0 nr _ =>
    refine iteT ?_
    obtain ⟨ms, c, em⟩ : ∃ ms c, n0 :: nr = ms ++ [c] := ⟨(n0 :: nr).dropLast, (n0 :: nr).getLast (by simp), (List.dropLast_concat_getLast (by simp)).symm⟩
    rw [em] at hg1 hns hl
    rw [List.map_append] at hg1
    have hc : 0 ≤ c := hns c (by simp)
    refine wb_of (pss_cons (ps_set (i := 3) nd (by rw [S.n]; rfl) (.inl S.l3) (pe_bm0 PySem.F.plainAttrs_list PySem.F.slot_list_pop PySem.F.type_list_pop mt_pop (v2 S) rfl hl1) rfl (.inr S.l3)) pb_w) ?_
    refine ⟨_, rfl, .inl ⟨rfl, _, SqL.of hg1⟩, g, _, V.int c, rfl, rfl, hg1, by simp, ?_⟩
    have e1 : (List.map V.int ms ++ List.map V.int [c]).dropLast = ms.map V.int := by
      show (List.map V.int ms ++ [V.int c]).dropLast = _
      rw [List.dropLast_concat]
    rw [e1]
    generalize hH2 : upd H1 g (.lst (ms.map V.int)) = H2
    have hp2 : H2 p = some (.dK (potKv g sl tn)) := by rw [← hH2, upd_ne hne]; exact hp1
    have hg2 : H2 g = some (.lst (ms.map V.int)) := by rw [← hH2]; exact upd_same
    have hms : ∀ n ∈ ms, 0 ≤ n := fun n h => hns n (List.mem_append_left _ h)
    have hlm : ms.length ≤ 61 := by simp at hl; omega
    have last : ∀ {D' : Ends} {H3 : Hp} {ns' : List Int}, D'.rt = D.rt → H3 p = some (.dK (potKv g sl tn)) → H3 g = some (.lst (ns'.map V.int)) → (∀ n ∈ ns', 0 ≤ n) → ns'.length ≤ 62 → (∀ a, a ≠ g → H3 a = H1 a) →
        wB X [.Return (some (.BinOp (.Call (.Name "int" q24) [(.Name "cell" q25)] [] q26) .Mod (.Name "many" q27) q28)) q29] D' [some (.ref p), some (.int m), some (.ref g), some (.int c), none] H3 := fun {D' H3 ns'} a0 a1 a2 a3 a4 a5 => by
      refine wb_of (pss_one (ps_ret (pe_op op_mod (pe_ty1 S (v3 S) rfl) (v1 S)))) ?_
      refine ⟨_, rfl, .inl ⟨_, rfl, _, rfl, _, _, rfl, rfl, hm, ?_⟩⟩
      have b := lt0 hm c
      show D'.rt (.int (c % m)) H3
      rw [a0]
      refine hQ _ H3 ⟨⟨ns', sl, tn, a1, a2, a3, a4, h1, h2, h3⟩, fun a o e n1 n2 => by rw [a5 a n2]; exact k1 a o e, fun a o e => ?_⟩ b.1 b.2
      by_cases z : a = g
      · subst z; exact ⟨_, a2⟩
      · exact ⟨o, by rw [a5 a z]; exact k1 a o e⟩
    show wB X _ _ [some (.ref p), some (.int m), some (.ref g), some (.int c), none] H2
    refine wb_of (pss_cons (ps_if (pt_cmpR op_ge (v3 S) (v1 S) rfl) pb_w pb_w) pb_w) ?_
    refine ⟨_, rfl, _, rfl, c, m, rfl, rfl, _, rfl, ?_⟩
    by_cases hcm : m ≤ c
    · rw [decide_eq_true hcm]
      refine iteT ?_
      refine wb_of (pss_one (ps_expr (pe_bm PySem.F.plainAttrs_list PySem.F.slot_list_append PySem.F.type_list_append mt_append (v2 S) (pa_cons (pe_op op_fdiv (v3 S) (v1 S)) pa_nil rfl) rfl (few1 rfl) hl2 rfl rfl) rfl)) ?_
      refine ⟨_, rfl, .inl ⟨rfl, _, SqL.of hg2⟩, _, rfl, _, rfl, c, m, rfl, rfl, ⟨hm, hm2⟩, g, _, V.int (c / m), rfl, rfl, hg2, by rw [List.length_map, sizeLine_eq]; omega, ?_⟩
      have e2 : List.map V.int ms ++ [V.int (c / m)] = (ms ++ [c / m]).map V.int := by simp
      rw [e2]
      refine last rfl (by rw [upd_ne hne]; exact hp2) upd_same (fun n h => ?_) (by simp; omega) fun a z => by rw [upd_ne z, ← hH2, upd_ne z]
      rcases List.mem_append.mp h with h | h
      · exact hms n h
      · rw [List.mem_singleton.mp h]; exact Int.ediv_nonneg hc (by omega)
    · rw [decide_eq_false hcm]
      refine iteF ?_
      refine wb_of pss_nil ?_
      exact last rfl hp2 hg2 hms (by omega) fun a z => by rw [← hH2, upd_ne z]
end
end Ev
set_option Elab.async false
set_option linter.all false
set_option maxRecDepth 100000
/-! Ev14: reckoning with readings. -/
namespace Ev
open PySem PySem.Spec PyProof.Rows L2

abbrev I (i : Int) : PyData := .int i
abbrev T (xs : List PyData) : PyData := .tuple xs
/-- a tuple of ints -/
abbrev TI (xs : List Int) : PyData := .tuple (xs.map .int)

@[simp] theorem get_v {env : Env} {x : Val} : Rv.get env (.v x) = some x := rfl
@[simp] theorem get_si {env : Env} {i : Nat} : Rv.get env (.s i) = (match env[i]? with
    | some (some x) => some x
    | _ => none) := rfl
@[simp] theorem sh_own {xs : List PyData} {env : Env} {Φ} : shR (.v (.own xs)) env Φ = Φ (.d (.list xs)) env := rfl
@[simp] theorem sh_d {x : PyData} {env : Env} {Φ} : shR (.v (.d x)) env Φ = Φ (.d x) env := rfl
@[simp] theorem sh_pot {env : Env} {Φ} : shR (.v .pot) env Φ = Φ .pot env := rfl
@[simp] theorem sh_s {i : Nat} {env : Env} {Φ} : shR (.s i) env Φ = (match env[i]? with
  | some (some (.own xs)) => Φ (.d (.list xs)) (env.set i (some (.d (.list xs))))
  | some (some (.d x)) => Φ (.d x) env
  | some (some .pot) => Φ .pot env
  | _ => False) := rfl
@[simp] theorem toI_i {i : Int} : toI (.d (.int i)) = some i := rfl
@[simp] theorem toI_t {xs} : toI (.d (.tuple xs)) = none := rfl
@[simp] theorem toI_l {xs} : toI (.d (.list xs)) = none := rfl
@[simp] theorem toI_o {xs} : toI (.own xs) = none := rfl
@[simp] theorem toI_s {xs} : toI (.d (.str xs)) = none := rfl
@[simp] theorem toB_b {b : Bool} : toB (.d (.bool b)) = some b := rfl
@[simp] theorem toL_o {xs} : toL (.own xs) = some xs := rfl
@[simp] theorem toL_l {xs} : toL (.d (.list xs)) = some xs := rfl
@[simp] theorem toL_t {xs} : toL (.d (.tuple xs)) = none := rfl
@[simp] theorem toL_i {i} : toL (.d (.int i)) = none := rfl
@[simp] theorem toL_s {i} : toL (.d (.str i)) = none := rfl
@[simp] theorem toT_t {xs} : toT (.d (.tuple xs)) = some xs := rfl
@[simp] theorem toT_o {xs} : toT (.own xs) = none := rfl
@[simp] theorem toT_l {xs} : toT (.d (.list xs)) = none := rfl
@[simp] theorem toT_i {i} : toT (.d (.int i)) = none := rfl
@[simp] theorem toT_s {i} : toT (.d (.str i)) = none := rfl
@[simp] theorem toS_t {xs} : toS (.d (.tuple xs)) = some xs := rfl
@[simp] theorem toS_o {xs} : toS (.own xs) = some xs := rfl
@[simp] theorem toS_l {xs} : toS (.d (.list xs)) = some xs := rfl
@[simp] theorem toS_i {i} : toS (.d (.int i)) = none := rfl
@[simp] theorem toD_d {x} : toD (.d x) = some x := rfl
@[simp] theorem toD_o {x} : toD (.own x) = some (.list x) := rfl
@[simp] theorem datas_nil : datas [] = some [] := rfl
@[simp] theorem datas_cons {x r} : datas (.d x :: r) = (datas r).map fun t => x :: t := rfl
@[simp] theorem isn_none : isNone (.d .none) = true := rfl
@[simp] theorem isn_t {xs} : isNone (.d (.tuple xs)) = false := rfl
@[simp] theorem isn_s {xs} : isNone (.d (.str xs)) = false := rfl
@[simp] theorem isn_b {xs} : isNone (.d (.bool xs)) = false := rfl
@[simp] theorem isn_i {xs} : isNone (.d (.int xs)) = false := rfl
@[simp] theorem truth_b {b} : truth (.d (.bool b)) = some b := rfl
@[simp] theorem truth_i {b} : truth (.d (.int b)) = some (b != 0) := rfl
@[simp] theorem truth_t {b} : truth (.d (.tuple b)) = some (!b.isEmpty) := rfl
@[simp] theorem truth_l {b} : truth (.d (.list b)) = some (!b.isEmpty) := rfl
@[simp] theorem truth_o {b} : truth (.own b) = some (!b.isEmpty) := rfl
/-! operators on known kinds -/
@[simp] theorem add_i {a b : Int} {Φ} : oAdd (.d (.int a)) (.d (.int b)) Φ ↔ Φ (.d (.int (a + b))) := by simp [oAdd, oCatT, oCatL, oCatS]
@[simp] theorem add_t {a b} {Φ} : oAdd (.d (.tuple a)) (.d (.tuple b)) Φ ↔ a.length + b.length ≤ 16777216 ∧ Φ (.d (.tuple (a ++ b))) := by simp [oAdd, oCatT, oCatL, oCatS]
@[simp] theorem add_oo {a b} {Φ} : oAdd (.own a) (.own b) Φ ↔ a.length + b.length ≤ 16777216 ∧ Φ (.own (a ++ b)) := by simp [oAdd, oCatT, oCatL, oCatS]
@[simp] theorem add_ol {a b} {Φ} : oAdd (.own a) (.d (.list b)) Φ ↔ a.length + b.length ≤ 16777216 ∧ Φ (.own (a ++ b)) := by simp [oAdd, oCatT, oCatL, oCatS]
@[simp] theorem add_lo {a b} {Φ} : oAdd (.d (.list a)) (.own b) Φ ↔ a.length + b.length ≤ 16777216 ∧ Φ (.own (a ++ b)) := by simp [oAdd, oCatT, oCatL, oCatS]
@[simp] theorem add_ll {a b} {Φ} : oAdd (.d (.list a)) (.d (.list b)) Φ ↔ a.length + b.length ≤ 16777216 ∧ Φ (.own (a ++ b)) := by simp [oAdd, oCatT, oCatL, oCatS]
@[simp] theorem mul_i {a b : Int} {Φ} : oMul (.d (.int a)) (.d (.int b)) Φ ↔ CM a b ∧ Φ (.d (.int (a * b))) := by simp [oMul, oRepL, oRepT, oRepF]
theorem flat_one (n : Nat) (x : PyData) : (List.replicate n [x]).flatten = List.replicate n x := by
  induction n with
  | zero => rfl
  | succ n ih => rw [List.replicate_succ, List.flatten_cons, ih]; rfl
/-- (x,) * n -/
theorem mul_one {x : PyData} {n : Nat} {Φ : Val → Prop} (hn : n ≤ 1000) (h : Φ (.d (.tuple (List.replicate n x)))) : oMul (.d (.tuple [x])) (.d (.int n)) Φ := by
  rcases Nat.lt_or_ge n 2 with h2 | h2
  · refine .inr (.inr (.inr ⟨[x], n, rfl, rfl, ?_⟩))
    rcases (show n = 0 ∨ n = 1 by omega) with rfl | rfl
    · exact .inr ⟨by omega, by omega, by simp, h⟩
    · exact .inl ⟨rfl, h⟩
  · refine .inr (.inr (.inl ⟨[x], n, rfl, rfl, by simp, by omega, by omega, by simp, ?_⟩))
    rw [Int.toNat_natCast, flat_one]
    exact h
/-- [x] * n -/
theorem mul_oneL {x : PyData} {n : Nat} {Φ : Val → Prop} (hn : n ≤ 16777216) (h : Φ (.own (List.replicate n x))) : oMul (.own [x]) (.d (.int n)) Φ := by
  refine .inr (.inl ⟨[x], n, rfl, rfl, by omega, by omega, by simp; omega, ?_⟩)
  rw [Int.toNat_natCast, flat_one]
  exact h
@[simp] theorem div_i {a b : Int} {Φ} : oDiv (.d (.int a)) (.d (.int b)) Φ ↔ CDiv a b ∧ Φ (.d (.int (a / b))) := by simp [oDiv]
@[simp] theorem is_none {v} {Φ} : oIs v (.d .none) Φ ↔ Φ (.d (.bool (isNone v))) := by simp [oIs]
@[simp] theorem isnot_none {v} {Φ} : oIsNot v (.d .none) Φ ↔ Φ (.d (.bool (!isNone v))) := by simp [oIsNot]
@[simp] theorem is_bool {a b} {Φ} : oIs (.d (.bool a)) (.d (.bool b)) Φ ↔ Φ (.d (.bool (decide (a = b)))) := by simp [oIs]
@[simp] theorem isnot_bool {a b} {Φ} : oIsNot (.d (.bool a)) (.d (.bool b)) Φ ↔ Φ (.d (.bool (!decide (a = b)))) := by simp [oIsNot]
@[simp] theorem sl_t {xs lo hi} {Φ} : oSl (.d (.tuple xs)) lo hi Φ ↔ Φ (.d (.tuple (cutD xs lo hi))) := by simp [oSl]
@[simp] theorem sl_l {xs lo hi} {Φ} : oSl (.d (.list xs)) lo hi Φ ↔ Φ (.own (cutD xs lo hi)) := by simp [oSl]
@[simp] theorem sl_o {xs lo hi} {Φ} : oSl (.own xs) lo hi Φ ↔ Φ (.own (cutD xs lo hi)) := by simp [oSl]
theorem cm_small {a b : Int} (h : -(2 ^ 64) < a ∧ a < 2 ^ 64) : CM a b := .inl (.inl h)
theorem cm_small' {a b : Int} (h : -(2 ^ 64) < b ∧ b < 2 ^ 64) : CM a b := .inl (.inr h)

/-! ### loops -/
theorem forW_inv {dt : DT} {b : DS} {K : KE} (J : List PyData → Env → Prop) (hnil : ∀ env, J [] env → K.nx env)
    (hstep : ∀ x xs env, J (x :: xs) env → ∀ N : Env → Prop, (∀ e, J xs e → N e) → dt x env fun e1 => b { nx := N, ct := N, bk := K.nx, rt := K.rt } e1) :
    ∀ (l : List PyData) (env : Env), J l env → forW dt b K l env
  | [], env, h => hnil env h
  | x :: xs, env, h => hstep x xs env h _ fun e he => forW_inv J hnil hstep xs e he
/-- over items that are f of something; the state is told by what is left -/
theorem forW_map {α : Type} {dt : DT} {b : DS} {K : KE} (f : α → PyData) (J : List α → Env → Prop) (hnil : ∀ env, J [] env → K.nx env)
    (hstep : ∀ x xs env, J (x :: xs) env → ∀ N : Env → Prop, (∀ e, J xs e → N e) → dt (f x) env fun e1 => b { nx := N, ct := N, bk := K.nx, rt := K.rt } e1) :
    ∀ (l : List α) (env : Env), J l env → forW dt b K (l.map f) env
  | [], env, h => hnil env h
  | x :: xs, env, h => hstep x xs env h _ fun e he => forW_map f J hnil hstep xs e he
theorem forW_range' {dt : DT} {b : DS} {K : KE} (f : Nat → PyData) (n : Nat) (J : Nat → Env → Prop) (hnil : ∀ env, J n env → K.nx env)
    (hstep : ∀ i, i < n → ∀ env, J i env → ∀ N : Env → Prop, (∀ e, J (i + 1) e → N e) → dt (f i) env fun e1 => b { nx := N, ct := N, bk := K.nx, rt := K.rt } e1) :
    ∀ (m i : Nat) (env : Env), i + m = n → J i env → forW dt b K ((List.range' i m).map f) env
  | 0, i, env, e, h => hnil env (by rw [← e]; exact h)
  | m + 1, i, env, e, h => by
    rw [List.range'_succ]
    exact hstep i (by omega) env h _ fun e' he => forW_range' f n J hnil hstep m (i + 1) e' (by omega) he
theorem forW_range {dt : DT} {b : DS} {K : KE} (f : Nat → PyData) (n : Nat) (J : Nat → Env → Prop) (hnil : ∀ env, J n env → K.nx env)
    (hstep : ∀ i, i < n → ∀ env, J i env → ∀ N : Env → Prop, (∀ e, J (i + 1) e → N e) → dt (f i) env fun e1 => b { nx := N, ct := N, bk := K.nx, rt := K.rt } e1) (env : Env) (h : J 0 env) :
    forW dt b K ((List.range n).map f) env := by
  rw [List.range_eq_range']
  exact forW_range' f n J hnil hstep n 0 env (by omega) h
theorem ix_nat {n i : Nat} (h : i < n) : ixN n (i : Int) = some i := by
  unfold ixN
  rw [if_pos (by omega), if_pos (by omega)]
  simp
theorem at_nat {α : Type} {xs : List α} {i : Nat} {x : α} (h : xs[i]? = some x) : atI xs (i : Int) = some x := by
  unfold atI
  rw [ix_nat (List.getElem?_eq_some_iff.mp h).1]
  exact h
/-- a comprehension that leaves the names as they are -/
theorem compW_map {α : Type} {dt : DT} {dc : DB} {de : DO} {vs : List Nat} {Φ : List PyData → Env → Prop} {env : Env} (f : α → PyData) (p : α → Bool) (g : α → PyData) :
    ∀ (l : List α) (acc : List PyData), acc.length + l.length ≤ 16777216 →
    (∀ x ∈ l, ∀ (N : PyData → Env → Prop) (S : Env → Prop), (p x = true → N (g x) env) → (p x = false → S env) →
      dt (f x) env fun e1 => dc e1 fun k e2 => (k = true → de e2 fun r e3 => shR r e3 fun v e4 => ∃ d, v = .d d ∧ N d (wipeE e4 vs)) ∧ (k = false → S (wipeE e2 vs))) →
    Φ (acc ++ (l.filter p).map g) env → compW dt dc de vs (l.map f) env acc Φ
  | [], acc, _, _, h => by simpa [compW] using h
  | x :: xs, acc, hl, hs, h => by
    have hl' : acc.length + (xs.length + 1) ≤ 16777216 := by simpa using hl
    have := hs x (List.mem_cons_self ..) (fun d e => acc.length < 16777216 ∧ compW dt dc de vs (xs.map f) e (acc ++ [d]) Φ) (fun e => compW dt dc de vs (xs.map f) e acc Φ)
      (fun hp => ⟨by omega, compW_map f p g xs (acc ++ [g x]) (by simp; omega) (fun y hy => hs y (List.mem_cons_of_mem _ hy)) (by simpa [List.filter_cons, hp] using h)⟩)
      (fun hp => compW_map f p g xs acc (by omega) (fun y hy => hs y (List.mem_cons_of_mem _ hy)) (by simpa [List.filter_cons, hp] using h))
    exact this
/-- without a test -/
theorem compW_all {α : Type} {dt : DT} {de : DO} {vs : List Nat} {Φ : List PyData → Env → Prop} {env : Env} (f : α → PyData) (g : α → PyData) (l : List α) (hl : l.length ≤ 16777216)
    (hs : ∀ x ∈ l, ∀ (N : PyData → Env → Prop), N (g x) env → dt (f x) env fun e1 => de e1 fun r e3 => shR r e3 fun v e4 => ∃ d, v = .d d ∧ N d (wipeE e4 vs))
    (h : Φ (l.map g) env) : compW dt dYes de vs (l.map f) env [] Φ :=
  compW_map f (fun _ => true) g l [] (by simpa using hl) (fun x hx N S hN hS => by simpa using hs x hx N (hN rfl)) (by
    have e : l.filter (fun _ => true) = l := List.filter_eq_self.mpr fun _ _ => rfl
    rw [e]; exact h)
end Ev
set_option Elab.async false
set_option linter.all false
set_option maxRecDepth 100000
/-! V1: rows of bits. -/
namespace Ev
open PySem PySem.Spec PyProof.Rows L2

/-! ### items of known kinds -/
theorem zip_ints (xs ys : List Int) : zipD (xs.map .int) (ys.map .int) = (xs.zip ys).map fun p => PyData.tuple [.int p.1, .int p.2] := by
  unfold zipD
  rw [List.zip_map, List.map_map]; rfl
def Bits (xs : List Int) : Prop := ∀ b ∈ xs, b = 0 ∨ b = 1
theorem Bits.nil : Bits [] := fun _ h => by cases h
theorem Bits.app {xs ys : List Int} (h : Bits xs) (h' : Bits ys) : Bits (xs ++ ys) := fun b hb => (List.mem_append.mp hb).elim (h b) (h' b)
theorem Bits.head {x : Int} {xs : List Int} (h : Bits (x :: xs)) : x = 0 ∨ x = 1 := h x (List.mem_cons_self ..)
theorem Bits.tail {x : Int} {xs : List Int} (h : Bits (x :: xs)) : Bits xs := fun b hb => h b (List.mem_cons_of_mem _ hb)

/-! ### row_place -/
def placeF (a : Int) (xs : List Int) : Int := xs.foldl (fun a b => 2 * a + b) a
/-- a list is as good as a tuple here -/
def tupled : Val → Val
  | .d (.list xs) => .d (.tuple xs)
  | v => v
@[simp] theorem tupled_tup (xs : List PyData) : tupled (.d (.tuple xs)) = .d (.tuple xs) := rfl
@[simp] theorem tupled_lst (xs : List PyData) : tupled (.d (.list xs)) = .d (.tuple xs) := rfl
theorem tupled_inv {v : Val} {xs : List PyData} (h : tupled v = .d (.tuple xs)) : v = .d (.tuple xs) ∨ v = .d (.list xs) := by
  unfold tupled at h
  split at h
  · cases h; exact .inr rfl
  · exact .inl h
def sp_row_place : FSpec := fun args Φ => ∃ xs : List Int, args.map tupled = [.d (TI xs)] ∧ Φ (.d (.int (placeF 0 xs)))
def D_row_place : DS := (dSeq (dSet 1 (dC (.int 0))) (dSeq (dFor (dSeqI (dVar 0)) (tName 2) (dSeq (dSet 1 (dBin oAdd (dBin oMul (dC (.int 2)) (dVar 1)) (dVar 2))) dNext)) (dSeq (dRet (dVar 1)) dNext)))
theorem v_row_place (args : List Val) (Φ : Val → Prop) (h : sp_row_place args Φ) : D_row_place (kRet Φ) (envS ["row", "found", "bit"] args) := by
  obtain ⟨xs, ha, hΦ⟩ := h
  obtain ⟨v, rfl⟩ : ∃ v, args = [v] := List.length_eq_one_iff.mp (by simpa using congrArg List.length ha)
  have hv : tupled v = .d (TI xs) := by simpa using ha
  have go : ∀ e0 : Val, forW (tName 2) (dSeq (dSet 1 (dBin oAdd (dBin oMul (dC (.int 2)) (dVar 1)) (dVar 2))) dNext) { nx := fun e => dSeq (dRet (dVar 1)) dNext (kRet Φ) e, rt := Φ, bk := fun _ => False, ct := fun _ => False } (xs.map .int) [some e0, some (.d (.int 0)), none] := fun e0 => by
    refine forW_map PyData.int (fun r e => ∃ a z, e = [some e0, some (.d (.int a)), z] ∧ placeF a r = placeF 0 xs) ?_ ?_ xs _ ⟨0, none, rfl, rfl⟩
    · rintro e ⟨a, z, rfl, h⟩
      have h : a = placeF 0 xs := h
      simpa [h] using hΦ
    · rintro x r e ⟨a, z, rfl, h⟩ N hN
      simp
      exact ⟨cm_small (by omega), hN _ ⟨_, _, rfl, h⟩⟩
  rcases tupled_inv hv with rfl | rfl
  · have := go (.d (TI xs))
    simp [D_row_place, envS]
    exact this
  · have := go (.d (.list (xs.map .int)))
    simp [D_row_place, envS]
    exact this

/-! ### row_at -/
def rowAt : Nat → Int → List Int
  | 0, _ => []
  | n + 1, p => rowAt n (p / 2) ++ [p % 2]
theorem rowAt_length : ∀ (n : Nat) (p : Int), (rowAt n p).length = n
  | 0, _ => rfl
  | n + 1, p => by simp [rowAt, rowAt_length n]
def sp_row_at : FSpec := fun args Φ => ∃ (n : Nat) (p : Int), args = [.d (.int n), .d (.int p)] ∧ n ≤ 1000 ∧ Φ (.d (TI (rowAt n p)))
def D_row_at : DS := (dSeq (dSet 2 (dLst dNil)) (dSeq (dFor (dRng1 (dCons (dVar 0) dNil)) (tName 3) (dSeq (dExpr (dApp 2 (dBin oMod (dVar 1) (dC (.int 2))))) (dSeq (dSet 1 (dBin oDiv (dVar 1) (dC (.int 2)))) dNext))) (dSeq (dRet (dUn oTuple (dUn oRev (dVar 2)))) dNext)))
theorem v_row_at (args : List Val) (Φ : Val → Prop) (h : sp_row_at args Φ) : D_row_at (kRet Φ) (envS ["n", "place", "found", "step"] args) := by
  obtain ⟨n, p, rfl, hn, hΦ⟩ := h
  simp [D_row_at, envS]
  refine ⟨by omega, ?_⟩
  refine forW_map (fun i : Nat => PyData.int i) (fun r e => ∃ (q : Int) (ds : List Int) (z : Option Val), e = [some (.d (.int n)), some (.d (.int q)), some (.own (ds.map .int)), z] ∧ ds.length + r.length = n ∧ rowAt r.length q ++ ds.reverse = rowAt n p) ?_ ?_ (List.range n) _ ⟨p, [], none, rfl, by simp, by simp⟩
  · rintro e ⟨q, ds, z, rfl, h1, h2⟩
    have h2 : ds.reverse = rowAt n p := h2
    simp
    rw [← List.map_reverse, h2]
    exact hΦ
  · rintro x r e ⟨q, ds, z, rfl, h1, h2⟩ N hN
    simp at h1 ⊢
    refine ⟨by omega, ⟨by decide, by decide⟩, hN _ ⟨q / 2, ds ++ [q % 2], _, by simp; rfl, by simp; omega, ?_⟩⟩
    rw [← h2]
    simp [rowAt]

/-! ### rows_added, rows_product -/
def addR (xs ys : List Int) : List Int := (xs.zip ys).map fun p => (p.1 + p.2) % 2
def sp_rows_added : FSpec := fun args Φ => ∃ xs ys : List Int, args = [.d (TI xs), .d (TI ys)] ∧ xs.length ≤ 1000 ∧ Φ (.d (TI (addR xs ys)))
def D_rows_added : DS := (dSeq (dRet (dUn oTuple (dLc [2, 3] (dZip (dCons (dVar 0) (dCons (dVar 1) dNil))) (tTup 2 (tCons (tName 2) (tCons (tName 3) tNil))) dYes (dBin oMod (dBin oAdd (dVar 2) (dVar 3)) (dC (.int 2)))))) dNext)
theorem v_rows_added (args : List Val) (Φ : Val → Prop) (h : sp_rows_added args Φ) : D_rows_added (kRet Φ) (envS ["one", "other", "a", "b"] args) := by
  obtain ⟨xs, ys, rfl, hl, hΦ⟩ := h
  simp [D_rows_added, envS, and_assoc]
  rw [zip_ints]
  refine compW_all _ (fun p : Int × Int => .int ((p.1 + p.2) % 2)) _ (by simp; omega) (fun x hx N hN => ?_) ?_
  · simpa [wipeE, and_assoc] using hN
  · simp only [TI, addR, List.map_map] at hΦ
    exact hΦ
def prodR (xs ys : List Int) : Int := ((xs.zip ys).map fun p => p.1 * p.2).sum % 2
def sp_rows_product : FSpec := fun args Φ => ∃ xs ys : List Int, args = [.d (TI xs), .d (TI ys)] ∧ xs.length ≤ 1000 ∧ Bits xs ∧ Φ (.d (.int (prodR xs ys)))
def D_rows_product : DS := (dSeq (dRet (dBin oMod (dUn oSum (dLc [2, 3] (dZip (dCons (dVar 0) (dCons (dVar 1) dNil))) (tTup 2 (tCons (tName 2) (tCons (tName 3) tNil))) dYes (dBin oMul (dVar 2) (dVar 3)))) (dC (.int 2)))) dNext)
theorem v_rows_product (args : List Val) (Φ : Val → Prop) (h : sp_rows_product args Φ) : D_rows_product (kRet Φ) (envS ["one", "other", "a", "b"] args) := by
  obtain ⟨xs, ys, rfl, hl, hb, hΦ⟩ := h
  simp [D_rows_product, envS, and_assoc]
  rw [zip_ints]
  refine compW_all _ (fun p : Int × Int => .int (p.1 * p.2)) _ (by simp; omega) (fun x hx N hN => ?_) ?_
  · simp [wipeE, and_assoc]
    refine ⟨cm_small ?_, hN⟩
    rcases hb x.1 (List.of_mem_zip hx).1 with h | h <;> rw [h] <;> omega
  · simp [backE, oSum]
    refine ⟨(xs.zip ys).map fun p => p.1 * p.2, by simp, ?_⟩
    simpa [prodR] using hΦ

/-! ### all_rows -/
def rowsN : Nat → List (List Int)
  | 0 => [[]]
  | n + 1 => (rowsN n).flatMap fun r => [r ++ [0], r ++ [1]]
theorem rowsN_length : ∀ n, (rowsN n).length = 2 ^ n
  | 0 => rfl
  | n + 1 => by
    have e : ∀ l : List (List Int), (l.flatMap fun r => [r ++ [(0 : Int)], r ++ [1]]).length = 2 * l.length := fun l => by
      induction l with
      | nil => rfl
      | cons x l ih => simp [List.flatMap_cons, ih]; omega
    rw [rowsN, e, rowsN_length n, Nat.pow_succ]; omega
theorem rowsN_row : ∀ {n : Nat} {r : List Int}, r ∈ rowsN n → r.length = n ∧ Bits r
  | 0, r, h => by simp [rowsN] at h; subst h; exact ⟨rfl, .nil⟩
  | n + 1, r, h => by
    simp [rowsN] at h
    obtain ⟨q, hq, h⟩ := h
    obtain ⟨h1, h2⟩ := rowsN_row hq
    rcases h with rfl | rfl
    · exact ⟨by simp [h1], h2.app fun b hb => by simp at hb; exact .inl hb⟩
    · exact ⟨by simp [h1], h2.app fun b hb => by simp at hb; exact .inr hb⟩
def grow1 (rs : List (List Int)) : List (List Int) := rs.flatMap fun r => [r ++ [0], r ++ [1]]
def sp_all_rows : FSpec := fun args Φ => ∃ n : Nat, args = [.d (.int n)] ∧ n ≤ 12 ∧ Φ (.d (T ((rowsN n).map TI)))
def D_all_rows : DS := (dSeq (dSet 1 (dLst (dCons (dTup dNil) dNil))) (dSeq (dFor (dRng1 (dCons (dVar 0) dNil)) (tName 2) (dSeq (dSet 3 (dLst dNil)) (dSeq (dFor (dSeqI (dVar 1)) (tName 4) (dSeq (dExpr (dExt 3 (dLst (dCons (dBin oAdd (dVar 4) (dTup (dCons (dC (.int 0)) dNil))) (dCons (dBin oAdd (dVar 4) (dTup (dCons (dC (.int 1)) dNil))) dNil))))) dNext)) (dSeq (dSet 1 (dVar 3)) dNext)))) (dSeq (dRet (dUn oTuple (dVar 1))) dNext)))
/-- the inner loop over rows -/
theorem rows_inner {K : KE} {n : Val} {st : Option Val} {k : Nat} (hk : k ≤ 12) (rs : List (List Int)) (hr : rs = rowsN k) (h : ∀ z, K.nx [some n, some (.d (.list (rs.map TI))), st, some (.own ((rowsN (k + 1)).map TI)), z]) (z0 : Option Val) :
    forW (tName 4) (dSeq (dExpr (dExt 3 (dLst (dCons (dBin oAdd (dVar 4) (dTup (dCons (dC (.int 0)) dNil))) (dCons (dBin oAdd (dVar 4) (dTup (dCons (dC (.int 1)) dNil))) dNil))))) dNext) K (rs.map TI) [some n, some (.d (.list (rs.map TI))), st, some (.own []), z0] := by
  have len : (rowsN k).length ≤ 4096 := by rw [rowsN_length]; exact Nat.pow_le_pow_right (by decide) hk
  refine forW_map TI (fun r e => ∃ (done : List (List Int)) (z : Option Val), e = [some n, some (.d (.list (rs.map TI))), st, some (.own ((grow1 done).map TI)), z] ∧ done ++ r = rs) ?_ ?_ rs _ ⟨[], z0, rfl, rfl⟩
  · rintro e ⟨done, z, rfl, h2⟩
    simp at h2
    have := h z
    rw [rowsN, ← hr, ← h2] at this
    rw [h2] at this ⊢
    exact this
  · rintro x r e ⟨done, z, rfl, h2⟩ N hN
    have hx : x ∈ rowsN k := by rw [← hr, ← h2]; simp
    have hx1 := (rowsN_row hx).1
    have hd : done.length ≤ 4096 := by
      have : done.length ≤ rs.length := by rw [← h2]; simp
      rw [hr] at this; omega
    have hg : (grow1 done).length ≤ 8192 := by
      have e : ∀ l : List (List Int), (grow1 l).length = 2 * l.length := fun l => by
        induction l with
        | nil => rfl
        | cons x l ih => simp [grow1, List.flatMap_cons] at ih ⊢; omega
      rw [e]; omega
    simp
    refine ⟨by omega, by omega, ?_⟩
    refine hN _ ⟨done ++ [x], some (.d (TI x)), ?_, by simpa using h2⟩
    simp [grow1]
theorem v_all_rows (args : List Val) (Φ : Val → Prop) (h : sp_all_rows args Φ) : D_all_rows (kRet Φ) (envS ["n", "found", "step", "longer", "row"] args) := by
  obtain ⟨n, rfl, hn, hΦ⟩ := h
  simp [D_all_rows, envS]
  refine ⟨by omega, ?_⟩
  refine forW_map (fun i : Nat => PyData.int i) (fun r e => ∃ (k : Nat) (v : Val) (z1 z2 z3 : Option Val), e = [some (.d (.int n)), some v, z1, z2, z3] ∧ toL v = some ((rowsN k).map TI) ∧ toS v = some ((rowsN k).map TI) ∧ k + r.length = n) ?_ ?_ (List.range n) _ ⟨0, _, none, none, none, rfl, rfl, rfl, by simp⟩
  · rintro e ⟨k, v, z1, z2, z3, rfl, h1, h2, h3⟩
    simp at h3
    subst h3
    simp [h2]
    exact hΦ
  · rintro x r e ⟨k, v, z1, z2, z3, rfl, h1, h2, h3⟩ N hN
    simp at h3
    cases v with
    | own xs =>
      cases h1
      simp
      exact rows_inner (by omega) _ rfl (fun z => by simp; exact hN _ ⟨k + 1, _, _, _, _, rfl, rfl, rfl, by omega⟩) z3
    | d d =>
      cases d with
      | list xs =>
        cases h1
        simp
        exact rows_inner (by omega) _ rfl (fun z => by simp; exact hN _ ⟨k + 1, _, _, _, _, rfl, rfl, rfl, by omega⟩) z3
      | _ => cases h1
    | _ => cases h1
end Ev
set_option Elab.async false
set_option linter.all false
set_option maxRecDepth 100000
/-! M1: sums over all rows, spectra, shifts: plain. -/
namespace Ev

/-! ### sums -/
def sumN : Nat → (Nat → Int) → Int
  | 0, _ => 0
  | n + 1, f => sumN n f + f n
theorem sumN_congr {f g : Nat → Int} : ∀ {n : Nat}, (∀ i, i < n → f i = g i) → sumN n f = sumN n g
  | 0, _ => rfl
  | n + 1, h => by rw [sumN, sumN, sumN_congr (n := n) fun i hi => h i (by omega), h n (by omega)]
theorem sumN_add (a : Nat) (f : Nat → Int) : ∀ b, sumN (a + b) f = sumN a f + sumN b fun i => f (a + i)
  | 0 => by simp [sumN]
  | b + 1 => by rw [← Nat.add_assoc, sumN, sumN, sumN_add a f b]; omega
theorem sumN_plus (f g : Nat → Int) : ∀ n, (sumN n fun i => f i + g i) = sumN n f + sumN n g
  | 0 => rfl
  | n + 1 => by simp only [sumN]; rw [sumN_plus f g n]; omega
theorem sumN_minus (f g : Nat → Int) : ∀ n, (sumN n fun i => f i - g i) = sumN n f - sumN n g
  | 0 => rfl
  | n + 1 => by simp only [sumN]; rw [sumN_minus f g n]; omega
theorem sumN_mul (c : Int) (f : Nat → Int) : ∀ n, (sumN n fun i => c * f i) = c * sumN n f
  | 0 => by simp [sumN]
  | n + 1 => by simp only [sumN]; rw [sumN_mul c f n, Int.mul_add]
theorem sumN_const (c : Int) : ∀ n, (sumN n fun _ => c) = n * c
  | 0 => by simp [sumN]
  | n + 1 => by simp only [sumN]; rw [sumN_const c n]; push_cast; rw [Int.add_mul]; omega
theorem sumN_list (f : Nat → Int) : ∀ n, ((List.range n).map f).sum = sumN n f
  | 0 => rfl
  | n + 1 => by rw [List.range_succ, List.map_append, List.sum_append, sumN_list f n]; simp [sumN]
theorem sumN_two (n : Nat) (f : Nat → Int) : sumN (2 ^ (n + 1)) f = sumN (2 ^ n) f + sumN (2 ^ n) fun i => f (i + 2 ^ n) := by
  have e : 2 ^ (n + 1) = 2 ^ n + 2 ^ n := by rw [Nat.pow_succ]; omega
  rw [e, sumN_add]
  congr 1
  exact sumN_congr fun i _ => by rw [Nat.add_comm]
def tab (n : Nat) (f : Nat → Int) : List Int := (List.range n).map f
theorem tab_length (n : Nat) (f : Nat → Int) : (tab n f).length = n := by simp [tab]
theorem tab_congr {n : Nat} {f g : Nat → Int} (h : ∀ i, i < n → f i = g i) : tab n f = tab n g := by
  unfold tab
  exact List.map_congr_left fun i hi => h i (List.mem_range.mp hi)
theorem tab_get {n : Nat} {f : Nat → Int} {i : Nat} (h : i < n) : (tab n f)[i]? = some (f i) := by
  simp [tab, h]
theorem tab_sum (n : Nat) (f : Nat → Int) : (tab n f).sum = sumN n f := sumN_list f n
theorem tab_of (l : List Int) : l = tab l.length fun i => l.getD i 0 := by
  apply List.ext_getElem?
  intro i
  by_cases h : i < l.length
  · rw [tab_get h]; simp [List.getD, h]
  · rw [List.getElem?_eq_none (by omega), List.getElem?_eq_none (by rw [tab_length]; omega)]
theorem tab_set {n : Nat} {f : Nat → Int} {p : Nat} {x : Int} : (tab n f).set p x = tab n fun i => if i = p then x else f i := by
  apply List.ext_getElem?
  intro i
  rw [List.getElem?_set]
  by_cases h : i < n
  · rw [tab_get h, tab_length]
    by_cases e : p = i
    · subst e; rw [tab_get h]; simp [h]
    · rw [if_neg e, tab_get h, if_neg (Ne.symm e)]
  · rw [tab_length]
    rw [List.getElem?_eq_none (l := tab n _) (by rw [tab_length]; omega), List.getElem?_eq_none (l := tab n _) (by rw [tab_length]; omega)]
    split <;> simp_all
theorem tab_map {n : Nat} {f : Nat → Int} {g : Int → Int} : (tab n f).map g = tab n fun i => g (f i) := by
  simp [tab]
theorem tab_zip {n : Nat} {f g : Nat → Int} {h : Int × Int → Int} : ((tab n f).zip (tab n g)).map h = tab n fun i => h (f i, g i) := by
  simp [tab, List.zip_map']

/-! ### bits of places -/
theorem tb_low {k b j m : Nat} (hj : j < 2 ^ k) : (j + b * 2 ^ k).testBit m = if m < k then j.testBit m else b.testBit (m - k) := by
  rw [show j + b * 2 ^ k = 2 ^ k * b + j by rw [Nat.mul_comm b]; omega, Nat.testBit_two_pow_mul_add _ hj]
/-- a place with its bit k turned -/
theorem xor_up {k b j : Nat} (hj : j < 2 ^ k) : (j + (2 * b) * 2 ^ k) ^^^ 2 ^ k = j + (2 * b + 1) * 2 ^ k := by
  apply Nat.eq_of_testBit_eq
  intro m
  rw [Nat.testBit_xor, tb_low hj, tb_low hj, Nat.testBit_two_pow]
  by_cases h : m < k
  · simp [h, show ¬ k = m by omega]
  · simp only [h, if_false]
    by_cases e : k = m
    · subst e; simp
    · obtain ⟨t, ht⟩ : ∃ t, m - k = t + 1 := ⟨m - k - 1, by omega⟩
      rw [ht]
      simp [e, Nat.testBit_succ]
      congr 1
      omega
theorem xor_down {k b j : Nat} (hj : j < 2 ^ k) : (j + (2 * b + 1) * 2 ^ k) ^^^ 2 ^ k = j + (2 * b) * 2 ^ k := by
  rw [← xor_up hj, Nat.xor_assoc, Nat.xor_self, Nat.xor_zero]
theorem split_bit (k i : Nat) : ∃ j b, j < 2 ^ k ∧ (i = j + (2 * b) * 2 ^ k ∧ i.testBit k = false ∨ i = j + (2 * b + 1) * 2 ^ k ∧ i.testBit k = true) := by
  have hp : 0 < 2 ^ k := Nat.two_pow_pos k
  have hj : i % 2 ^ k < 2 ^ k := Nat.mod_lt _ hp
  have hi : i = i % 2 ^ k + (i / 2 ^ k) * 2 ^ k := by
    have := Nat.div_add_mod i (2 ^ k)
    rw [Nat.mul_comm] at this
    omega
  refine ⟨i % 2 ^ k, i / 2 ^ k / 2, hj, ?_⟩
  have tb : i.testBit k = (i / 2 ^ k).testBit 0 := by
    have := tb_low (b := i / 2 ^ k) (m := k) hj
    rw [← hi] at this
    simpa using this
  rcases Nat.mod_two_eq_zero_or_one (i / 2 ^ k) with h | h
  · refine .inl ⟨?_, by rw [tb]; simp [Nat.testBit_zero, h]⟩
    rw [show 2 * (i / 2 ^ k / 2) = i / 2 ^ k by omega]; exact hi
  · refine .inr ⟨?_, by rw [tb]; simp [Nat.testBit_zero, h]⟩
    rw [show 2 * (i / 2 ^ k / 2) + 1 = i / 2 ^ k by omega]; exact hi
theorem xor_add_top {n x d : Nat} (hx : x < 2 ^ n) (hd : d < 2 ^ n) : (x + 2 ^ n) ^^^ d = (x ^^^ d) + 2 ^ n ∧ x ^^^ (d + 2 ^ n) = (x ^^^ d) + 2 ^ n ∧ (x + 2 ^ n) ^^^ (d + 2 ^ n) = x ^^^ d := by
  have hxd : x ^^^ d < 2 ^ n := Nat.xor_lt_two_pow hx hd
  have e : ∀ y, y + 2 ^ n = y + 1 * 2 ^ n := fun y => by omega
  have z : ∀ {y m}, y < 2 ^ n → ¬ m < n → y.testBit m = false := fun hy hm => Nat.testBit_lt_two_pow (Nat.lt_of_lt_of_le hy (Nat.pow_le_pow_right (by decide) (by omega)))
  refine ⟨?_, ?_, ?_⟩ <;> (apply Nat.eq_of_testBit_eq; intro m; simp only [e, Nat.testBit_xor, tb_low hx, tb_low hd, tb_low hxd]; by_cases h : m < n)
  all_goals simp [h]
  all_goals (have a1 := z hd h; have a2 := z hx h; simp_all)

/-! ### the step of one letter -/
def stepB (k : Nat) (f : Nat → Int) : Nat → Int := fun i => if i.testBit k = true then f (i ^^^ 2 ^ k) - f i else f i + f (i ^^^ 2 ^ k)
theorem stepB_comm (k l : Nat) (f : Nat → Int) : stepB k (stepB l f) = stepB l (stepB k f) := by
  by_cases e : k = l
  · subst e; rfl
  funext i
  have h1 : (i ^^^ 2 ^ k).testBit l = i.testBit l := by rw [Nat.testBit_xor, Nat.testBit_two_pow]; simp [e]
  have h2 : (i ^^^ 2 ^ l).testBit k = i.testBit k := by rw [Nat.testBit_xor, Nat.testBit_two_pow]; simp [Ne.symm e]
  have h3 : i ^^^ 2 ^ k ^^^ 2 ^ l = i ^^^ 2 ^ l ^^^ 2 ^ k := by rw [Nat.xor_assoc, Nat.xor_comm (2 ^ k), ← Nat.xor_assoc]
  simp only [stepB, h1, h2, h3]
  cases i.testBit k <;> cases i.testBit l <;> simp <;> omega
theorem stepB_lo {k b j : Nat} (hj : j < 2 ^ k) (f : Nat → Int) : stepB k f (j + (2 * b) * 2 ^ k) = f (j + (2 * b) * 2 ^ k) + f (j + (2 * b + 1) * 2 ^ k) := by
  have h : (j + (2 * b) * 2 ^ k).testBit k = false := by rw [tb_low hj]; simp
  unfold stepB
  rw [h, xor_up hj]; rfl
theorem stepB_hi {k b j : Nat} (hj : j < 2 ^ k) (f : Nat → Int) : stepB k f (j + (2 * b + 1) * 2 ^ k) = f (j + (2 * b) * 2 ^ k) - f (j + (2 * b + 1) * 2 ^ k) := by
  have h : (j + (2 * b + 1) * 2 ^ k).testBit k = true := by rw [tb_low hj]; simp
  unfold stepB
  rw [h, xor_down hj]; rfl

/-! ### spectra -/
def hat : Nat → (Nat → Int) → Nat → Int
  | 0, f, _ => f 0
  | n + 1, f, s => if s.testBit n = true then hat n (fun x => f x - f (x + 2 ^ n)) s else hat n (fun x => f x + f (x + 2 ^ n)) s
theorem hat_congr : ∀ {n : Nat} {f g : Nat → Int} {s : Nat}, (∀ x, x < 2 ^ n → f x = g x) → hat n f s = hat n g s
  | 0, f, g, s, h => h 0 (by decide)
  | n + 1, f, g, s, h => by
    have p : 2 ^ (n + 1) = 2 ^ n + 2 ^ n := by rw [Nat.pow_succ]; omega
    simp only [hat]
    rw [hat_congr (n := n) (f := fun x => f x - f (x + 2 ^ n)) (g := fun x => g x - g (x + 2 ^ n)) fun x hx => by rw [h x (by omega), h (x + 2 ^ n) (by omega)],
      hat_congr (n := n) (f := fun x => f x + f (x + 2 ^ n)) (g := fun x => g x + g (x + 2 ^ n)) fun x hx => by rw [h x (by omega), h (x + 2 ^ n) (by omega)]]
theorem hat_low : ∀ {n : Nat} {f : Nat → Int} {s t : Nat}, (∀ k, k < n → s.testBit k = t.testBit k) → hat n f s = hat n f t
  | 0, f, s, t, h => rfl
  | n + 1, f, s, t, h => by
    simp only [hat]
    rw [h n (by omega), hat_low (n := n) (s := s) (t := t) fun k hk => h k (by omega), hat_low (n := n) (s := s) (t := t) fun k hk => h k (by omega)]
theorem hat_plus : ∀ (n : Nat) (f g : Nat → Int) (s : Nat), hat n (fun x => f x + g x) s = hat n f s + hat n g s
  | 0, f, g, s => rfl
  | n + 1, f, g, s => by
    by_cases hb : s.testBit n = true
    · simp only [hat, hb, if_true]
      rw [← hat_plus n]; exact hat_congr fun x _ => by omega
    · simp only [hat, hb, if_false, Bool.false_eq_true]
      rw [← hat_plus n]; exact hat_congr fun x _ => by omega
theorem hat_mul : ∀ (n : Nat) (c : Int) (f : Nat → Int) (s : Nat), hat n (fun x => c * f x) s = c * hat n f s
  | 0, c, f, s => rfl
  | n + 1, c, f, s => by
    simp only [hat]
    split
    · rw [← hat_mul n]; exact hat_congr fun x _ => by rw [Int.mul_sub]
    · rw [← hat_mul n]; exact hat_congr fun x _ => by rw [Int.mul_add]
theorem hat_neg (n : Nat) (f : Nat → Int) (s : Nat) : hat n (fun x => -f x) s = -hat n f s := by
  rw [show (fun x => -f x) = fun x => (-1) * f x by funext x; omega, hat_mul]; omega
theorem hat_minus (n : Nat) (f g : Nat → Int) (s : Nat) : hat n (fun x => f x - g x) s = hat n f s - hat n g s := by
  rw [show (fun x => f x - g x) = fun x => f x + (fun y => -g y) x by funext x; show f x - g x = f x + -g x; omega, hat_plus, hat_neg]; omega
/-- all letters, from the first -/
def stepsB : Nat → (Nat → Int) → (Nat → Int)
  | 0, f => f
  | n + 1, f => stepsB n (stepB n f)
theorem stepsB_hat : ∀ (n : Nat) (f : Nat → Int) (c s : Nat), s < 2 ^ n → stepsB n f (s + c * 2 ^ n) = hat n (fun x => f (x + c * 2 ^ n)) s
  | 0, f, c, s, h => by
    have : s = 0 := by simp at h; exact h
    subst this; simp [stepsB, hat]
  | n + 1, f, c, s, h => by
    have p : 2 ^ (n + 1) = 2 ^ n + 2 ^ n := by rw [Nat.pow_succ]; omega
    have q : ∀ x, x * 2 ^ (n + 1) = (2 * x) * 2 ^ n := fun x => by rw [Nat.pow_succ, Nat.mul_comm 2 x, Nat.mul_assoc, Nat.mul_comm 2]
    simp only [stepsB]
    by_cases hs : s < 2 ^ n
    · rw [q, stepsB_hat n _ (2 * c) s hs]
      have tb : s.testBit n = false := Nat.testBit_lt_two_pow hs
      simp only [hat, tb, Bool.false_eq_true, if_false]
      refine hat_congr fun x hx => ?_
      rw [stepB_lo hx, show x + 2 ^ n + 2 * c * 2 ^ n = x + (2 * c + 1) * 2 ^ n by rw [Nat.add_mul]; omega]
    · obtain ⟨t, rfl⟩ : ∃ t, s = t + 2 ^ n := ⟨s - 2 ^ n, by omega⟩
      have ht : t < 2 ^ n := by omega
      rw [q, show t + 2 ^ n + 2 * c * 2 ^ n = t + (2 * c + 1) * 2 ^ n by rw [Nat.add_mul]; omega, stepsB_hat n _ (2 * c + 1) t ht]
      have tb : (t + 2 ^ n).testBit n = true := by
        have := tb_low (b := 1) (m := n) ht
        rw [Nat.one_mul] at this
        rw [this]; simp
      simp only [hat, tb, if_true]
      rw [hat_low (n := n) (s := t + 2 ^ n) (t := t) fun k hk => by
        have := tb_low (b := 1) (m := k) ht
        rw [Nat.one_mul] at this
        rw [this, if_pos hk]]
      refine hat_congr fun x hx => ?_
      rw [stepB_hi hx, show x + 2 ^ n + 2 * c * 2 ^ n = x + (2 * c + 1) * 2 ^ n by rw [Nat.add_mul]; omega]
theorem stepsB_eq {n : Nat} {f : Nat → Int} {s : Nat} (h : s < 2 ^ n) : stepsB n f s = hat n f s := by
  have := stepsB_hat n f 0 s h
  simpa using this
theorem hat_top {n : Nat} {f : Nat → Int} {s : Nat} (h : s < 2 ^ n) : hat (n + 1) f s = hat n (fun x => f x + f (x + 2 ^ n)) s ∧ hat (n + 1) f (s + 2 ^ n) = hat n (fun x => f x - f (x + 2 ^ n)) s := by
  have tb0 : s.testBit n = false := Nat.testBit_lt_two_pow h
  have tb : ∀ m, (s + 2 ^ n).testBit m = if m < n then s.testBit m else (1 : Nat).testBit (m - n) := fun m => by
    have := tb_low (b := 1) (m := m) h
    rwa [Nat.one_mul] at this
  constructor
  · simp only [hat, tb0, Bool.false_eq_true, if_false]
  · have tb1 : (s + 2 ^ n).testBit n = true := by rw [tb]; simp
    simp only [hat, tb1, if_true]
    exact hat_low fun k hk => by rw [tb, if_pos hk]
/-- the sums of shifts, by spectra -/
theorem hat_conv : ∀ (n : Nat) (f g : Nat → Int) (d : Nat), d < 2 ^ n → hat n (fun s => hat n f s * hat n g s) d = 2 ^ n * sumN (2 ^ n) fun x => f x * g (x ^^^ d)
  | 0, f, g, d, h => by
    have : d = 0 := by simp at h; exact h
    subst this; simp [hat, sumN]
  | n + 1, f, g, d, h => by
    have p : 2 ^ (n + 1) = 2 ^ n + 2 ^ n := by rw [Nat.pow_succ]; omega
    have ih := fun f g d h => hat_conv n f g d h
    have pw : (2 : Int) ^ (n + 1) = 2 * 2 ^ n := by rw [Int.pow_succ]; omega
    by_cases hs : d < 2 ^ n
    · rw [(hat_top hs).1, sumN_two]
      rw [hat_congr (g := fun s => 2 * (hat n f s * hat n g s + hat n (fun x => f (x + 2 ^ n)) s * hat n (fun x => g (x + 2 ^ n)) s)) fun s hs' => by
        rw [(hat_top hs').1, (hat_top hs').2, (hat_top hs').1, (hat_top hs').2, hat_plus, hat_minus, hat_plus, hat_minus]
        grind]
      rw [hat_mul, hat_plus, ih _ _ d hs, ih _ _ d hs, pw]
      rw [sumN_congr (f := fun i => f (i + 2 ^ n) * g ((i + 2 ^ n) ^^^ d)) (g := fun i => f (i + 2 ^ n) * g ((i ^^^ d) + 2 ^ n)) fun i hi => by rw [(xor_add_top hi hs).1]]
      grind
    · obtain ⟨t, rfl⟩ : ∃ t, d = t + 2 ^ n := ⟨d - 2 ^ n, by omega⟩
      have ht : t < 2 ^ n := by omega
      rw [(hat_top ht).2, sumN_two]
      rw [hat_congr (g := fun s => 2 * (hat n f s * hat n (fun x => g (x + 2 ^ n)) s + hat n (fun x => f (x + 2 ^ n)) s * hat n g s)) fun s hs' => by
        rw [(hat_top hs').1, (hat_top hs').2, (hat_top hs').1, (hat_top hs').2, hat_plus, hat_minus, hat_plus, hat_minus]
        grind]
      rw [hat_mul, hat_plus, ih _ _ t ht, ih _ _ t ht, pw]
      rw [sumN_congr (f := fun i => f (i + 2 ^ n) * g ((i + 2 ^ n) ^^^ (t + 2 ^ n))) (g := fun i => f (i + 2 ^ n) * g (i ^^^ t)) fun i hi => by rw [(xor_add_top hi ht).2.2]]
      rw [sumN_congr (f := fun i => f i * g (i ^^^ (t + 2 ^ n))) (g := fun i => f i * g ((i ^^^ t) + 2 ^ n)) fun i hi => by rw [(xor_add_top hi ht).2.1]]
      grind
end Ev
set_option Elab.async false
set_option linter.all false
set_option maxRecDepth 100000
/-! V2: spectra. -/
namespace Ev
open PySem PySem.Spec PyProof.Rows L2

theorem isi_i {i : Int} : isi "int" (.d (.int i)) = some true := rfl
theorem isi_ib {i : Int} : isi "bool" (.d (.int i)) = some false := by simp [isi, tyName]
theorem isi_t {xs} : isi "tuple" (.d (.tuple xs)) = some true := rfl
theorem isi_lt {xs} : isi "tuple" (.d (.list xs)) = some false := by simp [isi, tyName]
theorem isi_ot {xs} : isi "tuple" (.own xs) = some false := by simp [isi, tyName]
def sp_is_integer : FSpec := fun args Φ => ∃ i : Int, args = [.d (.int i)] ∧ Φ (.d (.bool true))
def D_is_integer : DS := (dSeq (dRet (dAndV (dUn (oIsi "int") (dVar 0)) (dNotV (dUn (oIsi "bool") (dVar 0))))) dNext)
theorem v_is_integer (args : List Val) (Φ : Val → Prop) (h : sp_is_integer args Φ) : D_is_integer (kRet Φ) (envS ["value"] args) := by
  obtain ⟨i, rfl, hΦ⟩ := h
  simp [D_is_integer, envS, oIsi, isi_i, isi_ib, hΦ]
theorem seq_ints (xs : List Int) : seqD (TI xs) = some (xs.map .int) := rfl
theorem truIs_trues : ∀ n, truIs (List.replicate n (.bool true)) = some (List.replicate n true)
  | 0 => rfl
  | n + 1 => by
    show (truI (.bool true)).bind (fun b => (truIs (List.replicate n (.bool true))).map fun r => b :: r) = _
    rw [truIs_trues n]; rfl
theorem all_trues : ∀ n, (List.replicate n true).all id = true
  | 0 => rfl
  | n + 1 => by simp
theorem oEq_int {a b : Int} {Φ} : oEq (.d (.int a)) (.d (.int b)) Φ ↔ Φ (.d (.bool (decide (a = b)))) := by
  simp [oEq, oEqD, oEqS, PyData.eqv]
  have h : ∀ i, SeqAt.shaped (.int i) = true := fun i => rfl
  simp [h]
  by_cases e : a = b
  · simp [e]
  · have e2 : (a == b) = false := by simp [e]
    simp [e, e2]
theorem oNe_int {a b : Int} {Φ} : oNe (.d (.int a)) (.d (.int b)) Φ ↔ Φ (.d (.bool (!decide (a = b)))) := by
  simp [oNe, oNeD, oNeS, PyData.eqv]
  have h : ∀ i, SeqAt.shaped (.int i) = true := fun i => rfl
  simp [h]
  by_cases e : a = b
  · simp [e]
  · have e2 : (a == b) = false := by simp [e]
    simp [e, e2]
def sp_are_integers : FSpec := fun args Φ => ∃ (xs : List Int) (m : Int), args = [.d (TI xs), .d (.int m)] ∧ xs.length ≤ 16777216 ∧ Φ (.d (.bool (decide ((xs.length : Int) = m))))
def D_are_integers : DS := (dSeq (dRet (dAndV (dUn (oIsi "tuple") (dVar 0)) (dAndV (dBin oEq (dUn oLen (dVar 0)) (dVar 1)) (dUn oAll (dLc [2] (dSeqI (dVar 0)) (tName 2) dYes (dCall 1 sp_is_integer (dCons (dVar 2) dNil))))))) dNext)
theorem v_are_integers (args : List Val) (Φ : Val → Prop) (h : sp_are_integers args Φ) : D_are_integers (kRet Φ) (envS ["value", "many", "item"] args) := by
  obtain ⟨xs, m, rfl, hl, hΦ⟩ := h
  by_cases e : (xs.length : Int) = m
  · simp [D_are_integers, envS, oIsi, isi_t, oEq_int, e]
    refine compW_all PyData.int (fun _ => .bool true) xs hl (fun x hx N hN => ?_) ?_
    · simpa [wipeE, sp_is_integer] using hN
    · simp [oAll]
      rw [List.map_const']
      refine ⟨_, truIs_trues _, ?_⟩
      rw [decide_eq_true e] at hΦ
      simpa [all_trues] using hΦ
  · simp [D_are_integers, envS, oIsi, isi_t, oEq_int, e]
    rw [decide_eq_false e] at hΦ
    exact hΦ
def sp_signs_of : FSpec := fun args Φ => ∃ xs : List Int, args = [.d (TI xs)] ∧ xs.length ≤ 16777216 ∧ Φ (.d (TI (xs.map fun b => 1 - 2 * b)))
def D_signs_of : DS := (dSeq (dRet (dUn oTuple (dLc [1] (dSeqI (dVar 0)) (tName 1) dYes (dBin oSub (dC (.int 1)) (dBin oMul (dC (.int 2)) (dVar 1)))))) dNext)
theorem v_signs_of (args : List Val) (Φ : Val → Prop) (h : sp_signs_of args Φ) : D_signs_of (kRet Φ) (envS ["table", "bit"] args) := by
  obtain ⟨xs, rfl, hl, hΦ⟩ := h
  simp [D_signs_of, envS]
  refine compW_all PyData.int (fun b => .int (1 - 2 * b)) xs hl (fun x hx N hN => ?_) ?_
  · simp [wipeE]
    exact ⟨cm_small (by omega), hN⟩
  · simp only [TI, List.map_map] at hΦ
    exact hΦ

/-! ### the step of a letter -/
theorem stepped_get {N : Nat} {f : Nat → Int} {i : Nat} (h : i < N) : atI ((tab N f).map PyData.int) (i : Int) = some (.int (f i)) :=
  at_nat (by rw [List.getElem?_map, tab_get h]; rfl)
theorem rgC_step {s q : Nat} (hs : 0 < s) (hn : q * s ≤ 16777216) (hq : 0 < q) : RgC 0 ((q * s : Nat) : Int) (s : Int) q := by
  have h1 : s ≤ q * s := Nat.le_mul_of_pos_left s hq
  have e0 : q * s = (s - 1) + s * (q - 1) + 1 := by
    rw [Nat.mul_sub, Nat.mul_one, Nat.mul_comm q s]
    have : s ≤ s * q := by rw [Nat.mul_comm]; exact h1
    omega
  generalize q * s = M at *
  have q1 : q ≤ M := by
    have : q - 1 ≤ s * (q - 1) := Nat.le_mul_of_pos_left _ hs
    omega
  have sz : Builtin.Range.rangeSize 0 (M : Int) (s : Int) = q := by
    unfold Builtin.Range.rangeSize
    rw [if_pos (by omega), if_pos (by omega)]
    have e : (M : Int) - 0 - 1 = ((s - 1 : Nat) : Int) + (s : Int) * ((q - 1 : Nat) : Int) := by
      have : (M : Int) = ((s - 1 + s * (q - 1) + 1 : Nat) : Int) := by rw [← e0]
      rw [this]; push_cast; omega
    rw [e, Int.add_mul_ediv_left _ _ (by omega), Int.ediv_eq_zero_of_lt (by omega) (by omega)]
    omega
  refine ⟨by omega, by omega, ?_, sz⟩
  unfold Builtin.Range.small
  simp [sz, Builtin.Range.rangeFitsLong, hs]
  omega
def sp_stepped : FSpec := fun args Φ => ∃ (k q s N : Nat) (f : Nat → Int), args = [.d (TI (tab N f)), .d (.int s)] ∧ s = 2 ^ k ∧ N = q * (2 * s) ∧ N ≤ 16777216 ∧ 0 < q ∧ Φ (.d (TI (tab N (stepB k f))))
def D_stepped : DS := (dSeq (dSet 2 (dUn oList (dVar 0))) (dSeq (dFor (dRng3 (dCons (dC (.int 0)) (dCons (dUn oLen (dVar 0)) (dCons (dBin oMul (dC (.int 2)) (dVar 1)) dNil)))) (tName 3) (dSeq (dFor (dRng2 (dCons (dVar 3) (dCons (dBin oAdd (dVar 3) (dVar 1)) dNil))) (tName 4) (dSeq (dPar2 5 6 (dBin oIxS (dVar 0) (dVar 4)) (dBin oIxS (dVar 0) (dBin oAdd (dVar 4) (dVar 1)))) (dSeq (dAsg (tTup 2 (tCons (tSub 2 (dVar 4)) (tCons (tSub 2 (dBin oAdd (dVar 4) (dVar 1))) tNil))) (dTup (dCons (dBin oAdd (dVar 5) (dVar 6)) (dCons (dBin oSub (dVar 5) (dVar 6)) dNil)))) dNext))) dNext)) (dSeq (dRet (dUn oTuple (dVar 2))) dNext)))
def mixB (k s b j : Nat) (f : Nat → Int) : Nat → Int := fun i => if i < b * (2 * s) + j ∨ (b * (2 * s) + s ≤ i ∧ i < b * (2 * s) + s + j) then stepB k f i else f i
theorem v_stepped (args : List Val) (Φ : Val → Prop) (h : sp_stepped args Φ) : D_stepped (kRet Φ) (envS ["values", "stride", "found", "begin", "place", "one", "other"] args) := by
  obtain ⟨k, q, s, N, f, rfl, hs, hN, hl, hq, hΦ⟩ := h
  have s0 : 0 < s := by rw [hs]; exact Nat.two_pow_pos k
  simp [D_stepped, envS, and_assoc]
  refine ⟨cm_small (by omega), q, ?_, ?_⟩
  · have := rgC_step (s := 2 * s) (q := q) (by omega) (by rw [← hN]; exact hl) hq
    rw [← hN] at this
    rw [tab_length]
    simpa using this
  refine forW_range _ q (fun b e => ∃ z3 z4 z5 z6, e = [some (.d (TI (tab N f))), some (.d (.int s)), some (.own ((tab N (mixB k s b 0 f)).map .int)), z3, z4, z5, z6]) ?_ ?_ _ ⟨none, none, none, none, ?_⟩
  · rintro e ⟨z3, z4, z5, z6, rfl⟩
    simp
    have : tab N (mixB k s q 0 f) = tab N (stepB k f) := tab_congr fun i hi => by
      unfold mixB
      rw [if_pos (.inl (by omega))]
    rw [this]
    exact hΦ
  · rintro b hb e ⟨z3, z4, z5, z6, rfl⟩ Nx hNx
    simp [and_assoc]
    have hbs : b * (2 * s) + 2 * s ≤ N := by
      rw [hN]
      have := Nat.mul_le_mul_right (2 * s) (show b + 1 ≤ q by omega)
      rw [Nat.add_mul] at this; omega
    have eb : (b : Int) * (2 * (s : Int)) = ((b * (2 * s) : Nat) : Int) := by push_cast; rfl
    rw [eb]
    generalize hB : b * (2 * s) = B at *
    refine ⟨by omega, by omega, by omega, by omega, ?_⟩
    rw [show ((B : Int) + s - B).toNat = s by omega]
    refine forW_range _ s (fun j e => ∃ z4 z5 z6, e = [some (.d (TI (tab N f))), some (.d (.int s)), some (.own ((tab N (mixB k s b j f)).map .int)), some (.d (.int B)), z4, z5, z6]) ?_ ?_ _ ⟨_, _, _, rfl⟩
    · rintro e ⟨z4, z5, z6, rfl⟩
      refine hNx _ ⟨some (.d (.int B)), z4, z5, z6, ?_⟩
      have : tab N (mixB k s b s f) = tab N (mixB k s (b + 1) 0 f) := tab_congr fun i hi => by
        unfold mixB
        have : (b + 1) * (2 * s) = B + 2 * s := by rw [Nat.add_mul, hB]; omega
        rw [this, hB]
        by_cases h : i < B + s ∨ (B + s ≤ i ∧ i < B + s + s)
        · rw [if_pos h, if_pos (by omega)]
        · rw [if_neg h, if_neg (by omega)]
      rw [this]
    · rintro j hj e ⟨z4, z5, z6, rfl⟩ Ny hNy
      have g1 : atI ((tab N f).map PyData.int) ((B : Int) + j) = some (.int (f (B + j))) := by
        have := stepped_get (N := N) (f := f) (i := B + j) (by omega); push_cast at this; exact this
      have g2 : atI ((tab N f).map PyData.int) ((B : Int) + j + s) = some (.int (f (B + j + s))) := by
        have := stepped_get (N := N) (f := f) (i := B + j + s) (by omega); push_cast at this; exact this
      have i1 : ixN N ((B : Int) + j) = some (B + j) := by
        have := ix_nat (n := N) (i := B + j) (by omega); push_cast at this; exact this
      have i2 : ixN N ((B : Int) + j + s) = some (B + j + s) := by
        have := ix_nat (n := N) (i := B + j + s) (by omega); push_cast at this; exact this
      simp [and_assoc, g1, g2, tab_length, i1, i2]
      have key : ((List.map PyData.int (tab N (mixB k s b j f))).set (B + j) (PyData.int (f (B + j) + f (B + j + s)))).set (B + j + s) (PyData.int (f (B + j) - f (B + j + s))) = (tab N (mixB k s b (j + 1) f)).map PyData.int := by
        rw [← List.map_set, ← List.map_set, tab_set, tab_set]
        congr 1
        refine tab_congr fun i hi => ?_
        have pB : B = (2 * b) * 2 ^ k := by rw [← hB, ← hs, ← Nat.mul_assoc, Nat.mul_comm b 2]
        have pS : B + j + s = j + (2 * b + 1) * 2 ^ k := by rw [Nat.add_mul, Nat.one_mul, ← hs, pB, ← hs]; omega
        have pJ : B + j = j + (2 * b) * 2 ^ k := by rw [pB]; omega
        have lo := stepB_lo (k := k) (b := b) (j := j) (by omega) f
        have hi2 := stepB_hi (k := k) (b := b) (j := j) (by omega) f
        rw [← pJ, ← pS] at lo hi2
        unfold mixB
        rw [hB]
        by_cases c1 : i = B + j + s
        · rw [if_pos c1, if_pos (by omega), c1, hi2]
        · rw [if_neg c1]
          by_cases c2 : i = B + j
          · rw [if_pos c2, if_pos (by omega), c2, lo]
          · rw [if_neg c2]
            by_cases c3 : i < B + j ∨ (B + s ≤ i ∧ i < B + s + j)
            · rw [if_pos c3, if_pos (by omega)]
            · rw [if_neg c3, if_neg (by omega)]
      rw [key]
      exact hNy _ ⟨_, _, _, rfl⟩
  · have : tab N (mixB k s 0 0 f) = tab N f := tab_congr fun i hi => by
      unfold mixB
      rw [if_neg (by omega)]
    rw [this]
end Ev
set_option Elab.async false
set_option linter.all false
set_option maxRecDepth 100000
/-! V3: spectra, shifts. -/
namespace Ev
open PySem PySem.Spec PyProof.Rows L2

theorem two_cast (n : Nat) : ((2 ^ n : Nat) : Int) = (2 : Int) ^ n := by push_cast; rfl
theorem two_le {a b : Nat} (h : a ≤ b) : 2 ^ a ≤ 2 ^ b := Nat.pow_le_pow_right (by decide) h
theorem half_pow (n : Nat) : 2 ^ (n + 1) / 2 = 2 ^ n := by rw [Nat.pow_succ]; omega
theorem cdiv2 : ∀ {a : Int}, CDiv a 2 := fun {a} => ⟨by decide, by decide⟩
theorem cdivN {a : Int} {n : Nat} (h : n ≤ 20) : CDiv a ((2 ^ n : Nat) : Int) := by
  have h1 : 2 ^ n ≤ 2 ^ 20 := two_le h
  have h2 : 0 < 2 ^ n := Nat.two_pow_pos n
  exact ⟨by omega, by omega⟩
def sp_letter_step : FSpec := fun args Φ => ∃ (n i : Nat) (f : Nat → Int), args = [.d (TI (tab (2 ^ n) f)), .d (.int i)] ∧ n ≤ 20 ∧ i < n ∧ Φ (.d (TI (tab (2 ^ n) (stepB (n - 1 - i) f))))
def D_letter_step : DS := (dSeq (dSet 2 (dUn oLen (dVar 0))) (dSeq (dFor (dRng1 (dCons (dBin oAdd (dVar 1) (dC (.int 1))) dNil)) (tName 3) (dSeq (dSet 2 (dBin oDiv (dVar 2) (dC (.int 2)))) dNext)) (dSeq (dRet (dCall 2 sp_stepped (dCons (dVar 0) (dCons (dVar 2) dNil)))) dNext)))
theorem v_letter_step (args : List Val) (Φ : Val → Prop) (h : sp_letter_step args Φ) : D_letter_step (kRet Φ) (envS ["values", "i", "stride", "step"] args) := by
  obtain ⟨n, i, f, rfl, hn, hi, hΦ⟩ := h
  simp [D_letter_step, envS, and_assoc, tab_length]
  refine ⟨by omega, by omega, ?_⟩
  refine forW_range _ (i + 1) (fun j e => ∃ z, e = [some (.d (TI (tab (2 ^ n) f))), some (.d (.int i)), some (.d (.int ((2 ^ (n - j) : Nat) : Int))), z]) ?_ ?_ _ ⟨none, by simp⟩
  · rintro e ⟨z, rfl⟩
    simp
    have q : 2 ^ n = 2 ^ i * (2 * 2 ^ (n - (i + 1))) := by
      rw [← Nat.pow_succ', ← Nat.pow_add]; congr 1; omega
    refine ⟨n - (i + 1), 2 ^ i, 2 ^ (n - (i + 1)), 2 ^ n, f, by simp, rfl, q, ?_, Nat.two_pow_pos _, ?_⟩
    · exact Nat.le_trans (two_le hn) (by decide)
    · rw [show n - (i + 1) = n - 1 - i by omega]; exact hΦ
  · rintro j hj e ⟨z, rfl⟩ N hN
    have e1 : ((2 ^ (n - j) : Nat) : Int) / 2 = ((2 ^ (n - (j + 1)) : Nat) : Int) := by
      rw [show n - j = n - (j + 1) + 1 by omega, Nat.pow_succ]; omega
    generalize ((2 ^ (n - j) : Nat) : Int) = a at *
    generalize ((2 ^ (n - (j + 1)) : Nat) : Int) = b at *
    simp
    rw [e1]
    exact ⟨cdiv2, hN _ ⟨_, rfl⟩⟩
def sp_led_through : FSpec := fun args Φ => ∃ (n : Nat) (f : Nat → Int), args = [.d (TI (tab (2 ^ n) f))] ∧ n ≤ 20 ∧ Φ (.d (TI (tab (2 ^ n) (hat n f))))
def D_led_through : DS := (dSeq (dSet 1 (dBin oDiv (dUn oLen (dVar 0)) (dC (.int 2)))) (dSeq (dWhile (dTst (dBin oGt (dVar 1) (dC (.int 0)))) (dSeq (dPar2 0 1 (dCall 2 sp_stepped (dCons (dVar 0) (dCons (dVar 1) dNil))) (dBin oDiv (dVar 1) (dC (.int 2)))) dNext)) (dSeq (dRet (dVar 0)) dNext)))
theorem led_loop {K : KE} {M : Nat} (hM : M ≤ 20) : ∀ (n : Nat) (f : Nat → Int), n ≤ M → (K.nx [some (.d (TI (tab (2 ^ M) (stepsB n f)))), some (.d (.int 0))]) →
    whileN (dTst (dBin oGt (dVar 1) (dC (.int 0)))) (dSeq (dPar2 0 1 (dCall 2 sp_stepped (dCons (dVar 0) (dCons (dVar 1) dNil))) (dBin oDiv (dVar 1) (dC (.int 2)))) dNext) K (n + 1) [some (.d (TI (tab (2 ^ M) f))), some (.d (.int ((2 ^ n / 2 : Nat) : Int)))]
  | 0, f, _, h => by simpa [whileN, stepsB] using h
  | n + 1, f, hn, h => by
    have ih := led_loop (K := K) hM n (stepB n f) (by omega) h
    rw [half_pow]
    have p : 0 < 2 ^ n := Nat.two_pow_pos n
    have e1 : ((2 ^ n : Nat) : Int) / 2 = ((2 ^ n / 2 : Nat) : Int) := by omega
    have q : 2 ^ M = 2 ^ (M - n - 1) * (2 * 2 ^ n) := by
      rw [← Nat.pow_succ', ← Nat.pow_add]; congr 1; omega
    have l : 2 ^ M ≤ 16777216 := Nat.le_trans (two_le hM) (by decide)
    have st : ∀ Ψ : Val → Prop, Ψ (.d (TI (tab (2 ^ M) (stepB n f)))) → sp_stepped [.d (TI (tab (2 ^ M) f)), .d (.int ((2 ^ n : Nat) : Int))] Ψ := fun Ψ hΨ => ⟨n, 2 ^ (M - n - 1), 2 ^ n, 2 ^ M, f, rfl, rfl, q, l, Nat.two_pow_pos _, hΨ⟩
    have gt : (0 : Int) < ((2 ^ n : Nat) : Int) := by omega
    generalize ((2 ^ n : Nat) : Int) = a at *
    generalize ((2 ^ n / 2 : Nat) : Int) = b at *
    rw [whileN]
    have ge : ¬ a ≤ 0 := by omega
    simp [gt, ge]
    refine st _ ?_
    rw [e1]
    exact ⟨cdiv2, ih⟩
theorem v_led_through (args : List Val) (Φ : Val → Prop) (h : sp_led_through args Φ) : D_led_through (kRet Φ) (envS ["values", "stride"] args) := by
  obtain ⟨n, f, rfl, hn, hΦ⟩ := h
  have e1 : ((2 ^ n : Nat) : Int) / 2 = ((2 ^ n / 2 : Nat) : Int) := by omega
  simp only [D_led_through, envS]
  have l := led_loop (K := { nx := fun e => dSeq (dRet (dVar 0)) dNext (kRet Φ) e, rt := Φ, bk := fun _ => False, ct := fun _ => False }) hn n f (Nat.le_refl _) (by
    simp
    rw [show tab (2 ^ n) (stepsB n f) = tab (2 ^ n) (hat n f) from tab_congr fun i hi => stepsB_eq hi]
    exact hΦ)
  have tl : ((tab (2 ^ n) f).length : Int) = ((2 ^ n : Nat) : Int) := by rw [tab_length]
  generalize ((2 ^ n : Nat) : Int) = a at *
  generalize ((2 ^ n / 2 : Nat) : Int) = b at *
  simp [tl, dWhile]
  rw [e1]
  exact ⟨cdiv2, n + 1, l⟩

/-! ### spectra of tables -/
def BitF (N : Nat) (t : Nat → Int) : Prop := ∀ i, i < N → t i = 0 ∨ t i = 1
def sg (t : Nat → Int) : Nat → Int := fun i => 1 - 2 * t i
def spec (n : Nat) (t : Nat → Int) : Nat → Int := hat n (sg t)
theorem hat_bound : ∀ {n : Nat} {f : Nat → Int} {c : Int} {s : Nat}, (∀ x, x < 2 ^ n → -c ≤ f x ∧ f x ≤ c) → -(2 ^ n * c) ≤ hat n f s ∧ hat n f s ≤ 2 ^ n * c
  | 0, f, c, s, h => by have := h 0 (by decide); simp [hat]; omega
  | n + 1, f, c, s, h => by
    have p : 2 ^ (n + 1) = 2 ^ n + 2 ^ n := by rw [Nat.pow_succ]; omega
    have pw : (2 : Int) ^ (n + 1) * c = 2 ^ n * (2 * c) := by rw [Int.pow_succ, Int.mul_assoc]
    rw [pw]
    simp only [hat]
    split
    · exact hat_bound fun x hx => by have a := h x (by omega); have b := h (x + 2 ^ n) (by omega); omega
    · exact hat_bound fun x hx => by have a := h x (by omega); have b := h (x + 2 ^ n) (by omega); omega
theorem spec_bound {n : Nat} {t : Nat → Int} {s : Nat} (h : BitF (2 ^ n) t) : -(2 ^ n) ≤ spec n t s ∧ spec n t s ≤ 2 ^ n := by
  have := hat_bound (n := n) (f := sg t) (c := 1) (s := s) fun x hx => by
    unfold sg
    rcases h x hx with e | e <;> rw [e] <;> omega
  simpa [spec] using this
theorem pow_lt64 {n : Nat} (h : n ≤ 20) : (2 : Int) ^ n ≤ 1048576 := by
  have := two_le h
  rw [← two_cast]
  have e : (2 : Nat) ^ 20 = 1048576 := by decide
  rw [e] at this
  omega
def sp_spectrum : FSpec := fun args Φ => ∃ (n : Nat) (t : Nat → Int), args = [.d (TI (tab (2 ^ n) t))] ∧ n ≤ 20 ∧ Φ (.d (TI (tab (2 ^ n) (spec n t))))
def D_spectrum : DS := (dSeq (dRet (dCall 1 sp_led_through (dCons (dCall 1 sp_signs_of (dCons (dVar 0) dNil)) dNil))) dNext)
theorem len20 {n : Nat} (h : n ≤ 20) : 2 ^ n ≤ 16777216 := Nat.le_trans (two_le h) (by decide)
theorem v_spectrum (args : List Val) (Φ : Val → Prop) (h : sp_spectrum args Φ) : D_spectrum (kRet Φ) (envS ["table"] args) := by
  obtain ⟨n, t, rfl, hn, hΦ⟩ := h
  simp [D_spectrum, envS]
  refine ⟨_, rfl, by rw [tab_length]; exact len20 hn, ?_⟩
  simp
  rw [tab_map]
  exact ⟨n, _, rfl, hn, hΦ⟩
def sp_spectrum_at : FSpec := fun args Φ => ∃ (n p : Nat) (t : Nat → Int) (xs : List Int), args = [.d (TI (tab (2 ^ n) t)), .d (TI xs)] ∧ n ≤ 20 ∧ placeF 0 xs = p ∧ p < 2 ^ n ∧ Φ (.d (.int (spec n t p)))
def D_spectrum_at : DS := (dSeq (dRet (dBin oIxS (dCall 1 sp_spectrum (dCons (dVar 0) dNil)) (dCall 1 sp_row_place (dCons (dVar 1) dNil)))) dNext)
theorem v_spectrum_at (args : List Val) (Φ : Val → Prop) (h : sp_spectrum_at args Φ) : D_spectrum_at (kRet Φ) (envS ["table", "s"] args) := by
  obtain ⟨n, p, t, xs, rfl, hn, hp, hp2, hΦ⟩ := h
  simp [D_spectrum_at, envS]
  refine ⟨n, t, rfl, hn, ?_⟩
  simp
  refine ⟨xs, rfl, ?_⟩
  simp [hp]
  exact ⟨_, stepped_get hp2, hΦ⟩

/-! ### the first place that is unlike -/
def sp_first_unlike : FSpec := fun args Φ => ∃ (N : Nat) (f g : Nat → Int), args = [.d (TI (tab N f)), .d (TI (tab N g))] ∧ ((∀ i, i < N → f i = g i) → Φ (.d .none)) ∧ ∀ p, p < N → (∀ i, i < p → f i = g i) → f p ≠ g p → Φ (.d (T [I p, I (g p)]))
def D_first_unlike : DS := (dSeq (dFor (dEnum (dCons (dVar 1) dNil)) (tTup 2 (tCons (tName 2) (tCons (tName 3) tNil))) (dSeq (dIfS (dTst (dBin oNe (dBin oIxS (dVar 0) (dVar 2)) (dVar 3))) (dSeq (dRet (dTup (dCons (dVar 2) (dCons (dVar 3) dNil)))) dNext) dNext) dNext)) (dSeq (dRet (dC .none)) dNext))
theorem enum_tab (N : Nat) (g : Nat → Int) : enumD ((tab N g).map .int) = (List.range N).map fun i => PyData.tuple [.int (i : Nat), .int (g i)] := by
  unfold enumD
  rw [List.length_map, tab_length]
  refine List.map_congr_left fun i hi => ?_
  have hi := List.mem_range.mp hi
  simp [List.getD, List.getElem?_map, tab_get hi]
theorem v_first_unlike (args : List Val) (Φ : Val → Prop) (h : sp_first_unlike args Φ) : D_first_unlike (kRet Φ) (envS ["value", "due", "place", "item"] args) := by
  obtain ⟨N, f, g, rfl, h1, h2⟩ := h
  simp [D_first_unlike, envS, enum_tab]
  refine forW_range _ N (fun j e => (∃ z1 z2, e = [some (.d (TI (tab N f))), some (.d (TI (tab N g))), z1, z2]) ∧ ∀ i, i < j → f i = g i) ?_ ?_ _ ⟨⟨_, _, rfl⟩, fun i hi => by omega⟩
  · rintro e ⟨⟨z1, z2, rfl⟩, hh⟩
    simp
    exact h1 hh
  · rintro j hj e ⟨⟨z1, z2, rfl⟩, hh⟩ M hM
    simp [and_assoc, stepped_get hj, oNe_int]
    by_cases c : f j = g j
    · simp [c]
      exact hM _ ⟨⟨_, _, rfl⟩, fun i hi => by
        by_cases e : i = j
        · rw [e]; exact c
        · exact hh i (by omega)⟩
    · simp [c]
      exact h2 j hj hh c
def placeErr (N : Nat) (f g : Nat → Int) (Φ : Val → Prop) : Prop := ((∀ i, i < N → f i = g i) → Φ (.d .none)) ∧ ∀ p, p < N → (∀ i, i < p → f i = g i) → f p ≠ g p → Φ (.d (T [.str "place", I p, I (g p)]))
def sp_spectrum_error : FSpec := fun args Φ => ∃ (n : Nat) (t v : Nat → Int), args = [.d (TI (tab (2 ^ n) t)), .d (TI (tab (2 ^ n) v))] ∧ n ≤ 20 ∧ placeErr (2 ^ n) v (spec n t) Φ
def D_spectrum_error : DS := (dSeq (dIfS (dNotT (dTru (dCall 2 sp_are_integers (dCons (dVar 1) (dCons (dUn oLen (dVar 0)) dNil))))) (dSeq (dRet (dC (.str "form"))) dNext) dNext) (dSeq (dSet 2 (dCall 2 sp_first_unlike (dCons (dVar 1) (dCons (dCall 1 sp_spectrum (dCons (dVar 0) dNil)) dNil)))) (dSeq (dRet (dIf (dTst (dBin oIsNot (dVar 2) (dC .none))) (dBin oAdd (dTup (dCons (dC (.str "place")) dNil)) (dVar 2)) (dC .none))) dNext)))
theorem v_spectrum_error (args : List Val) (Φ : Val → Prop) (h : sp_spectrum_error args Φ) : D_spectrum_error (kRet Φ) (envS ["table", "value", "fault"] args) := by
  obtain ⟨n, t, v, rfl, hn, h1, h2⟩ := h
  simp [D_spectrum_error, envS, tab_length]
  refine ⟨_, _, rfl, by rw [tab_length]; exact len20 hn, ?_⟩
  simp [tab_length]
  refine ⟨n, t, rfl, hn, ?_⟩
  simp
  refine ⟨_, _, _, rfl, fun hh => ?_, fun p hp hh hne => ?_⟩
  · simp
    exact h1 hh
  · simp
    exact h2 p hp hh hne
end Ev
set_option Elab.async false
set_option linter.all false
set_option maxRecDepth 100000
/-! M2: rows and places, products of rows, shifts and spectra: plain. -/
namespace Ev
open PySem

/-! ### rows -/
def rowN (k p : Nat) : List Int := rowAt k (p : Int)
theorem rowN_succ (k p : Nat) : rowN (k + 1) p = rowN k (p / 2) ++ [((p % 2 : Nat) : Int)] := by
  unfold rowN
  rw [rowAt]
  congr 1
theorem rowN_length (k p : Nat) : (rowN k p).length = k := rowAt_length k p
theorem rowN_bits : ∀ (k p : Nat), Bits (rowN k p)
  | 0, p => .nil
  | k + 1, p => by
    rw [rowN_succ]
    refine (rowN_bits k (p / 2)).app fun b hb => ?_
    simp at hb
    omega
theorem placeF_app (a : Int) (xs : List Int) (b : Int) : placeF a (xs ++ [b]) = 2 * placeF a xs + b := by
  simp [placeF]
theorem place_rowN : ∀ (k p : Nat), p < 2 ^ k → placeF 0 (rowN k p) = p
  | 0, p, h => by
    have : p = 0 := by simpa using h
    subst this; rfl
  | k + 1, p, h => by
    rw [rowN_succ, placeF_app, place_rowN k (p / 2) (by rw [Nat.pow_succ] at h; omega)]
    omega
theorem bits_rowN {xs : List Int} (h : Bits xs) : ∃ p, p < 2 ^ xs.length ∧ xs = rowN xs.length p := by
  have key : ∀ (n : Nat) (xs : List Int), xs.length = n → Bits xs → ∃ p, p < 2 ^ n ∧ xs = rowN n p := by
    intro n
    induction n with
    | zero => intro xs hl _; exact ⟨0, by decide, by rw [List.eq_nil_of_length_eq_zero hl]; rfl⟩
    | succ n ih =>
      intro xs hl hb
      have hne : xs ≠ [] := fun e => by rw [e] at hl; simp at hl
      have e := (List.dropLast_concat_getLast hne).symm
      generalize xs.dropLast = ys at e
      generalize xs.getLast hne = b at e
      subst e
      have hl' : ys.length = n := by simp at hl; omega
      obtain ⟨p, hp, rfl⟩ := ih ys hl' fun x hx => hb x (by simp [hx])
      rcases hb b (by simp) with rfl | rfl
      · refine ⟨2 * p, by rw [Nat.pow_succ]; omega, ?_⟩
        rw [rowN_succ, show 2 * p / 2 = p by omega, show 2 * p % 2 = 0 by omega]; rfl
      · refine ⟨2 * p + 1, by rw [Nat.pow_succ]; omega, ?_⟩
        rw [rowN_succ, show (2 * p + 1) / 2 = p by omega, show (2 * p + 1) % 2 = 1 by omega]; rfl
  exact key _ xs rfl h
theorem rowN_wrap : ∀ (k p c : Nat), rowN k (p + c * 2 ^ k) = rowN k p
  | 0, _, _ => rfl
  | k + 1, p, c => by
    rw [rowN_succ, rowN_succ]
    have e : c * 2 ^ (k + 1) = 2 * (c * 2 ^ k) := by rw [Nat.pow_succ, Nat.mul_comm 2, Nat.mul_assoc]
    rw [e, show (p + 2 * (c * 2 ^ k)) / 2 = p / 2 + c * 2 ^ k by omega, show (p + 2 * (c * 2 ^ k)) % 2 = p % 2 by omega, rowN_wrap k]
theorem rowN_cons : ∀ (k p : Nat), rowN (k + 1) p = ((p / 2 ^ k % 2 : Nat) : Int) :: rowN k p
  | 0, p => by rw [rowN_succ]; simp [rowN, rowAt]
  | k + 1, p => by
    rw [rowN_succ, rowN_cons k (p / 2), rowN_succ k p, Nat.pow_succ, Nat.mul_comm, Nat.div_div_eq_div_mul]; rfl
theorem rowN_lo {k x : Nat} (h : x < 2 ^ k) : rowN (k + 1) x = 0 :: rowN k x := by
  rw [rowN_cons, Nat.div_eq_of_lt h]; rfl
theorem rowN_hi {k x : Nat} (h : x < 2 ^ k) : rowN (k + 1) (x + 2 ^ k) = 1 :: rowN k x := by
  have e : (x + 2 ^ k) / 2 ^ k = 1 := by
    rw [Nat.add_div_right _ (Nat.two_pow_pos k), Nat.div_eq_of_lt h]
  rw [rowN_cons, e]
  have := rowN_wrap k x 1
  rw [Nat.one_mul] at this
  rw [this]; rfl
theorem rowsN_tab : ∀ n, rowsN n = (List.range (2 ^ n)).map (rowN n)
  | 0 => rfl
  | n + 1 => by
    rw [rowsN, rowsN_tab n]
    have key : ∀ m, ((List.range m).map (rowN n)).flatMap (fun r => [r ++ [(0 : Int)], r ++ [1]]) = (List.range (2 * m)).map (rowN (n + 1)) := by
      intro m
      induction m with
      | zero => rfl
      | succ m ih =>
        rw [List.range_succ, List.map_append, List.flatMap_append, ih, show 2 * (m + 1) = 2 * m + 1 + 1 by omega, List.range_succ, List.range_succ]
        simp only [List.map_append, List.append_assoc]
        congr 1
        simp only [List.map_cons, List.map_nil, List.flatMap_cons, List.flatMap_nil, List.append_nil, List.cons_append, List.nil_append]
        rw [rowN_succ n (2 * m), rowN_succ n (2 * m + 1), show 2 * m / 2 = m by omega, show 2 * m % 2 = 0 by omega, show (2 * m + 1) / 2 = m by omega, show (2 * m + 1) % 2 = 1 by omega]
        rfl
    rw [key, Nat.pow_succ, Nat.mul_comm]

/-! ### products of rows -/
def par (k p x : Nat) : Int := prodR (rowN k p) (rowN k x)
theorem prodR_cons (a b : Int) (xs ys : List Int) : prodR (a :: xs) (b :: ys) = (a * b + prodR xs ys) % 2 := by
  unfold prodR
  simp
theorem prodR_bit (xs ys : List Int) : prodR xs ys = 0 ∨ prodR xs ys = 1 := by
  unfold prodR; omega
theorem hat_sum : ∀ (k p : Nat) (F : Nat → Int), p < 2 ^ k → (sumN (2 ^ k) fun x => (1 - 2 * par k p x) * F x) = hat k F p
  | 0, p, F, h => by
    have : p = 0 := by simpa using h
    subst this
    simp [sumN, hat, par, prodR, rowN, rowAt]
  | k + 1, p, F, h => by
    have P : 2 ^ (k + 1) = 2 ^ k + 2 ^ k := by rw [Nat.pow_succ]; omega
    have b := fun x => prodR_bit (rowN k p) (rowN k x)
    rw [sumN_two]
    by_cases hp : p < 2 ^ k
    · rw [(hat_top hp).1, ← hat_sum k p _ hp, ← sumN_plus]
      refine sumN_congr fun x hx => ?_
      unfold par
      rw [rowN_lo hp, rowN_lo hx, rowN_hi hx, prodR_cons, prodR_cons]
      rcases prodR_bit (rowN k p) (rowN k x) with e | e <;> rw [e] <;> grind
    · obtain ⟨q, rfl⟩ : ∃ q, p = q + 2 ^ k := ⟨p - 2 ^ k, by omega⟩
      have hq : q < 2 ^ k := by omega
      rw [(hat_top hq).2, ← hat_sum k q _ hq, ← sumN_plus]
      refine sumN_congr fun x hx => ?_
      unfold par
      rw [rowN_hi hq, rowN_lo hx, rowN_hi hx, prodR_cons, prodR_cons]
      rcases prodR_bit (rowN k q) (rowN k x) with e | e <;> rw [e] <;> grind

/-! ### sums of spectra -/
theorem hat_all : ∀ (m : Nat) (c : Nat → Int), (sumN (2 ^ m) fun j => hat m c j) = 2 ^ m * c 0
  | 0, c => by simp [sumN, hat]
  | m + 1, c => by
    rw [sumN_two, ← sumN_plus]
    rw [sumN_congr (g := fun j => hat m (fun x => 2 * c x) j) fun j hj => by
      rw [(hat_top hj).1, (hat_top hj).2, hat_plus, hat_minus, hat_mul]; omega]
    rw [hat_all m, Int.pow_succ]
    grind
theorem hat_part : ∀ (k m : Nat) (c : Nat → Int) (p : Nat), p < 2 ^ k → (sumN (2 ^ m) fun j => hat (k + m) c (p * 2 ^ m + j)) = 2 ^ m * hat k (fun y => c (y * 2 ^ m)) p
  | 0, m, c, p, h => by
    have : p = 0 := by simpa using h
    subst this
    simp only [Nat.zero_add, Nat.zero_mul, hat]
    exact hat_all m c
  | k + 1, m, c, p, h => by
    have P : 2 ^ (k + 1) = 2 ^ k + 2 ^ k := by rw [Nat.pow_succ]; omega
    have Q : 2 ^ (k + m) = 2 ^ k * 2 ^ m := Nat.pow_add ..
    have up : ∀ {p j}, p < 2 ^ k → j < 2 ^ m → p * 2 ^ m + j < 2 ^ (k + m) := fun {p j} hp hj => by
      have := Nat.mul_le_mul_right (2 ^ m) (show p + 1 ≤ 2 ^ k by omega)
      rw [Nat.add_mul, Nat.one_mul] at this
      rw [Q]; omega
    by_cases hp : p < 2 ^ k
    · rw [(hat_top hp).1]
      rw [show k + 1 + m = k + m + 1 by omega]
      rw [sumN_congr (g := fun j => hat (k + m) (fun x => c x + c (x + 2 ^ (k + m))) (p * 2 ^ m + j)) fun j hj => (hat_top (up hp hj)).1]
      rw [hat_part k m _ p hp]
      congr 1
      refine hat_congr fun y hy => ?_
      rw [Nat.add_mul, ← Q]
    · obtain ⟨q, rfl⟩ : ∃ q, p = q + 2 ^ k := ⟨p - 2 ^ k, by omega⟩
      have hq : q < 2 ^ k := by omega
      rw [(hat_top hq).2]
      rw [show k + 1 + m = k + m + 1 by omega]
      rw [sumN_congr (g := fun j => hat (k + m) (fun x => c x - c (x + 2 ^ (k + m))) (q * 2 ^ m + j)) fun j hj => by
        rw [← (hat_top (up hq hj)).2, Nat.add_mul, ← Q]; congr 1; omega]
      rw [hat_part k m _ q hq]
      congr 1
      refine hat_congr fun y hy => ?_
      rw [Nat.add_mul, ← Q]
def conv (n : Nat) (f g : Nat → Int) (d : Nat) : Int := sumN (2 ^ n) fun x => f x * g (x ^^^ d)
theorem hat_of_conv : ∀ (n : Nat) (f g : Nat → Int) (s : Nat), s < 2 ^ n → hat n (conv n f g) s = hat n f s * hat n g s
  | 0, f, g, s, h => by simp [hat, conv, sumN]
  | n + 1, f, g, s, h => by
    have P : 2 ^ (n + 1) = 2 ^ n + 2 ^ n := by rw [Nat.pow_succ]; omega
    have lo : ∀ d, d < 2 ^ n → conv (n + 1) f g d = conv n f g d + conv n (fun x => f (x + 2 ^ n)) (fun x => g (x + 2 ^ n)) d := fun d hd => by
      unfold conv
      rw [sumN_two]
      congr 1
      exact sumN_congr fun i hi => by rw [(xor_add_top hi hd).1]
    have hi : ∀ d, d < 2 ^ n → conv (n + 1) f g (d + 2 ^ n) = conv n f (fun x => g (x + 2 ^ n)) d + conv n (fun x => f (x + 2 ^ n)) g d := fun d hd => by
      unfold conv
      rw [sumN_two]
      congr 1
      · exact sumN_congr fun i hi => by rw [(xor_add_top hi hd).2.1]
      · exact sumN_congr fun i hi => by rw [(xor_add_top hi hd).2.2]
    by_cases hs : s < 2 ^ n
    · rw [(hat_top hs).1, (hat_top hs).1, (hat_top hs).1]
      rw [hat_congr (g := fun d => (conv n f g d + conv n (fun x => f (x + 2 ^ n)) (fun x => g (x + 2 ^ n)) d) + (conv n f (fun x => g (x + 2 ^ n)) d + conv n (fun x => f (x + 2 ^ n)) g d)) fun d hd => by rw [lo d hd, hi d hd]]
      rw [hat_plus, hat_plus, hat_plus, hat_plus, hat_plus]
      have e1 := hat_of_conv n f g s hs
      have e2 := hat_of_conv n (fun x => f (x + 2 ^ n)) (fun x => g (x + 2 ^ n)) s hs
      have e3 := hat_of_conv n f (fun x => g (x + 2 ^ n)) s hs
      have e4 := hat_of_conv n (fun x => f (x + 2 ^ n)) g s hs
      grind
    · obtain ⟨t, rfl⟩ : ∃ t, s = t + 2 ^ n := ⟨s - 2 ^ n, by omega⟩
      have ht : t < 2 ^ n := by omega
      rw [(hat_top ht).2, (hat_top ht).2, (hat_top ht).2]
      rw [hat_congr (g := fun d => (conv n f g d + conv n (fun x => f (x + 2 ^ n)) (fun x => g (x + 2 ^ n)) d) - (conv n f (fun x => g (x + 2 ^ n)) d + conv n (fun x => f (x + 2 ^ n)) g d)) fun d hd => by rw [lo d hd, hi d hd]]
      rw [hat_minus, hat_plus, hat_plus, hat_minus, hat_minus]
      have e1 := hat_of_conv n f g t ht
      have e2 := hat_of_conv n (fun x => f (x + 2 ^ n)) (fun x => g (x + 2 ^ n)) t ht
      have e3 := hat_of_conv n f (fun x => g (x + 2 ^ n)) t ht
      have e4 := hat_of_conv n (fun x => f (x + 2 ^ n)) g t ht
      grind

/-! ### bits -/
theorem and_bit {a b : Int} (ha : a = 0 ∨ a = 1) (hb : b = 0 ∨ b = 1) : Builtin.bitAnd a b = a * b := by
  rcases ha with rfl | rfl <;> rcases hb with rfl | rfl <;> decide
theorem xor_bit {a b : Int} (ha : a = 0 ∨ a = 1) (hb : b = 0 ∨ b = 1) : Builtin.bitXor a b = (a + b) % 2 := by
  rcases ha with rfl | rfl <;> rcases hb with rfl | rfl <;> decide
theorem nat_xor : ∀ (n a b : Nat), a < 2 ^ n → b < 2 ^ n → (a ^^^ b) + 2 * (a &&& b) = a + b
  | 0, a, b, ha, hb => by
    have h1 : a = 0 := by simpa using ha
    have h2 : b = 0 := by simpa using hb
    subst h1 h2; rfl
  | n + 1, a, b, ha, hb => by
    have ih := nat_xor n (a / 2) (b / 2) (by rw [Nat.pow_succ] at ha; omega) (by rw [Nat.pow_succ] at hb; omega)
    have x1 : (a ^^^ b) / 2 = a / 2 ^^^ b / 2 := Nat.xor_div_two
    have x2 : (a &&& b) / 2 = a / 2 &&& b / 2 := Nat.and_div_two
    have m1 : (a ^^^ b) % 2 = (a % 2 + b % 2) % 2 := by
      have e0 : ∀ x : Nat, x % 2 = (x.testBit 0).toNat := fun x => by rw [Nat.testBit_zero]; rcases Nat.mod_two_eq_zero_or_one x with e | e <;> simp [e]
      rw [e0 (a ^^^ b), e0 a, e0 b, Nat.testBit_xor]
      cases a.testBit 0 <;> cases b.testBit 0 <;> rfl
    have m2 : (a &&& b) % 2 = (a % 2) * (b % 2) := by
      rw [Nat.and_mod_two_pow (n := 1)]
      rcases Nat.mod_two_eq_zero_or_one a with e | e <;> rcases Nat.mod_two_eq_zero_or_one b with e' | e' <;> simp [e, e']
    rw [← x1, ← x2] at ih
    rcases Nat.mod_two_eq_zero_or_one a with e | e <;> rcases Nat.mod_two_eq_zero_or_one b with e' | e' <;> rw [e, e'] at m1 m2 <;> omega
theorem xor_nat (a b : Nat) : Builtin.bitXor (a : Int) (b : Int) = ((a ^^^ b : Nat) : Int) := by
  rw [PyProof.Rows.bitXor_and, PySem.W.os_band]
  have h : ∀ x : Nat, x < 2 ^ x := fun x => Nat.lt_two_pow_self
  have := nat_xor (max a b) a b (Nat.lt_of_lt_of_le (h a) (two_le (Nat.le_max_left a b))) (Nat.lt_of_lt_of_le (h b) (two_le (Nat.le_max_right a b)))
  omega
theorem and_one (a : Int) : Builtin.bitAnd a 1 = a % 2 := PyProof.Rows.bitAnd_m1 a
theorem bits_pow (n : Nat) : Builtin.Int.intBits ((2 ^ n : Nat) : Int) = n + 1 := by
  have p := Nat.two_pow_pos n
  have l : (2 ^ n).log2 = n := Nat.log2_two_pow
  generalize 2 ^ n = M at *
  unfold Builtin.Int.intBits
  have z : ((M : Int) == 0) = false := by simp; omega
  rw [z, Int.natAbs_natCast, l]
  rfl
end Ev
set_option Elab.async false
set_option linter.all false
set_option maxRecDepth 100000
/-! V4: shift sums, weights. -/
namespace Ev
open PySem PySem.Spec PyProof.Rows L2

theorem zip_tabs (n : Nat) (f g : Nat → Int) : zipD ((tab n f).map .int) ((tab n g).map .int) = (List.range n).map fun i => PyData.tuple [.int (f i), .int (g i)] := by
  rw [zip_ints]
  simp [tab, List.zip_map', List.map_map]
/-- items by place -/
theorem compW_tab {dt : DT} {de : DO} {vs : List Nat} {Φ : List PyData → Env → Prop} {env : Env} {N : Nat} (f : Nat → PyData) (g : Nat → PyData) (hl : N ≤ 16777216)
    (hs : ∀ i, i < N → ∀ (M : PyData → Env → Prop), M (g i) env → dt (f i) env fun e1 => de e1 fun r e3 => shR r e3 fun v e4 => ∃ d, v = .d d ∧ M d (wipeE e4 vs))
    (h : Φ ((List.range N).map g) env) : compW dt dYes de vs ((List.range N).map f) env [] Φ :=
  compW_all f g (List.range N) (by simpa using hl) (fun i hi M hM => hs i (List.mem_range.mp hi) M hM) h
theorem compW_ints {dt : DT} {de : DO} {vs : List Nat} {Φ : List PyData → Env → Prop} {env : Env} {N : Nat} {f : Nat → Int} (g : Nat → PyData) (hl : N ≤ 16777216)
    (hs : ∀ i, i < N → ∀ (M : PyData → Env → Prop), M (g i) env → dt (.int (f i)) env fun e1 => de e1 fun r e3 => shR r e3 fun v e4 => ∃ d, v = .d d ∧ M d (wipeE e4 vs))
    (h : Φ ((List.range N).map g) env) : compW dt dYes de vs ((tab N f).map .int) env [] Φ := by
  unfold tab
  rw [List.map_map]
  exact compW_tab (fun i => .int (f i)) g hl hs h
theorem TI_tab (n : Nat) (f : Nat → Int) : TI (tab n f) = .tuple ((List.range n).map fun i => PyData.int (f i)) := by
  simp [TI, tab, List.map_map]
theorem ints_tab (n : Nat) (f : Nat → Int) : ((List.range n).map fun i => PyData.int (f i)) = (tab n f).map .int := by
  simp [tab, List.map_map]
/-- sums of reckoned lists -/
theorem sum_tab {n : Nat} {f : Nat → Int} {Φ : Val → Prop} (h : Φ (.d (.int (sumN n f)))) : oSum (.own ((List.range n).map fun i => PyData.int (f i))) Φ := by
  refine ⟨tab n f, ?_, by rw [tab_sum]; exact h⟩
  rw [← ints_tab]; rfl
theorem BitF.sg {n : Nat} {t : Nat → Int} (h : BitF n t) (i : Nat) (hi : i < n) : -1 ≤ sg t i ∧ sg t i ≤ 1 := by
  unfold Ev.sg
  rcases h i hi with e | e <;> rw [e] <;> omega

def sp_crossed_sums : FSpec := fun args Φ => ∃ (n : Nat) (t u : Nat → Int), args = [.d (TI (tab (2 ^ n) t)), .d (TI (tab (2 ^ n) u))] ∧ n ≤ 20 ∧ BitF (2 ^ n) t ∧ BitF (2 ^ n) u ∧ Φ (.d (TI (tab (2 ^ n) (conv n (sg t) (sg u)))))
def D_crossed_sums : DS := (dSeq (dSet 2 (dUn oTuple (dLc [3, 4] (dZip (dCons (dCall 1 sp_spectrum (dCons (dVar 0) dNil)) (dCons (dCall 1 sp_spectrum (dCons (dVar 1) dNil)) dNil))) (tTup 2 (tCons (tName 3) (tCons (tName 4) tNil))) dYes (dBin oMul (dVar 3) (dVar 4))))) (dSeq (dRet (dUn oTuple (dLc [5] (dSeqI (dCall 1 sp_led_through (dCons (dVar 2) dNil))) (tName 5) dYes (dBin oDiv (dVar 5) (dUn oLen (dVar 0)))))) dNext))
theorem v_crossed_sums (args : List Val) (Φ : Val → Prop) (h : sp_crossed_sums args Φ) : D_crossed_sums (kRet Φ) (envS ["one", "other", "products", "a", "b", "item"] args) := by
  obtain ⟨n, t, u, rfl, hn, ht, hu, hΦ⟩ := h
  simp [D_crossed_sums, envS, and_assoc]
  refine ⟨n, t, rfl, hn, ?_⟩
  simp
  refine ⟨n, u, rfl, hn, ?_⟩
  simp [and_assoc, zip_tabs]
  refine compW_tab _ (fun i => .int (spec n t i * spec n u i)) (len20 hn) (fun i hi M hM => ?_) ?_
  · simp [and_assoc]
    have b := spec_bound (s := i) ht
    have p := pow_lt64 hn
    exact ⟨cm_small (by omega), hM⟩
  · simp [tab_length]
    rw [ints_tab]
    refine ⟨n, _, rfl, hn, ?_⟩
    simp
    refine compW_ints (fun i => .int (conv n (sg t) (sg u) i)) (len20 hn) (fun i hi M hM => ?_) ?_
    · have e : hat n (fun i => spec n t i * spec n u i) i / ((2 ^ n : Nat) : Int) = conv n (sg t) (sg u) i := by
        have c := hat_conv n (sg t) (sg u) i hi
        unfold spec
        rw [c, two_cast, Int.mul_ediv_cancel_left _ (by have := Int.pow_pos (n := 2) (m := n) (by decide); omega)]
        rfl
      have tl : ((tab (2 ^ n) t).length : Int) = ((2 ^ n : Nat) : Int) := by rw [tab_length]
      have cd := cdivN (a := hat n (fun i => spec n t i * spec n u i) i) hn
      generalize ((2 ^ n : Nat) : Int) = a at *
      simp [tl, e]
      exact ⟨cd, hM⟩
    · rw [TI_tab] at hΦ
      exact hΦ
def shifts (n : Nat) (t : Nat → Int) : Nat → Int := conv n (sg t) (sg t)
def sp_shift_sums : FSpec := fun args Φ => ∃ (n : Nat) (t : Nat → Int), args = [.d (TI (tab (2 ^ n) t))] ∧ n ≤ 20 ∧ BitF (2 ^ n) t ∧ Φ (.d (TI (tab (2 ^ n) (shifts n t))))
def D_shift_sums : DS := (dSeq (dRet (dCall 2 sp_crossed_sums (dCons (dVar 0) (dCons (dVar 0) dNil)))) dNext)
theorem v_shift_sums (args : List Val) (Φ : Val → Prop) (h : sp_shift_sums args Φ) : D_shift_sums (kRet Φ) (envS ["table"] args) := by
  obtain ⟨n, t, rfl, hn, ht, hΦ⟩ := h
  simp [D_shift_sums, envS]
  exact ⟨n, t, t, rfl, hn, ht, ht, hΦ⟩
def sp_shift_sum : FSpec := fun args Φ => ∃ (n p : Nat) (t : Nat → Int) (xs : List Int), args = [.d (TI (tab (2 ^ n) t)), .d (TI xs)] ∧ n ≤ 20 ∧ BitF (2 ^ n) t ∧ placeF 0 xs = p ∧ p < 2 ^ n ∧ Φ (.d (.int (shifts n t p)))
def D_shift_sum : DS := (dSeq (dRet (dBin oIxS (dCall 1 sp_shift_sums (dCons (dVar 0) dNil)) (dCall 1 sp_row_place (dCons (dVar 1) dNil)))) dNext)
theorem v_shift_sum (args : List Val) (Φ : Val → Prop) (h : sp_shift_sum args Φ) : D_shift_sum (kRet Φ) (envS ["table", "d"] args) := by
  obtain ⟨n, p, t, xs, rfl, hn, ht, hp, hp2, hΦ⟩ := h
  simp [D_shift_sum, envS]
  refine ⟨n, t, rfl, hn, ht, ?_⟩
  simp
  refine ⟨xs, rfl, ?_⟩
  simp [hp]
  exact ⟨_, stepped_get hp2, hΦ⟩
def sp_shift_paper_error : FSpec := fun args Φ => ∃ (n : Nat) (t v : Nat → Int), args = [.d (TI (tab (2 ^ n) t)), .d (TI (tab (2 ^ n) v))] ∧ n ≤ 20 ∧ BitF (2 ^ n) t ∧ placeErr (2 ^ n) v (shifts n t) Φ
def D_shift_paper_error : DS := (dSeq (dIfS (dNotT (dTru (dCall 2 sp_are_integers (dCons (dVar 1) (dCons (dUn oLen (dVar 0)) dNil))))) (dSeq (dRet (dC (.str "form"))) dNext) dNext) (dSeq (dSet 2 (dCall 2 sp_first_unlike (dCons (dVar 1) (dCons (dCall 1 sp_shift_sums (dCons (dVar 0) dNil)) dNil)))) (dSeq (dRet (dIf (dTst (dBin oIsNot (dVar 2) (dC .none))) (dBin oAdd (dTup (dCons (dC (.str "place")) dNil)) (dVar 2)) (dC .none))) dNext)))
theorem v_shift_paper_error (args : List Val) (Φ : Val → Prop) (h : sp_shift_paper_error args Φ) : D_shift_paper_error (kRet Φ) (envS ["table", "value", "fault"] args) := by
  obtain ⟨n, t, v, rfl, hn, ht, h1, h2⟩ := h
  simp [D_shift_paper_error, envS, tab_length]
  refine ⟨_, _, rfl, by rw [tab_length]; exact len20 hn, ?_⟩
  simp [tab_length]
  refine ⟨n, t, rfl, hn, ht, ?_⟩
  simp
  refine ⟨_, _, _, rfl, fun hh => ?_, fun p hp hh hne => ?_⟩
  · simp
    exact h1 hh
  · simp
    exact h2 p hp hh hne

/-! ### powers, letters -/
def sp_power_of_two : FSpec := fun args Φ => ∃ n : Nat, args = [.d (.int n)] ∧ n ≤ 60 ∧ Φ (.d (.int ((2 ^ n : Nat) : Int)))
def D_power_of_two : DS := (dSeq (dSet 1 (dC (.int 1))) (dSeq (dFor (dRng1 (dCons (dVar 0) dNil)) (tName 2) (dSeq (dSet 1 (dBin oMul (dC (.int 2)) (dVar 1))) dNext)) (dSeq (dRet (dVar 1)) dNext)))
theorem v_power (nm : List Str) (hnm : nm.length = 3) (args : List Val) (Φ : Val → Prop) (h : sp_power_of_two args Φ) : D_power_of_two (kRet Φ) (envS nm args) := by
  obtain ⟨n, rfl, hn, hΦ⟩ := h
  simp [D_power_of_two, envS, hnm]
  refine ⟨by omega, ?_⟩
  refine forW_range _ n (fun j e => ∃ z, e = [some (.d (.int n)), some (.d (.int ((2 ^ j : Nat) : Int))), z]) ?_ ?_ _ ⟨none, by simp⟩
  · rintro e ⟨z, rfl⟩
    generalize ((2 ^ n : Nat) : Int) = a at *
    simpa using hΦ
  · rintro j hj e ⟨z, rfl⟩ M hM
    have e1 : 2 * ((2 ^ j : Nat) : Int) = ((2 ^ (j + 1) : Nat) : Int) := by rw [Nat.pow_succ]; omega
    generalize ((2 ^ j : Nat) : Int) = a at *
    generalize ((2 ^ (j + 1) : Nat) : Int) = b at *
    simp
    rw [e1]
    exact ⟨cm_small (by omega), hM _ ⟨_, rfl⟩⟩
theorem v_power_of_two (args : List Val) (Φ : Val → Prop) (h : sp_power_of_two args Φ) : D_power_of_two (kRet Φ) (envS ["often", "found", "step"] args) := v_power _ rfl args Φ h
def sp_table_letters : FSpec := fun args Φ => ∃ (n : Nat) (t : Nat → Int), args = [.d (TI (tab (2 ^ n) t))] ∧ n ≤ 20 ∧ Φ (.d (.int n))
def D_table_letters : DS := (dSeq (dSet 1 (dC (.int 0))) (dSeq (dWhile (dTst (dBin oLt (dBin oShl (dC (.int 1)) (dVar 1)) (dUn oLen (dVar 0)))) (dSeq (dSet 1 (dBin oAdd (dVar 1) (dC (.int 1)))) dNext)) (dSeq (dRet (dVar 1)) dNext)))
theorem letters_loop {K : KE} {n : Nat} {t : Nat → Int} (hn : n ≤ 20) : ∀ (m k : Nat), k + m = n → K.nx [some (.d (TI (tab (2 ^ n) t))), some (.d (.int n))] →
    whileN (dTst (dBin oLt (dBin oShl (dC (.int 1)) (dVar 1)) (dUn oLen (dVar 0)))) (dSeq (dSet 1 (dBin oAdd (dVar 1) (dC (.int 1)))) dNext) K (m + 1) [some (.d (TI (tab (2 ^ n) t))), some (.d (.int k))]
  | 0, k, e, h => by
    have : k = n := by omega
    subst this
    rw [whileN]
    have a1 : ((1 : Int) * 2 ^ (k : Int).toNat < ((2 ^ k : Nat) : Int)) = False := by rw [Int.toNat_natCast, ← two_cast]; simp
    have a2 : (((2 ^ k : Nat) : Int) ≤ (1 : Int) * 2 ^ (k : Int).toNat) = True := by rw [Int.toNat_natCast, ← two_cast]; simp
    have a3 : CPow 1 (k : Int) := ⟨by omega, by omega, by decide⟩
    have tl : ((tab (2 ^ k) t).length : Int) = ((2 ^ k : Nat) : Int) := by rw [tab_length]
    simp only [dTst, dBin, dUn, dVar, dC]
    generalize ((2 ^ k : Nat) : Int) = a at *
    simp [tl]
    simp at a1 a2
    exact ⟨a3, .inl ⟨by omega, h⟩⟩
  | m + 1, k, e, h => by
    have ih := letters_loop (K := K) (t := t) hn m (k + 1) (by omega) h
    rw [whileN]
    have p : 2 ^ (k + 1) ≤ 2 ^ n := two_le (by omega)
    have a1 : (2 : Int) ^ k < ((2 ^ n : Nat) : Int) := by rw [← two_cast]; rw [Nat.pow_succ] at p; have := Nat.two_pow_pos k; omega
    have a3 : CPow 1 (k : Int) := ⟨by omega, by omega, by decide⟩
    have tl : ((tab (2 ^ n) t).length : Int) = ((2 ^ n : Nat) : Int) := by rw [tab_length]
    generalize ((2 ^ n : Nat) : Int) = a at *
    simp [tl]
    refine ⟨a3, .inr ⟨a1, ?_⟩⟩
    simpa using ih
theorem v_table_letters (args : List Val) (Φ : Val → Prop) (h : sp_table_letters args Φ) : D_table_letters (kRet Φ) (envS ["table", "n"] args) := by
  obtain ⟨n, t, rfl, hn, hΦ⟩ := h
  simp only [D_table_letters, envS]
  have l := letters_loop (t := t) (K := { nx := fun e => dSeq (dRet (dVar 1)) dNext (kRet Φ) e, rt := Φ, bk := fun _ => False, ct := fun _ => False }) hn n 0 (by omega) (by simpa using hΦ)
  simp [dWhile]
  exact ⟨n + 1, l⟩
end Ev
set_option Elab.async false
set_option linter.all false
set_option maxRecDepth 100000
/-! V5: weights, trees. -/
namespace Ev
open PySem PySem.Spec PyProof.Rows L2

/-! ### slices of tables -/
theorem cut_nat {xs : List PyData} {a b : Nat} (h : a + b ≤ xs.length) : cutD xs (some (a : Int)) (some ((a : Int) + (b : Int))) = (xs.drop a).take b := by
  unfold cutD
  rw [show (a : Int) + (b : Int) = ((a + b : Nat) : Int) by omega, HT.sIx_nat, HT.sIx_nat, Nat.min_eq_left h, Nat.min_eq_left (show a ≤ xs.length by omega)]
  congr 1
  omega
theorem cut_to {xs : List PyData} {b : Nat} (h : b ≤ xs.length) : cutD xs none (some (b : Int)) = xs.take b := by
  unfold cutD
  rw [HT.sIx_none, HT.sIx_nat, Nat.min_eq_left h]
  simp
theorem cut_from {xs : List PyData} {a : Nat} (h : a ≤ xs.length) : cutD xs (some (a : Int)) none = xs.drop a := by
  unfold cutD
  rw [HT.sIx_none, HT.sIx_nat, Nat.min_eq_left h]
  rw [List.take_of_length_le]
  simp
theorem tab_cut {n a b : Nat} {f : Nat → Int} (h : a + b ≤ n) : ((tab n f).drop a).take b = tab b fun i => f (a + i) := by
  apply List.ext_getElem?
  intro i
  rw [List.getElem?_take]
  by_cases hi : i < b
  · rw [if_pos hi, List.getElem?_drop, tab_get (by omega), tab_get hi]
  · rw [if_neg hi, List.getElem?_eq_none (by rw [tab_length]; omega)]
theorem cut_tab {n a b : Nat} {f : Nat → Int} (h : a + b ≤ n) : cutD ((tab n f).map .int) (some (a : Int)) (some ((a : Int) + (b : Int))) = (tab b fun i => f (a + i)).map .int := by
  rw [cut_nat (by rw [List.length_map, tab_length]; exact h), ← List.map_drop, ← List.map_take, tab_cut h]

/-! ### weights -/
def Lim (N : Nat) (v : Nat → Int) : Prop := ∀ i, i < N → -1048576 ≤ v i ∧ v i ≤ 1048576
theorem spec_lim {n : Nat} {t : Nat → Int} (hn : n ≤ 20) (ht : BitF (2 ^ n) t) : Lim (2 ^ n) (spec n t) := fun i _ => by
  have := spec_bound (s := i) ht
  have := pow_lt64 hn
  omega
/-- the weight of the beginning p of k letters -/
def wt (n : Nat) (v : Nat → Int) (k p : Nat) : Int := sumN (2 ^ (n - k)) fun j => v (p * 2 ^ (n - k) + j) * v (p * 2 ^ (n - k) + j)
theorem part_le {n k p : Nat} (hk : k ≤ n) (hp : p < 2 ^ k) : p * 2 ^ (n - k) + 2 ^ (n - k) ≤ 2 ^ n := by
  have e : 2 ^ n = 2 ^ k * 2 ^ (n - k) := by rw [← Nat.pow_add]; congr 1; omega
  have := Nat.mul_le_mul_right (2 ^ (n - k)) (show p + 1 ≤ 2 ^ k by omega)
  rw [Nat.add_mul, Nat.one_mul] at this
  omega
def sp_weight_in : FSpec := fun args Φ => ∃ (n k p : Nat) (v : Nat → Int), args = [.d (TI (tab (2 ^ n) v)), .d (.int n), .d (TI (rowN k p))] ∧ n ≤ 20 ∧ k ≤ n ∧ p < 2 ^ k ∧ Lim (2 ^ n) v ∧ Φ (.d (.int (wt n v k p)))
def D_weight_in : DS := (dSeq (dSet 3 (dCall 1 sp_power_of_two (dCons (dBin oSub (dVar 1) (dUn oLen (dVar 2))) dNil))) (dSeq (dSet 4 (dBin oMul (dCall 1 sp_row_place (dCons (dVar 2) dNil)) (dVar 3))) (dSeq (dRet (dUn oSum (dLc [5] (dSeqI (dSl (dVar 0) (dSomeP (dVar 4)) (dSomeP (dBin oAdd (dVar 4) (dVar 3))))) (tName 5) dYes (dBin oMul (dVar 5) (dVar 5))))) dNext)))
theorem v_weight_in (args : List Val) (Φ : Val → Prop) (h : sp_weight_in args Φ) : D_weight_in (kRet Φ) (envS ["values", "n", "begin", "many", "first", "value"] args) := by
  obtain ⟨n, k, p, v, rfl, hn, hk, hp, hv, hΦ⟩ := h
  simp [D_weight_in, envS, rowN_length]
  refine ⟨n - k, by rw [show ((n - k : Nat) : Int) = (n : Int) - k by omega], by omega, ?_⟩
  have le := part_le hk hp
  have l20 := len20 hn
  have pm : 2 ^ (n - k) ≤ 2 ^ n := two_le (by omega)
  have p0 := Nat.two_pow_pos (n - k)
  unfold wt at hΦ
  generalize hm : 2 ^ (n - k) = m at *
  simp
  refine ⟨rowN k p, rfl, ?_⟩
  rw [place_rowN k p hp]
  simp
  refine ⟨cm_small' (by omega), ?_⟩
  rw [show (p : Int) * (m : Int) = ((p * m : Nat) : Int) by push_cast; rfl]
  rw [cut_tab le]
  refine compW_ints (fun i => .int (v (p * m + i) * v (p * m + i))) (by omega) (fun i hi M hM => ?_) ?_
  · have b := hv (p * m + i) (by omega)
    simp
    exact ⟨cm_small (by omega), hM⟩
  · exact sum_tab (by simpa using hΦ)
def sp_begin_weight : FSpec := fun args Φ => ∃ (n k p : Nat) (t : Nat → Int), args = [.d (TI (tab (2 ^ n) t)), .d (TI (rowN k p))] ∧ n ≤ 20 ∧ k ≤ n ∧ p < 2 ^ k ∧ BitF (2 ^ n) t ∧ Φ (.d (.int (wt n (spec n t) k p)))
def D_begin_weight : DS := (dSeq (dRet (dCall 3 sp_weight_in (dCons (dCall 1 sp_spectrum (dCons (dVar 0) dNil)) (dCons (dCall 1 sp_table_letters (dCons (dVar 0) dNil)) (dCons (dVar 1) dNil))))) dNext)
theorem v_begin_weight (args : List Val) (Φ : Val → Prop) (h : sp_begin_weight args Φ) : D_begin_weight (kRet Φ) (envS ["table", "begin"] args) := by
  obtain ⟨n, k, p, t, rfl, hn, hk, hp, ht, hΦ⟩ := h
  simp [D_begin_weight, envS]
  refine ⟨n, t, rfl, hn, ?_⟩
  simp
  refine ⟨n, t, rfl, hn, ?_⟩
  simp
  exact ⟨n, k, p, _, rfl, hn, hk, hp, spec_lim hn ht, by simpa using hΦ⟩
/-- weights by shifts alone -/
theorem wt_shifts {n k p : Nat} {t : Nat → Int} (hk : k ≤ n) (hp : p < 2 ^ k) : (sumN (2 ^ k) fun y => (1 - 2 * par k p y) * shifts n t (y * 2 ^ (n - k))) * 2 ^ (n - k) = wt n (spec n t) k p := by
  rw [hat_sum k p (fun y => shifts n t (y * 2 ^ (n - k))) hp, Int.mul_comm, ← hat_part k (n - k) (shifts n t) p hp]
  unfold wt
  have e : k + (n - k) = n := by omega
  have le := part_le hk hp
  refine sumN_congr fun j hj => ?_
  rw [e]
  exact hat_of_conv n (sg t) (sg t) _ (by omega)
def sp_weight_by_shifts : FSpec := fun args Φ => ∃ (n k p : Nat) (t : Nat → Int), args = [.d (TI (tab (2 ^ n) t)), .d (TI (rowN k p))] ∧ n ≤ 20 ∧ k ≤ n ∧ p < 2 ^ k ∧ BitF (2 ^ n) t ∧ Φ (.d (.int (wt n (spec n t) k p)))
def D_weight_by_shifts : DS := (dSeq (dPar3 2 3 4 (dCall 1 sp_table_letters (dCons (dVar 0) dNil)) (dUn oLen (dVar 1)) (dCall 1 sp_shift_sums (dCons (dVar 0) dNil))) (dSeq (dPar2 5 6 (dCall 1 sp_power_of_two (dCons (dBin oSub (dVar 2) (dVar 3)) dNil)) (dC (.int 0))) (dSeq (dFor (dRng1 (dCons (dCall 1 sp_power_of_two (dCons (dVar 3) dNil)) dNil)) (tName 7) (dSeq (dSet 8 (dBin oSub (dC (.int 1)) (dBin oMul (dC (.int 2)) (dCall 2 sp_rows_product (dCons (dVar 1) (dCons (dCall 2 sp_row_at (dCons (dVar 3) (dCons (dVar 7) dNil))) dNil)))))) (dSeq (dSet 6 (dBin oAdd (dVar 6) (dBin oMul (dVar 8) (dBin oIxS (dVar 4) (dBin oMul (dVar 7) (dVar 5)))))) dNext))) (dSeq (dRet (dBin oMul (dVar 6) (dVar 5))) dNext))))
theorem v_weight_by_shifts (args : List Val) (Φ : Val → Prop) (h : sp_weight_by_shifts args Φ) : D_weight_by_shifts (kRet Φ) (envS ["table", "begin", "n", "k", "sums", "many", "found", "place", "sign"] args) := by
  obtain ⟨n, k, p, t, rfl, hn, hk, hp, ht, hΦ⟩ := h
  simp [D_weight_by_shifts, envS, rowN_length]
  refine ⟨n, t, rfl, hn, ?_⟩
  simp [rowN_length]
  refine ⟨n, t, rfl, hn, ht, ?_⟩
  simp
  refine ⟨n - k, by rw [show ((n - k : Nat) : Int) = (n : Int) - k by omega], by omega, ?_⟩
  have le := part_le hk hp
  have l20 := len20 hn
  have pm : 2 ^ (n - k) ≤ 2 ^ n := two_le (by omega)
  have pk : 2 ^ k ≤ 2 ^ n := two_le hk
  have p0 := Nat.two_pow_pos (n - k)
  have key := wt_shifts (t := t) hk hp
  rw [← two_cast] at key
  have bnd : ∀ y, y < 2 ^ k → y * 2 ^ (n - k) < 2 ^ n := fun y hy => by have := part_le hk hy; omega
  generalize hm : 2 ^ (n - k) = m at *
  simp
  refine ⟨k, rfl, by omega, ?_⟩
  generalize hK : 2 ^ k = K at *
  simp
  refine ⟨by omega, ?_⟩
  refine forW_range _ K (fun j e => ∃ z7 z8, e = [some (.d (TI (tab (2 ^ n) t))), some (.d (TI (rowN k p))), some (.d (.int n)), some (.d (.int k)), some (.d (TI (tab (2 ^ n) (shifts n t)))), some (.d (.int m)), some (.d (.int (sumN j fun y => (1 - 2 * par k p y) * shifts n t (y * m)))), z7, z8]) ?_ ?_ _ ⟨none, none, rfl⟩
  · rintro e ⟨z7, z8, rfl⟩
    simp
    refine ⟨cm_small' (by omega), ?_⟩
    rw [key]
    exact hΦ
  · rintro j hj e ⟨z7, z8, rfl⟩ N hN
    simp
    refine ⟨k, j, rfl, by omega, ?_⟩
    simp
    refine ⟨rowN k p, rowN k j, rfl, by rw [rowN_length]; omega, rowN_bits k p, ?_⟩
    simp
    have b := prodR_bit (rowN k p) (rowN k j)
    refine ⟨cm_small (by omega), cm_small' (by omega), ?_⟩
    rw [show (j : Int) * (m : Int) = ((j * m : Nat) : Int) by push_cast; rfl]
    refine ⟨_, stepped_get (bnd j hj), ?_⟩
    simp
    refine ⟨cm_small (by rcases b with e | e <;> rw [e] <;> omega), hN _ ⟨_, _, rfl⟩⟩
def sp_weights_below : FSpec := fun args Φ => ∃ (n k p : Nat) (t : Nat → Int), args = [.d (TI (tab (2 ^ n) t)), .d (TI (rowN k p))] ∧ n ≤ 20 ∧ k < n ∧ p < 2 ^ k ∧ BitF (2 ^ n) t ∧ Φ (.d (TI [wt n (spec n t) (k + 1) (2 * p), wt n (spec n t) (k + 1) (2 * p + 1)]))
def D_weights_below : DS := (dSeq (dPar2 2 3 (dCall 1 sp_spectrum (dCons (dVar 0) dNil)) (dCall 1 sp_table_letters (dCons (dVar 0) dNil))) (dSeq (dRet (dTup (dCons (dCall 3 sp_weight_in (dCons (dVar 2) (dCons (dVar 3) (dCons (dBin oAdd (dVar 1) (dTup (dCons (dC (.int 0)) dNil))) dNil)))) (dCons (dCall 3 sp_weight_in (dCons (dVar 2) (dCons (dVar 3) (dCons (dBin oAdd (dVar 1) (dTup (dCons (dC (.int 1)) dNil))) dNil)))) dNil)))) dNext))
theorem row_0 (k p : Nat) : (rowN k p).map PyData.int ++ [.int 0] = (rowN (k + 1) (2 * p)).map .int := by
  rw [rowN_succ, show 2 * p / 2 = p by omega, show 2 * p % 2 = 0 by omega]; simp
theorem row_1 (k p : Nat) : (rowN k p).map PyData.int ++ [.int 1] = (rowN (k + 1) (2 * p + 1)).map .int := by
  rw [rowN_succ, show (2 * p + 1) / 2 = p by omega, show (2 * p + 1) % 2 = 1 by omega]; simp
theorem v_weights_below (args : List Val) (Φ : Val → Prop) (h : sp_weights_below args Φ) : D_weights_below (kRet Φ) (envS ["table", "begin", "values", "n"] args) := by
  obtain ⟨n, k, p, t, rfl, hn, hk, hp, ht, hΦ⟩ := h
  simp [D_weights_below, envS]
  refine ⟨n, t, rfl, hn, ?_⟩
  simp
  refine ⟨n, t, rfl, hn, ?_⟩
  simp [rowN_length]
  rw [row_0]
  have q : 2 ^ (k + 1) = 2 * 2 ^ k := by rw [Nat.pow_succ]; omega
  refine ⟨by omega, n, k + 1, 2 * p, _, rfl, hn, hk, by omega, spec_lim hn ht, ?_⟩
  simp [rowN_length]
  rw [row_1]
  exact ⟨by omega, n, k + 1, 2 * p + 1, _, rfl, hn, hk, by omega, spec_lim hn ht, by simp; exact hΦ⟩
end Ev
set_option Elab.async false
set_option linter.all false
set_option maxRecDepth 100000
/-! V6: trees. -/
namespace Ev
open PySem PySem.Spec PyProof.Rows L2

/-- the places of the rows of k letters in the tree -/
def lvl (n : Nat) (v : Nat → Int) (c : Int) : Nat → List Nat
  | 0 => [0]
  | k + 1 => (lvl n v c k).flatMap fun p => if c * c ≤ wt n v k p then [2 * p, 2 * p + 1] else []
theorem lvl_lt {n : Nat} {v : Nat → Int} {c : Int} : ∀ {k p : Nat}, p ∈ lvl n v c k → p < 2 ^ k
  | 0, p, h => by simp [lvl] at h; subst h; decide
  | k + 1, p, h => by
    simp only [lvl, List.mem_flatMap] at h
    obtain ⟨q, hq, h⟩ := h
    have := lvl_lt hq
    have e : 2 ^ (k + 1) = 2 * 2 ^ k := by rw [Nat.pow_succ]; omega
    split at h
    · simp at h; omega
    · simp at h
theorem grow_len {α : Type} (f : α → List Nat) (h : ∀ a, (f a).length ≤ 2) : ∀ l : List α, (l.flatMap f).length ≤ 2 * l.length
  | [] => by simp
  | a :: l => by
    have := grow_len f h l
    have := h a
    simp only [List.flatMap_cons, List.length_append, List.length_cons]; omega
theorem lvl_len {n : Nat} {v : Nat → Int} {c : Int} : ∀ k, (lvl n v c k).length ≤ 2 ^ k
  | 0 => by simp [lvl]
  | k + 1 => by
    have := lvl_len (n := n) (v := v) (c := c) k
    have := grow_len (fun p => if c * c ≤ wt n v k p then [2 * p, 2 * p + 1] else []) (fun a => by split <;> simp) (lvl n v c k)
    rw [Nat.pow_succ]
    simp only [lvl]; omega
def itm (n : Nat) (v : Nat → Int) (k p : Nat) : PyData := T [TI (rowN k p), I (wt n v k p)]
def lvD (n : Nat) (v : Nat → Int) (c : Int) (k : Nat) : List PyData := (lvl n v c k).map (itm n v k)
theorem lvD_len {n : Nat} {v : Nat → Int} {c : Int} {k : Nat} : (lvD n v c k).length ≤ 2 ^ k := by unfold lvD; rw [List.length_map]; exact lvl_len k
def sp_tree_levels : FSpec := fun args Φ => ∃ (n c : Nat) (t : Nat → Int), args = [.d (TI (tab (2 ^ n) t)), .d (.int c)] ∧ n ≤ 12 ∧ c ≤ 1048576 ∧ BitF (2 ^ n) t ∧ Φ (.own ((List.range (n + 1)).map fun k => .list (lvD n (spec n t) c k)))
def D_tree_levels : DS := (dSeq (dPar2 2 3 (dCall 1 sp_spectrum (dCons (dVar 0) dNil)) (dCall 1 sp_table_letters (dCons (dVar 0) dNil))) (dSeq (dPar2 4 5 (dLst dNil) (dLst (dCons (dTup (dCons (dTup dNil) (dCons (dCall 3 sp_weight_in (dCons (dVar 2) (dCons (dVar 3) (dCons (dTup dNil) dNil)))) dNil))) dNil))) (dSeq (dWhile (dTru (dC (.bool true))) (dSeq (dExpr (dApp 4 (dVar 5))) (dSeq (dIfS (dTst (dBin oGt (dUn oLen (dVar 4)) (dVar 3))) (dSeq (dRet (dVar 4)) dNext) dNext) (dSeq (dSet 6 (dLst dNil)) (dSeq (dFor (dSeqI (dVar 5)) (tTup 2 (tCons (tName 7) (tCons (tName 8) tNil))) (dSeq (dIfS (dTst (dBin oGe (dVar 8) (dBin oMul (dVar 1) (dVar 1)))) (dSeq (dSet 9 (dLst (dCons (dBin oAdd (dVar 7) (dTup (dCons (dC (.int 0)) dNil))) (dCons (dBin oAdd (dVar 7) (dTup (dCons (dC (.int 1)) dNil))) dNil)))) (dSeq (dExpr (dExt 6 (dLc [10] (dSeqI (dVar 9)) (tName 10) dYes (dTup (dCons (dVar 10) (dCons (dCall 3 sp_weight_in (dCons (dVar 2) (dCons (dVar 3) (dCons (dVar 10) dNil)))) dNil)))))) dNext)) dNext) dNext)) (dSeq (dSet 5 (dVar 6)) dNext)))))) dNext)))
abbrev B_tree_in : DS := (dSeq (dIfS (dTst (dBin oGe (dVar 8) (dBin oMul (dVar 1) (dVar 1)))) (dSeq (dSet 9 (dLst (dCons (dBin oAdd (dVar 7) (dTup (dCons (dC (.int 0)) dNil))) (dCons (dBin oAdd (dVar 7) (dTup (dCons (dC (.int 1)) dNil))) dNil)))) (dSeq (dExpr (dExt 6 (dLc [10] (dSeqI (dVar 9)) (tName 10) dYes (dTup (dCons (dVar 10) (dCons (dCall 3 sp_weight_in (dCons (dVar 2) (dCons (dVar 3) (dCons (dVar 10) dNil)))) dNil)))))) dNext)) dNext) dNext)
abbrev B_tree : DS := (dSeq (dExpr (dApp 4 (dVar 5))) (dSeq (dIfS (dTst (dBin oGt (dUn oLen (dVar 4)) (dVar 3))) (dSeq (dRet (dVar 4)) dNext) dNext) (dSeq (dSet 6 (dLst dNil)) (dSeq (dFor (dSeqI (dVar 5)) (tTup 2 (tCons (tName 7) (tCons (tName 8) tNil))) B_tree_in) (dSeq (dSet 5 (dVar 6)) dNext)))))
theorem tree_in {K : KE} {n c k : Nat} {v : Nat → Int} {e0 e4 e5 : Val} (hn : n ≤ 12) (hc : c ≤ 1048576) (hk : k < n) (hv : Lim (2 ^ n) v)
    (h : ∀ z7 z8 z9, K.nx [some e0, some (.d (.int c)), some (.d (TI (tab (2 ^ n) v))), some (.d (.int n)), some e4, some e5, some (.own (lvD n v c (k + 1))), z7, z8, z9, none]) (z7 z8 z9 : Option Val) :
    forW (tTup 2 (tCons (tName 7) (tCons (tName 8) tNil))) B_tree_in K (lvD n v c k) [some e0, some (.d (.int c)), some (.d (TI (tab (2 ^ n) v))), some (.d (.int n)), some e4, some e5, some (.own []), z7, z8, z9, none] := by
  have p12 : 2 ^ k ≤ 4096 := by have := two_le (show k ≤ 12 by omega); simpa using this
  have ll := lvl_len (n := n) (v := v) (c := (c : Int)) k
  refine forW_map (itm n v k) (fun r e => ∃ (done : List Nat) (z7 z8 z9 : Option Val), e = [some e0, some (.d (.int c)), some (.d (TI (tab (2 ^ n) v))), some (.d (.int n)), some e4, some e5, some (.own ((done.flatMap fun p => if (c : Int) * c ≤ wt n v k p then [2 * p, 2 * p + 1] else []).map (itm n v (k + 1)))), z7, z8, z9, none] ∧ done ++ r = lvl n v c k) ?_ ?_ (lvl n v c k) _ ⟨[], z7, z8, z9, rfl, rfl⟩
  · rintro e ⟨done, y7, y8, y9, rfl, h2⟩
    rw [List.append_nil] at h2
    subst h2
    exact h y7 y8 y9
  · rintro p r e ⟨done, y7, y8, y9, rfl, h2⟩ N hN
    have hp : p < 2 ^ k := lvl_lt (n := n) (v := v) (c := c) (by rw [← h2]; simp)
    have hd : done.length ≤ 4096 := by
      have : done.length ≤ (lvl n v c k).length := by rw [← h2]; simp
      omega
    have gl := grow_len (fun p => if (c : Int) * c ≤ wt n v k p then [2 * p, 2 * p + 1] else []) (fun a => by split <;> simp) done
    have q : 2 ^ (k + 1) = 2 * 2 ^ k := by rw [Nat.pow_succ]; omega
    by_cases hw : (c : Int) * c ≤ wt n v k p
    · have hw2 : ¬ wt n v k p < (c : Int) * c := by omega
      simp [itm, and_assoc, hw, hw2, rowN_length]
      rw [row_0, row_1]
      refine ⟨cm_small (by omega), by omega, ?_⟩
      refine compW_all (fun q => TI (rowN (k + 1) q)) (itm n v (k + 1)) [2 * p, 2 * p + 1] (by simp) (fun q hq M hM => ?_) ?_
      · simp
        refine ⟨n, k + 1, q, v, rfl, by omega, by omega, ?_, hv, ?_⟩
        · simp at hq; omega
        · simpa [itm] using hM
      · rw [List.length_flatMap] at gl
        simp
        refine ⟨by omega, hN _ ⟨done ++ [p], some (.d (TI (rowN k p))), some (.d (.int (wt n v k p))), some (.d (.list [TI (rowN (k + 1) (2 * p)), TI (rowN (k + 1) (2 * p + 1))])), ?_, by simpa using h2⟩⟩
        simp [hw]
    · have hw2 : wt n v k p < (c : Int) * c := by omega
      simp [itm, and_assoc, hw, hw2]
      refine ⟨cm_small (by omega), hN _ ⟨done ++ [p], some (.d (TI (rowN k p))), some (.d (.int (wt n v k p))), y9, ?_, by simpa using h2⟩⟩
      simp [hw]
theorem tree_loop {Φ : Val → Prop} {n c : Nat} {v : Nat → Int} {e0 : Val} (hn : n ≤ 12) (hc : c ≤ 1048576) (hv : Lim (2 ^ n) v)
    (h : Φ (.own ((List.range (n + 1)).map fun k => .list (lvD n v c k)))) : ∀ (m k : Nat) (e5 : Val) (z6 z7 z8 z9 : Option Val), k + m = n → toL e5 = some (lvD n v c k) → toD e5 = some (.list (lvD n v c k)) →
    whileN (dTru (dC (.bool true))) B_tree { nx := fun e => dNext (kRet Φ) e, rt := Φ, bk := fun _ => False, ct := fun _ => False } (m + 1) [some e0, some (.d (.int c)), some (.d (TI (tab (2 ^ n) v))), some (.d (.int n)), some (.own ((List.range k).map fun k => .list (lvD n v c k))), some e5, z6, z7, z8, z9, none]
  | 0, k, e5, z6, z7, z8, z9, e, h1, h2 => by
    have : k = n := by omega
    subst this
    rw [whileN]
    simp [List.range_succ] at h ⊢
    cases e5 with
    | own xs => cases h1; simp; exact ⟨by omega, .inr h⟩
    | d d => cases d with
      | list xs => cases h1; simp; exact ⟨by omega, .inr h⟩
      | _ => cases h1
    | _ => cases h1
  | m + 1, k, e5, z6, z7, z8, z9, e, h1, h2 => by
    have ih := tree_loop (e0 := e0) hn hc hv h m (k + 1)
    have go := fun z7 z8 z9 => tree_in (K := { nx := fun e => dSeq (dSet 5 (dVar 6)) dNext { nx := whileN (dTru (dC (.bool true))) B_tree { nx := fun e => dNext (kRet Φ) e, rt := Φ, bk := fun _ => False, ct := fun _ => False } (m + 1), ct := whileN (dTru (dC (.bool true))) B_tree { nx := fun e => dNext (kRet Φ) e, rt := Φ, bk := fun _ => False, ct := fun _ => False } (m + 1), bk := fun e => dNext (kRet Φ) e, rt := Φ } e, rt := Φ, bk := fun e => dNext (kRet Φ) e, ct := whileN (dTru (dC (.bool true))) B_tree { nx := fun e => dNext (kRet Φ) e, rt := Φ, bk := fun _ => False, ct := fun _ => False } (m + 1) })
      (e0 := e0) (e4 := .own ((List.range (k + 1)).map fun k => .list (lvD n v c k))) (e5 := .d (.list (lvD n v c k))) hn hc (show k < n by omega) hv (fun z7 z8 z9 => by
        simp
        exact ih _ _ z7 z8 z9 (by omega) rfl rfl) z7 z8 z9
    rw [List.range_succ, List.map_append] at go
    rw [whileN]
    cases e5 with
    | own xs => cases h1; simp; exact ⟨by omega, .inl ⟨by omega, go z7 z8 z9⟩⟩
    | d d => cases d with
      | list xs => cases h1; simp; exact ⟨by omega, .inl ⟨by omega, go z7 z8 z9⟩⟩
      | _ => cases h1
    | _ => cases h1
theorem v_tree_levels (args : List Val) (Φ : Val → Prop) (h : sp_tree_levels args Φ) : D_tree_levels (kRet Φ) (envS ["table", "least", "values", "n", "found", "here", "below", "begin", "weight", "further", "own"] args) := by
  obtain ⟨n, c, t, rfl, hn, hc, ht, hΦ⟩ := h
  have lp := fun e0 => tree_loop (e0 := e0) hn hc (spec_lim (by omega) ht) hΦ n 0 (.own (lvD n (spec n t) c 0)) none none none none (by omega) rfl rfl
  simp [D_tree_levels, envS]
  refine ⟨n, t, rfl, by omega, ?_⟩
  simp
  refine ⟨n, t, rfl, by omega, ?_⟩
  simp
  refine ⟨n, 0, 0, _, rfl, by omega, by omega, by decide, spec_lim (by omega) ht, ?_⟩
  simp [dWhile]
  exact ⟨n + 1, lp _⟩
end Ev
set_option Elab.async false
set_option linter.all false
set_option maxRecDepth 100000
/-! V7: equal data; papers of trees. -/
namespace Ev
open PySem PySem.Spec PyProof.Rows L2

/-! ### what may be compared -/
structure Lay (m : Nat) (d : PyData) : Prop where
  ok : d.canLay0 = true
  dp : d.depth ≤ m
theorem Lay.mono {m k : Nat} {d : PyData} (h : Lay m d) (l : m ≤ k) : Lay k d := ⟨h.ok, Nat.le_trans h.dp l⟩
theorem lay_i (i : Int) : Lay 0 (.int i) := ⟨by simp [PyData.canLay0], by simp [PyData.depth]⟩
theorem lay_n : Lay 0 .none := ⟨by simp [PyData.canLay0], by simp [PyData.depth]⟩
theorem lay_b (b : Bool) : Lay 0 (.bool b) := ⟨by simp [PyData.canLay0], by simp [PyData.depth]⟩
theorem lay_all {m : Nat} : ∀ {xs : List PyData}, (∀ x ∈ xs, Lay m x) → PyData.canLayAll0 xs = true ∧ PyData.depthAll xs ≤ m
  | [], _ => ⟨by simp [PyData.canLayAll0], by simp [PyData.depthAll]⟩
  | x :: xs, h => by
    have a := h x (List.mem_cons_self ..)
    obtain ⟨b, c⟩ := lay_all fun y hy => h y (List.mem_cons_of_mem _ hy)
    exact ⟨by simp [PyData.canLayAll0, a.ok, b], by have d := a.dp; simp only [PyData.depthAll]; omega⟩
theorem lay_t {m : Nat} {xs : List PyData} (h : ∀ x ∈ xs, Lay m x) : Lay (m + 1) (.tuple xs) := by
  obtain ⟨a, b⟩ := lay_all h
  exact ⟨by simpa [PyData.canLay0] using a, by simp only [PyData.depth]; omega⟩
theorem lay_l {m : Nat} {xs : List PyData} (h : ∀ x ∈ xs, Lay m x) : Lay (m + 1) (.list xs) := by
  obtain ⟨a, b⟩ := lay_all h
  exact ⟨by simpa [PyData.canLay0] using a, by simp only [PyData.depth]; omega⟩
theorem lay_TI (xs : List Int) : Lay 1 (TI xs) := lay_t fun x hx => by
  obtain ⟨i, _, rfl⟩ := List.mem_map.mp hx
  exact lay_i i
theorem Lay.shaped {m : Nat} {d : PyData} (h : Lay m d) (hm : m ≤ 64) : SeqAt.shaped d = true := by
  unfold SeqAt.shaped
  rw [h.ok, decide_eq_true (Nat.le_trans h.dp hm)]; rfl
theorem ne_same {m : Nat} {d : PyData} {Φ} (h : Lay m d) (hm : m ≤ 64) : oNe (.d d) (.d d) Φ ↔ Φ (.d (.bool false)) := by
  constructor
  · rintro (⟨a, b, h1, h2, _, _, q⟩ | ⟨a, b, h1, h2, q⟩)
    · cases h1; cases h2
      rw [SeqAt.eqv_refl d h.ok] at q; exact q
    · cases h1; cases h2
      simpa using q
  · intro q
    exact .inl ⟨d, d, rfl, rfl, h.shaped hm, h.shaped hm, by rw [SeqAt.eqv_refl d h.ok]; exact q⟩
theorem eq_same {m : Nat} {d : PyData} {Φ} (h : Lay m d) (hm : m ≤ 64) : oEq (.d d) (.d d) Φ ↔ Φ (.d (.bool true)) := by
  constructor
  · rintro (⟨a, b, h1, h2, _, _, q⟩ | ⟨a, b, h1, h2, q⟩)
    · cases h1; cases h2
      rw [SeqAt.eqv_refl d h.ok] at q; exact q
    · cases h1; cases h2
      simpa using q
  · intro q
    exact .inl ⟨d, d, rfl, rfl, h.shaped hm, h.shaped hm, by rw [SeqAt.eqv_refl d h.ok]; exact q⟩
theorem ne_diff {m : Nat} {d e : PyData} {Φ} (h : Lay m d) (h' : Lay m e) (hm : m ≤ 64) (hd : PyData.eqv d e = false) (q : Φ (.d (.bool true))) : oNe (.d d) (.d e) Φ :=
  .inl ⟨d, e, rfl, rfl, h.shaped hm, h'.shaped hm, by rw [hd]; exact q⟩
theorem eq_str {x : Str} {Φ} : oEq (.d (.str x)) (.d (.str x)) Φ ↔ Φ (.d (.bool true)) := by
  constructor
  · rintro (⟨a, b, h1, h2, s1, _, q⟩ | ⟨a, b, h1, h2, q⟩)
    · cases h1; cases h2
      rw [SeqAt.eqv_refl _ (Bool.and_eq_true_iff.mp s1).1] at q; exact q
    · cases h1; cases h2
      simpa using q
  · intro q
    exact .inr ⟨x, x, rfl, rfl, by simpa using q⟩
theorem eqvAll_ints : ∀ (xs ys : List Int), PyData.eqvAll (xs.map .int) (ys.map .int) = decide (xs = ys)
  | [], [] => by simp [PyData.eqvAll]
  | [], y :: ys => by simp [PyData.eqvAll]
  | x :: xs, [] => by simp [PyData.eqvAll]
  | x :: xs, y :: ys => by
    simp [PyData.eqvAll, PyData.eqv, eqvAll_ints xs ys]
    by_cases e : x = y <;> simp [e]
theorem ne_TI {xs ys : List Int} {Φ} : oNe (.d (TI xs)) (.d (TI ys)) Φ ↔ Φ (.d (.bool (!decide (xs = ys)))) := by
  simp [oNe, oNeD, oNeS, (lay_TI xs).shaped (by decide), (lay_TI ys).shaped (by decide)]
  simp [PyData.eqv, eqvAll_ints]
theorem eq_TI {xs ys : List Int} {Φ} : oEq (.d (TI xs)) (.d (TI ys)) Φ ↔ Φ (.d (.bool (decide (xs = ys)))) := by
  simp [oEq, oEqD, oEqS, (lay_TI xs).shaped (by decide), (lay_TI ys).shaped (by decide)]
  simp [PyData.eqv, eqvAll_ints]

/-! ### the whole tree -/
def treeP (n : Nat) (v : Nat → Int) (c : Int) : List (Nat × Nat) := (List.range (n + 1)).flatMap fun k => (lvl n v c k).map fun p => (k, p)
def treeD (n : Nat) (v : Nat → Int) (c : Int) : List PyData := (List.range (n + 1)).flatMap fun k => lvD n v c k
theorem treeD_eq (n : Nat) (v : Nat → Int) (c : Int) : treeD n v c = (treeP n v c).map fun q => itm n v q.1 q.2 := by
  unfold treeD treeP
  rw [List.map_flatMap]
  congr 1
  funext k
  simp [lvD, List.map_map, Function.comp_def]
theorem treeP_mem {n : Nat} {v : Nat → Int} {c : Int} {q : Nat × Nat} (h : q ∈ treeP n v c) : q.1 ≤ n ∧ q.2 < 2 ^ q.1 := by
  simp only [treeP, List.mem_flatMap, List.mem_range, List.mem_map] at h
  obtain ⟨k, hk, p, hp, rfl⟩ := h
  exact ⟨by omega, lvl_lt hp⟩
theorem flat_len {f : Nat → List PyData} (h : ∀ k, (f k).length ≤ 2 ^ k) : ∀ n, ((List.range n).flatMap f).length + 1 ≤ 2 ^ n
  | 0 => by simp
  | n + 1 => by
    have := flat_len h n
    have := h n
    rw [List.range_succ, List.flatMap_append, List.length_append, Nat.pow_succ]
    simp only [List.flatMap_cons, List.flatMap_nil, List.append_nil]
    omega
theorem treeD_len (n : Nat) (v : Nat → Int) (c : Int) : (treeD n v c).length + 1 ≤ 2 ^ (n + 1) := flat_len (fun k => lvD_len) (n + 1)
theorem treeP_len (n : Nat) (v : Nat → Int) (c : Int) : (treeP n v c).length = (treeD n v c).length := by rw [treeD_eq, List.length_map]
def sp_tree_paper : FSpec := fun args Φ => ∃ (n c : Nat) (t : Nat → Int), args = [.d (TI (tab (2 ^ n) t)), .d (.int c)] ∧ n ≤ 7 ∧ c ≤ 1048576 ∧ BitF (2 ^ n) t ∧ Φ (.d (T (treeD n (spec n t) c)))
def D_tree_paper : DS := (dSeq (dSet 2 (dLst dNil)) (dSeq (dFor (dSeqI (dCall 2 sp_tree_levels (dCons (dVar 0) (dCons (dVar 1) dNil)))) (tName 3) (dSeq (dExpr (dExt 2 (dVar 3))) dNext)) (dSeq (dIfS (dTst (dBin oGt (dUn oLen (dVar 2)) (dC (.int 500)))) (dSeq dNever dNext) dNext) (dSeq (dRet (dUn oTuple (dVar 2))) dNext))))
theorem v_tree_paper (args : List Val) (Φ : Val → Prop) (h : sp_tree_paper args Φ) : D_tree_paper (kRet Φ) (envS ["table", "least", "found", "level"] args) := by
  obtain ⟨n, c, t, rfl, hn, hc, ht, hΦ⟩ := h
  have tl := treeD_len n (spec n t) c
  have p8 : 2 ^ (n + 1) ≤ 256 := by have := two_le (show n + 1 ≤ 8 by omega); simpa using this
  simp [D_tree_paper, envS]
  refine ⟨n, c, t, rfl, by omega, hc, ht, ?_⟩
  simp
  refine forW_range _ (n + 1) (fun j e => ∃ z, e = [some (.d (TI (tab (2 ^ n) t))), some (.d (.int c)), some (.own ((List.range j).flatMap fun k => lvD n (spec n t) c k)), z]) ?_ ?_ _ ⟨none, rfl⟩
  · rintro e ⟨z, rfl⟩
    have e1 : ((((List.range (n + 1)).flatMap fun k => lvD n (spec n t) c k).length : Nat) : Int) ≤ 500 := by
      show (((treeD n (spec n t) c).length : Nat) : Int) ≤ 500
      omega
    have e2 : ¬ (500 : Int) < ((((List.range (n + 1)).flatMap fun k => lvD n (spec n t) c k).length : Nat) : Int) := by omega
    unfold treeD at hΦ
    generalize ((List.range (n + 1)).flatMap fun k => lvD n (spec n t) c k) = L at *
    simp [e2]
    exact ⟨by omega, hΦ⟩
  · rintro j hj e ⟨z, rfl⟩ N hN
    have b1 := flat_len (f := fun k => lvD n (spec n t) c k) (fun k => lvD_len) j
    have b2 := lvD_len (n := n) (v := spec n t) (c := c) (k := j)
    have b3 : 2 ^ j ≤ 2 ^ (n + 1) := two_le (by omega)
    have rs : ((List.range (j + 1)).flatMap fun k => lvD n (spec n t) c k) = ((List.range j).flatMap fun k => lvD n (spec n t) c k) ++ lvD n (spec n t) c j := by
      rw [List.range_succ, List.flatMap_append]; simp
    rw [rs] at hN
    generalize ((List.range j).flatMap fun k => lvD n (spec n t) c k) = L at *
    simp
    exact ⟨by omega, hN _ ⟨_, rfl⟩⟩
def sp_tree_widths : FSpec := fun args Φ => ∃ (n c : Nat) (t : Nat → Int), args = [.d (TI (tab (2 ^ n) t)), .d (.int c)] ∧ n ≤ 12 ∧ c ≤ 1048576 ∧ BitF (2 ^ n) t ∧ Φ (.d (TI (tab (n + 1) fun k => ((lvl n (spec n t) c k).length : Int))))
def D_tree_widths : DS := (dSeq (dRet (dUn oTuple (dLc [2] (dSeqI (dCall 2 sp_tree_levels (dCons (dVar 0) (dCons (dVar 1) dNil)))) (tName 2) dYes (dUn oLen (dVar 2))))) dNext)
theorem v_tree_widths (args : List Val) (Φ : Val → Prop) (h : sp_tree_widths args Φ) : D_tree_widths (kRet Φ) (envS ["table", "least", "level"] args) := by
  obtain ⟨n, c, t, rfl, hn, hc, ht, hΦ⟩ := h
  simp [D_tree_widths, envS]
  refine ⟨n, c, t, rfl, by omega, hc, ht, ?_⟩
  simp
  refine compW_tab _ (fun k => .int ((lvl n (spec n t) c k).length : Nat)) (by omega) (fun i hi M hM => ?_) ?_
  · simpa [lvD] using hM
  · rw [TI_tab] at hΦ
    exact hΦ

/-! ### judging a tree -/
def sp_is_begin : FSpec := fun args Φ => ∃ (xs : List Int) (n : Nat), args = [.d (TI xs), .d (.int n)] ∧ xs.length ≤ n ∧ n ≤ 1000 ∧ Bits xs ∧ Φ (.d (.bool true))
def D_is_begin : DS := (dSeq (dIfS (dOrT (dNotT (dTru (dUn (oIsi "tuple") (dVar 0)))) (dTst (dBin oGt (dUn oLen (dVar 0)) (dVar 1)))) (dSeq (dRet (dC (.bool false))) dNext) dNext) (dSeq (dRet (dUn oAll (dLc [2] (dSeqI (dVar 0)) (tName 2) dYes (dAndV (dCall 1 sp_is_integer (dCons (dVar 2) dNil)) (dChain oLe oLe (dC (.int 0)) (dVar 2) (dC (.int 1))))))) dNext))
theorem all_true {xs : List PyData} {Φ : Val → Prop} (h : ∀ x ∈ xs, x = .bool true) (hΦ : Φ (.d (.bool true))) : oAll (.own xs) Φ := by
  have e : xs = List.replicate xs.length (.bool true) := List.eq_replicate_iff.mpr ⟨rfl, h⟩
  refine ⟨xs, List.replicate xs.length true, rfl, ?_, by rw [all_trues]; exact hΦ⟩
  rw [e, List.length_replicate]
  exact truIs_trues _
theorem v_is_begin (args : List Val) (Φ : Val → Prop) (h : sp_is_begin args Φ) : D_is_begin (kRet Φ) (envS ["value", "n", "bit"] args) := by
  obtain ⟨xs, n, rfl, hl, hn, hb, hΦ⟩ := h
  have e1 : ¬ n < xs.length := by omega
  simp [D_is_begin, envS, oIsi, isi_t, e1]
  refine ⟨hl, ?_⟩
  refine compW_all PyData.int (fun _ => .bool true) xs (by omega) (fun x hx N hN => ?_) ?_
  · simp
    refine ⟨x, rfl, ?_⟩
    rcases hb x hx with rfl | rfl <;> simpa using hN
  · exact all_true (by simp) hΦ
def sp_is_item : FSpec := fun args Φ => ∃ (xs : List Int) (w : Int) (n : Nat), args = [.d (T [TI xs, I w]), .d (.int n)] ∧ xs.length ≤ n ∧ n ≤ 1000 ∧ Bits xs ∧ Φ (.d (.bool true))
def D_is_item : DS := (dSeq (dIfS (dOrT (dNotT (dTru (dUn (oIsi "tuple") (dVar 0)))) (dTst (dBin oNe (dUn oLen (dVar 0)) (dC (.int 2))))) (dSeq (dRet (dC (.bool false))) dNext) dNext) (dSeq (dRet (dAndV (dCall 2 sp_is_begin (dCons (dBin oIxS (dVar 0) (dC (.int 0))) (dCons (dVar 1) dNil))) (dCall 1 sp_is_integer (dCons (dBin oIxS (dVar 0) (dC (.int 1))) dNil)))) dNext))
theorem at_0 {a b : PyData} : atI [a, b] (0 : Int) = some a := rfl
theorem at_1 {a b : PyData} : atI [a, b] (1 : Int) = some b := rfl
theorem v_is_item (args : List Val) (Φ : Val → Prop) (h : sp_is_item args Φ) : D_is_item (kRet Φ) (envS ["value", "n"] args) := by
  obtain ⟨xs, w, n, rfl, hl, hn, hb, hΦ⟩ := h
  simp [D_is_item, envS, oIsi, isi_t, oNe_int, at_0]
  refine ⟨xs, n, rfl, hl, hn, hb, ?_⟩
  simp [at_1]
  exact ⟨w, rfl, hΦ⟩
end Ev
set_option Elab.async false
set_option linter.all false
set_option maxRecDepth 100000
/-! V8: the judge of trees. -/
namespace Ev
open PySem PySem.Spec PyProof.Rows L2

theorem enum_map {α : Type} (g : α → PyData) (ws : List α) : enumD (ws.map g) = (List.range ws.length).map fun i => PyData.tuple [.int (i : Nat), (ws.map g).getD i .none] := by
  unfold enumD
  rw [List.length_map]
theorem getD_map {α : Type} {g : α → PyData} {ws : List α} {i : Nat} {q : α} (h : ws[i]? = some q) : (ws.map g).getD i .none = g q := by
  rw [List.getD, List.getElem?_map, h]; rfl
theorem get_lt {α : Type} {ws : List α} {i : Nat} (h : i < ws.length) : ∃ q, ws[i]? = some q := ⟨ws[i], List.getElem?_eq_getElem h⟩
abbrev W3 := Nat × Nat × Int
def itw (q : W3) : PyData := T [TI (rowN q.1 q.2.1), I q.2.2]
def rightW (n : Nat) (v : Nat → Int) (q : W3) : Prop := q.2.2 = wt n v q.1 q.2.1
def sp_tree_error : FSpec := fun args Φ => ∃ (n c : Nat) (t : Nat → Int), n ≤ 7 ∧ c ≤ 1048576 ∧ BitF (2 ^ n) t ∧
  ((∃ xs, args = [.d (TI (tab (2 ^ n) t)), .d (.int c), .d (.list xs)] ∧ Φ (.d (.str "form"))) ∨
   ∃ ws : List W3, args = [.d (TI (tab (2 ^ n) t)), .d (.int c), .d (T (ws.map itw))] ∧ ws.map (fun q => (q.1, q.2.1)) = treeP n (spec n t) c ∧ ((∀ q ∈ ws, rightW n (spec n t) q) → Φ (.d .none)) ∧
     ∀ (i : Nat) (q : W3), ws[i]? = some q → (∀ (j : Nat) (q' : W3), j < i → ws[j]? = some q' → rightW n (spec n t) q') → ¬ rightW n (spec n t) q → Φ (.d (T [.str "weight", I i, I (wt n (spec n t) q.1 q.2.1)])))
def D_tree_error : DS := (dSeq (dPar3 3 4 5 (dCall 2 sp_tree_paper (dCons (dVar 0) (dCons (dVar 1) dNil))) (dCall 1 sp_spectrum (dCons (dVar 0) dNil)) (dCall 1 sp_table_letters (dCons (dVar 0) dNil))) (dSeq (dIfS (dOrT (dNotT (dTru (dUn (oIsi "tuple") (dVar 2)))) (dNotT (dTru (dUn oAll (dLc [10] (dSeqI (dVar 2)) (tName 10) dYes (dCall 2 sp_is_item (dCons (dVar 10) (dCons (dVar 5) dNil)))))))) (dSeq (dRet (dC (.str "form"))) dNext) dNext) (dSeq (dFor (dEnum (dCons (dVar 2) dNil)) (tTup 2 (tCons (tName 6) (tCons (tTup 2 (tCons (tName 7) (tCons (tName 8) tNil))) tNil))) (dSeq (dSet 9 (dCall 3 sp_weight_in (dCons (dVar 4) (dCons (dVar 5) (dCons (dVar 7) dNil))))) (dSeq (dIfS (dTst (dBin oNe (dVar 8) (dVar 9))) (dSeq (dRet (dTup (dCons (dC (.str "weight")) (dCons (dVar 6) (dCons (dVar 9) dNil))))) dNext) dNext) dNext))) (dSeq (dFor (dRng1 (dCons (dBin oMax2 (dUn oLen (dVar 3)) (dUn oLen (dVar 2))) dNil)) (tName 6) (dSeq (dIfS (dOrT (dTst (dBin oGe (dVar 6) (dUn oLen (dVar 3)))) (dOrT (dTst (dBin oGe (dVar 6) (dUn oLen (dVar 2)))) (dTst (dBin oNe (dBin oIxS (dBin oIxS (dVar 3) (dVar 6)) (dC (.int 0))) (dBin oIxS (dBin oIxS (dVar 2) (dVar 6)) (dC (.int 0))))))) (dSeq (dRet (dTup (dCons (dC (.str "begin")) (dCons (dVar 6) dNil)))) dNext) dNext) dNext)) (dSeq (dRet (dC .none)) dNext)))))
theorem v_tree_error (args : List Val) (Φ : Val → Prop) (h : sp_tree_error args Φ) : D_tree_error (kRet Φ) (envS ["table", "least", "value", "due", "values", "n", "i", "begin", "weight", "right", "own"] args) := by
  obtain ⟨n, c, t, hn, hc, ht, h⟩ := h
  rcases h with ⟨xs, rfl, hΦ⟩ | ⟨ws, rfl, hw, h1, h2⟩
  · simp [D_tree_error, envS]
    refine ⟨n, c, t, rfl, by omega, hc, ht, ?_⟩
    simp
    refine ⟨n, t, rfl, by omega, ?_⟩
    simp
    refine ⟨n, t, rfl, by omega, ?_⟩
    simp [oIsi, isi_lt]
    exact hΦ
  · have tl := treeD_len n (spec n t) c
    have p8 : 2 ^ (n + 1) ≤ 256 := by have := two_le (show n + 1 ≤ 8 by omega); simpa using this
    have wl : ws.length = (treeD n (spec n t) c).length := by rw [← treeP_len, ← hw, List.length_map]
    have mem : ∀ (i : Nat) (q : W3), ws[i]? = some q → q.1 ≤ n ∧ q.2.1 < 2 ^ q.1 ∧ (treeP n (spec n t) c)[i]? = some (q.1, q.2.1) := fun i q hq => by
      have e : (treeP n (spec n t) c)[i]? = some (q.1, q.2.1) := by rw [← hw, List.getElem?_map, hq]; rfl
      have := treeP_mem (List.mem_of_getElem? e)
      exact ⟨this.1, this.2, e⟩
    simp [D_tree_error, envS]
    refine ⟨n, c, t, rfl, by omega, hc, ht, ?_⟩
    simp
    refine ⟨n, t, rfl, by omega, ?_⟩
    simp
    refine ⟨n, t, rfl, by omega, ?_⟩
    simp [oIsi, isi_t]
    refine compW_all itw (fun _ => .bool true) ws (by omega) (fun q hq N hN => ?_) ?_
    · obtain ⟨i, hi⟩ := List.getElem?_of_mem hq
      obtain ⟨m1, m2, _⟩ := mem i q hi
      simp
      refine ⟨rowN q.1 q.2.1, q.2.2, n, rfl, by rw [rowN_length]; exact m1, by omega, rowN_bits _ _, ?_⟩
      simpa using hN
    · refine all_true (fun x hx => by obtain ⟨_, _, rfl⟩ := List.mem_map.mp hx; rfl) ?_
      simp [enum_map]
      refine forW_range _ ws.length (fun j e => (∃ z6 z7 z8 z9, e = [some (.d (TI (tab (2 ^ n) t))), some (.d (.int c)), some (.d (T (ws.map itw))), some (.d (T (treeD n (spec n t) c))), some (.d (TI (tab (2 ^ n) (spec n t)))), some (.d (.int n)), z6, z7, z8, z9, none]) ∧ ∀ (i : Nat) (q : W3), i < j → ws[i]? = some q → rightW n (spec n t) q) ?_ ?_ _ ⟨⟨none, none, none, none, rfl⟩, fun i q hi => by omega⟩
      · rintro e ⟨⟨z6, z7, z8, z9, rfl⟩, hh⟩
        have fin : Φ (.d .none) := h1 fun q hq => by
          obtain ⟨i, hi⟩ := List.getElem?_of_mem hq
          exact hh i q (List.getElem?_eq_some_iff.mp hi).1 hi
        have ws1 := wl.symm
        simp [ws1]
        refine ⟨by omega, ?_⟩
        refine forW_range _ ws.length (fun j e => ∃ z6 z7 z8 z9, e = [some (.d (TI (tab (2 ^ n) t))), some (.d (.int c)), some (.d (T (ws.map itw))), some (.d (T (treeD n (spec n t) c))), some (.d (TI (tab (2 ^ n) (spec n t)))), some (.d (.int n)), z6, z7, z8, z9, none]) ?_ ?_ _ ⟨z6, z7, z8, z9, rfl⟩
        · rintro e ⟨z6, z7, z8, z9, rfl⟩
          simpa using fin
        · rintro j hj e ⟨z6, z7, z8, z9, rfl⟩ N hN
          obtain ⟨q, hq⟩ := get_lt hj
          obtain ⟨m1, m2, m3⟩ := mem j q hq
          have a1 : atI (treeD n (spec n t) c) (j : Int) = some (itm n (spec n t) q.1 q.2.1) := at_nat (by rw [treeD_eq, List.getElem?_map, m3]; rfl)
          have a2 : atI (ws.map itw) (j : Int) = some (itw q) := at_nat (by rw [List.getElem?_map, hq]; rfl)
          have n1 : ¬ (treeD n (spec n t) c).length ≤ j := by omega
          have n2 : ¬ ws.length ≤ j := by omega
          simp [a1, a2, itm, itw, at_0, ne_TI, n1, n2]
          exact ⟨by omega, hj, hN _ ⟨_, _, _, _, rfl⟩⟩
      · rintro j hj e ⟨⟨z6, z7, z8, z9, rfl⟩, hh⟩ N hN
        obtain ⟨q, hq⟩ := get_lt hj
        obtain ⟨m1, m2, m3⟩ := mem j q hq
        rw [hq]
        simp [and_assoc, itw]
        refine ⟨n, q.1, q.2.1, spec n t, rfl, by omega, m1, m2, spec_lim (by omega) ht, ?_⟩
        simp [oNe_int]
        by_cases r : q.2.2 = wt n (spec n t) q.1 q.2.1
        · simp [r]
          refine hN _ ⟨⟨_, _, _, _, rfl⟩, fun i q' hi hq' => ?_⟩
          by_cases e : i = j
          · subst e
            rw [hq] at hq'
            cases hq'
            exact r
          · exact hh i q' (by omega) hq'
        · simp [r]
          exact h2 j q hq (fun i q' hi hq' => hh i q' hi hq') r
end Ev
set_option Elab.async false
set_option linter.all false
set_option maxRecDepth 100000
/-! V9: great rows, spectra back. -/
namespace Ev
open PySem PySem.Spec PyProof.Rows L2

def iabs (i : Int) : Int := if i < 0 then -i else i
def sp_rows_at : FSpec := fun args Φ => ∃ (n : Nat) (ps : List Nat), args = [.d (.int n), .d (.list (ps.map fun (p : Nat) => I p))] ∧ n ≤ 1000 ∧ ps.length ≤ 500 ∧ Φ (.d (T (ps.map fun p => TI (rowN n p))))
def D_rows_at : DS := (dSeq (dIfS (dTst (dBin oGt (dUn oLen (dVar 1)) (dC (.int 500)))) (dSeq dNever dNext) dNext) (dSeq (dRet (dUn oTuple (dLc [2] (dSeqI (dVar 1)) (tName 2) dYes (dCall 2 sp_row_at (dCons (dVar 0) (dCons (dVar 2) dNil)))))) dNext))
theorem v_rows_at (args : List Val) (Φ : Val → Prop) (h : sp_rows_at args Φ) : D_rows_at (kRet Φ) (envS ["n", "places", "place"] args) := by
  obtain ⟨n, ps, rfl, hn, hl, hΦ⟩ := h
  have e1 : ¬ 500 < ps.length := by omega
  simp [D_rows_at, envS, e1]
  refine .inl ⟨by omega, ?_⟩
  refine compW_all (fun (p : Nat) => I p) (fun p => TI (rowN n p)) ps (by omega) (fun p hp N hN => ?_) ?_
  · simp
    exact ⟨n, p, rfl, hn, by simp; exact hN⟩
  · exact hΦ
def grt (n : Nat) (v : Nat → Int) (c : Int) : List Nat := (List.range (2 ^ n)).filter fun s => decide (c ≤ iabs (v s))
theorem grt_len (n : Nat) (v : Nat → Int) (c : Int) : (grt n v c).length ≤ 2 ^ n := by
  have := List.length_filter_le (fun s => decide (c ≤ iabs (v s))) (List.range (2 ^ n))
  simpa [grt] using this
def sp_great_rows : FSpec := fun args Φ => ∃ (n c : Nat) (t : Nat → Int), args = [.d (TI (tab (2 ^ n) t)), .d (.int c)] ∧ n ≤ 8 ∧ BitF (2 ^ n) t ∧ Φ (.d (T ((grt n (spec n t) c).map fun p => TI (rowN n p))))
def D_great_rows : DS := (dSeq (dSet 2 (dCall 1 sp_spectrum (dCons (dVar 0) dNil))) (dSeq (dRet (dCall 2 sp_rows_at (dCons (dCall 1 sp_table_letters (dCons (dVar 0) dNil)) (dCons (dLc [3, 4] (dEnum (dCons (dVar 2) dNil)) (tTup 2 (tCons (tName 3) (tCons (tName 4) tNil))) (dTst (dBin oGe (dUn oAbs (dVar 4)) (dVar 1))) (dVar 3)) dNil)))) dNext))
theorem v_great_rows (args : List Val) (Φ : Val → Prop) (h : sp_great_rows args Φ) : D_great_rows (kRet Φ) (envS ["table", "least", "values", "place", "value"] args) := by
  obtain ⟨n, c, t, rfl, hn, ht, hΦ⟩ := h
  simp [D_great_rows, envS]
  refine ⟨n, t, rfl, by omega, ?_⟩
  simp
  refine ⟨n, t, rfl, by omega, ?_⟩
  simp [enum_tab]
  have p8 : 2 ^ n ≤ 256 := by have := two_le hn; simpa using this
  refine compW_map (fun i : Nat => PyData.tuple [.int (i : Nat), .int (spec n t i)]) (fun s => decide ((c : Int) ≤ iabs (spec n t s))) (fun i : Nat => I i) (List.range (2 ^ n)) [] (by simp; omega) (fun s hs N S hN hS => ?_) ?_
  · simp [and_assoc]
    by_cases g : (c : Int) ≤ iabs (spec n t s)
    · have g2 : ¬ iabs (spec n t s) < c := by omega
      have hN := hN (by simpa using g)
      unfold iabs at g g2
      simp [g, g2]
      exact hN
    · have g2 : iabs (spec n t s) < c := by omega
      have hS := hS (by simpa using g2)
      unfold iabs at g g2
      simp [g, g2]
      exact hS
  · simp
    exact ⟨n, grt n (spec n t) c, by rfl, by omega, by have := grt_len n (spec n t) c; omega, hΦ⟩
def sp_rows_most : FSpec := fun args Φ => ∃ (n c : Nat), args = [.d (.int n), .d (.int c)] ∧ n ≤ 20 ∧ 0 < c ∧ c ≤ 30000 ∧ Φ (.d (.int (((2 ^ (2 * n) : Nat) : Int) / ((c : Int) * c))))
def D_rows_most : DS := (dSeq (dRet (dBin oDiv (dCall 1 sp_power_of_two (dCons (dBin oMul (dC (.int 2)) (dVar 0)) dNil)) (dBin oMul (dVar 1) (dVar 1)))) dNext)
theorem v_rows_most (args : List Val) (Φ : Val → Prop) (h : sp_rows_most args Φ) : D_rows_most (kRet Φ) (envS ["n", "least"] args) := by
  obtain ⟨n, c, rfl, hn, hc, hc2, hΦ⟩ := h
  simp [D_rows_most, envS]
  refine ⟨cm_small (by omega), 2 * n, by simp, by omega, ?_⟩
  generalize ((2 ^ (2 * n) : Nat) : Int) = M at *
  have h1 : c * c ≤ 30000 * 30000 := Nat.mul_le_mul hc2 hc2
  have h2 : 0 < c * c := Nat.mul_pos hc hc
  have e : (c : Int) * c = ((c * c : Nat) : Int) := by push_cast; rfl
  simp
  rw [e] at hΦ ⊢
  exact ⟨cm_small (by omega), ⟨by omega, by omega⟩, hΦ⟩
def sp_squares_sum : FSpec := fun args Φ => ∃ (n : Nat) (v : Nat → Int), args = [.d (TI (tab n v))] ∧ n ≤ 16777216 ∧ Lim n v ∧ Φ (.d (.int (sumN n fun i => v i * v i)))
def D_squares_sum : DS := (dSeq (dRet (dUn oSum (dLc [1] (dSeqI (dVar 0)) (tName 1) dYes (dBin oMul (dVar 1) (dVar 1))))) dNext)
theorem v_squares_sum (args : List Val) (Φ : Val → Prop) (h : sp_squares_sum args Φ) : D_squares_sum (kRet Φ) (envS ["values", "item"] args) := by
  obtain ⟨n, v, rfl, hn, hv, hΦ⟩ := h
  simp [D_squares_sum, envS]
  refine compW_ints (fun i => .int (v i * v i)) hn (fun i hi N hN => ?_) (sum_tab (by simpa using hΦ))
  have := hv i hi
  simp
  exact ⟨cm_small (by omega), hN⟩
def sp_cubes_sum : FSpec := fun args Φ => ∃ (n : Nat) (v : Nat → Int), args = [.d (TI (tab n v))] ∧ n ≤ 16777216 ∧ Lim n v ∧ Φ (.d (.int (sumN n fun i => v i * v i * v i)))
def D_cubes_sum : DS := (dSeq (dRet (dUn oSum (dLc [1] (dSeqI (dVar 0)) (tName 1) dYes (dBin oMul (dBin oMul (dVar 1) (dVar 1)) (dVar 1))))) dNext)
theorem v_cubes_sum (args : List Val) (Φ : Val → Prop) (h : sp_cubes_sum args Φ) : D_cubes_sum (kRet Φ) (envS ["values", "item"] args) := by
  obtain ⟨n, v, rfl, hn, hv, hΦ⟩ := h
  simp [D_cubes_sum, envS]
  refine compW_ints (fun i => .int (v i * v i * v i)) hn (fun i hi N hN => ?_) (sum_tab (by simpa using hΦ))
  have := hv i hi
  simp
  exact ⟨cm_small (by omega), cm_small' (by omega), hN⟩

/-! ### tables out of spectra -/
theorem hat_back : ∀ (n : Nat) (f : Nat → Int) (x : Nat), x < 2 ^ n → hat n (hat n f) x = 2 ^ n * f x
  | 0, f, x, h => by
    have : x = 0 := by simpa using h
    subst this; simp [hat]
  | n + 1, f, x, h => by
    have P : 2 ^ (n + 1) = 2 ^ n + 2 ^ n := by rw [Nat.pow_succ]; omega
    have pw : (2 : Int) ^ (n + 1) = 2 * 2 ^ n := by rw [Int.pow_succ]; omega
    by_cases hs : x < 2 ^ n
    · rw [(hat_top hs).1, hat_congr (g := fun s => 2 * hat n f s) fun s hs' => by rw [(hat_top hs').1, (hat_top hs').2, hat_plus, hat_minus]; omega]
      rw [hat_mul, hat_back n f x hs, pw]
      grind
    · obtain ⟨y, rfl⟩ : ∃ y, x = y + 2 ^ n := ⟨x - 2 ^ n, by omega⟩
      have hy : y < 2 ^ n := by omega
      rw [(hat_top hy).2, hat_congr (g := fun s => 2 * hat n (fun z => f (z + 2 ^ n)) s) fun s hs' => by rw [(hat_top hs').1, (hat_top hs').2, hat_plus, hat_minus]; omega]
      rw [hat_mul, hat_back n _ y hy, pw]
      grind
def sp_is_spectrum : FSpec := fun args Φ => ∃ (n : Nat) (t : Nat → Int), args = [.d (TI (tab (2 ^ n) (spec n t)))] ∧ n ≤ 20 ∧ BitF (2 ^ n) t ∧ Φ (.d (.bool true))
def D_is_spectrum : DS := (dSeq (dSet 1 (dUn oLen (dVar 0))) (dSeq (dRet (dUn oAll (dLc [2] (dSeqI (dCall 1 sp_led_through (dCons (dVar 0) dNil))) (tName 2) dYes (dBin (oInG false) (dVar 2) (dTup (dCons (dVar 1) (dCons (dUn oNeg (dVar 1)) dNil))))))) dNext))
theorem v_is_spectrum (args : List Val) (Φ : Val → Prop) (h : sp_is_spectrum args Φ) : D_is_spectrum (kRet Φ) (envS ["value", "many", "item"] args) := by
  obtain ⟨n, t, rfl, hn, ht, hΦ⟩ := h
  simp [D_is_spectrum, envS]
  refine ⟨n, _, rfl, hn, ?_⟩
  have tl : ((tab (2 ^ n) (spec n t)).length : Int) = ((2 ^ n : Nat) : Int) := by rw [tab_length]
  rw [tl]
  simp
  refine compW_ints (fun _ => .bool true) (len20 hn) (fun i hi N hN => ?_) (all_true (fun x hx => by obtain ⟨_, _, rfl⟩ := List.mem_map.mp hx; rfl) hΦ)
  have e : hat n (spec n t) i = ((2 ^ n : Nat) : Int) * sg t i := by rw [two_cast]; exact hat_back n (sg t) i hi
  rw [e]
  simp
  refine .inr ⟨_, _, rfl, rfl, rfl, rfl, ?_⟩
  unfold sg
  rcases ht i hi with h | h <;> rw [h] <;> simpa [PyData.eqv] using hN
def sp_table_of_spectrum : FSpec := fun args Φ => ∃ (n : Nat) (t : Nat → Int), args = [.d (TI (tab (2 ^ n) (spec n t)))] ∧ n ≤ 20 ∧ BitF (2 ^ n) t ∧ Φ (.d (TI (tab (2 ^ n) t)))
def D_table_of_spectrum : DS := (dSeq (dIfS (dNotT (dTru (dCall 1 sp_is_spectrum (dCons (dVar 0) dNil)))) (dSeq dNever dNext) dNext) (dSeq (dRet (dUn oTuple (dLc [1] (dSeqI (dCall 1 sp_led_through (dCons (dVar 0) dNil))) (tName 1) dYes (dUn oInt (dBin oLt (dVar 1) (dC (.int 0))))))) dNext))
theorem v_table_of_spectrum (args : List Val) (Φ : Val → Prop) (h : sp_table_of_spectrum args Φ) : D_table_of_spectrum (kRet Φ) (envS ["value", "item"] args) := by
  obtain ⟨n, t, rfl, hn, ht, hΦ⟩ := h
  simp [D_table_of_spectrum, envS]
  refine ⟨n, t, rfl, hn, ht, ?_⟩
  simp
  refine ⟨n, _, rfl, hn, ?_⟩
  simp
  refine compW_ints (fun i => .int (t i)) (len20 hn) (fun i hi N hN => ?_) (by rw [TI_tab] at hΦ; exact hΦ)
  have e : hat n (spec n t) i = ((2 ^ n : Nat) : Int) * sg t i := by rw [two_cast]; exact hat_back n (sg t) i hi
  have p := Nat.two_pow_pos n
  rw [e]
  generalize 2 ^ n = M at *
  unfold sg
  rcases ht i hi with h | h <;> rw [h] at hN ⊢ <;> simp
  · have : ¬ (M : Int) < 0 := by omega
    simp [this]
    exact .inr hN
  · have : ¬ M = 0 := by omega
    simp [this]
    exact .inr ⟨p, hN⟩
end Ev
set_option Elab.async false
set_option linter.all false
set_option maxRecDepth 100000
/-! V10: great rows of a paper. -/
namespace Ev
open PySem PySem.Spec PyProof.Rows L2

theorem wt_split {n k q : Nat} {v : Nat → Int} (hk : k < n) : wt n v k q = wt n v (k + 1) (2 * q) + wt n v (k + 1) (2 * q + 1) := by
  unfold wt
  obtain ⟨m, hm⟩ : ∃ m, n - k = m + 1 := ⟨n - k - 1, by omega⟩
  rw [show n - (k + 1) = m by omega, hm, sumN_two]
  have e : 2 ^ (m + 1) = 2 * 2 ^ m := by rw [Nat.pow_succ]; omega
  congr 1
  · refine sumN_congr fun j _ => ?_
    rw [e, show q * (2 * 2 ^ m) = 2 * q * 2 ^ m by rw [← Nat.mul_assoc, Nat.mul_comm q]]
  · refine sumN_congr fun j _ => ?_
    rw [e, show q * (2 * 2 ^ m) = 2 * q * 2 ^ m by rw [← Nat.mul_assoc, Nat.mul_comm q], show 2 * q * 2 ^ m + (j + 2 ^ m) = (2 * q + 1) * 2 ^ m + j by rw [Nat.add_mul]; omega]
theorem sumN_nonneg {f : Nat → Int} : ∀ {n : Nat}, (∀ i, i < n → 0 ≤ f i) → 0 ≤ sumN n f
  | 0, _ => by simp [sumN]
  | n + 1, h => by
    have := sumN_nonneg (n := n) fun i hi => h i (by omega)
    have := h n (by omega)
    simp only [sumN]; omega
theorem sq_nonneg (a : Int) : 0 ≤ a * a := by
  rcases Int.le_total 0 a with h | h
  · exact Int.mul_nonneg h h
  · have := Int.mul_nonneg (show 0 ≤ -a by omega) (show 0 ≤ -a by omega)
    rwa [Int.neg_mul_neg] at this
theorem wt_nonneg {n k q : Nat} {v : Nat → Int} : 0 ≤ wt n v k q := sumN_nonneg fun _ _ => sq_nonneg _
theorem wt_up {n k q : Nat} {v : Nat → Int} (hk : k < n) : wt n v (k + 1) q ≤ wt n v k (q / 2) := by
  rw [wt_split hk]
  rcases Nat.mod_two_eq_zero_or_one q with e | e
  · rw [show 2 * (q / 2) = q by omega]
    have := wt_nonneg (n := n) (k := k + 1) (q := q + 1) (v := v)
    omega
  · rw [show 2 * (q / 2) + 1 = q by omega]
    have := wt_nonneg (n := n) (k := k + 1) (q := 2 * (q / 2)) (v := v)
    omega
def okB (n : Nat) (v : Nat → Int) (c : Int) : Nat → Nat → Bool
  | 0, _ => true
  | k + 1, q => okB n v c k (q / 2) && decide (c * c ≤ wt n v k (q / 2))
theorem flat_two (P Q : Nat → Bool) : ∀ m, ((List.range m).filter P).flatMap (fun p => if Q p = true then [2 * p, 2 * p + 1] else []) = (List.range (2 * m)).filter fun q => P (q / 2) && Q (q / 2)
  | 0 => rfl
  | m + 1 => by
    have ih := flat_two P Q m
    rw [List.range_succ, List.filter_append, List.flatMap_append, ih, show 2 * (m + 1) = 2 * m + 1 + 1 by omega, List.range_succ, List.range_succ, List.filter_append, List.filter_append, List.append_assoc]
    congr 1
    have e1 : 2 * m / 2 = m := by omega
    have e2 : (2 * m + 1) / 2 = m := by omega
    cases hp : P m <;> cases hq : Q m <;> simp [List.filter_cons, hp, hq, e1, e2]
theorem lvl_filter (n : Nat) (v : Nat → Int) (c : Int) : ∀ k, lvl n v c k = (List.range (2 ^ k)).filter (okB n v c k)
  | 0 => rfl
  | k + 1 => by
    rw [lvl, lvl_filter n v c k, Nat.pow_succ, Nat.mul_comm]
    have := flat_two (okB n v c k) (fun p => decide (c * c ≤ wt n v k p)) (2 ^ k)
    simp only [decide_eq_true_eq] at this
    exact this
theorem ok_of {n : Nat} {v : Nat → Int} {c : Int} : ∀ {k q : Nat}, k ≤ n → c * c ≤ wt n v k q → okB n v c k q = true
  | 0, _, _, _ => rfl
  | k + 1, q, hk, h => by
    have u := wt_up (q := q) (v := v) (show k < n by omega)
    simp only [okB]
    rw [ok_of (by omega) (Int.le_trans h u), decide_eq_true (Int.le_trans h u)]; rfl
theorem wt_leaf {n p : Nat} {v : Nat → Int} : wt n v n p = v p * v p := by
  unfold wt
  simp [sumN]
theorem sq_le {a c : Int} (hc : 0 ≤ c) : c * c ≤ a * a ↔ c ≤ iabs a := by
  have key : ∀ b : Int, 0 ≤ b → (c * c ≤ b * b ↔ c ≤ b) := fun b hb => by
    constructor
    · intro h
      apply Int.not_lt.mp
      intro hlt
      have h1 : b * b ≤ b * c := Int.mul_le_mul_of_nonneg_left (by omega) hb
      have h2 : b * c < c * c := Int.mul_lt_mul_of_pos_right hlt (by omega)
      omega
    · intro h
      exact Int.le_trans (Int.mul_le_mul_of_nonneg_left h hc) (Int.mul_le_mul_of_nonneg_right h hb)
  unfold iabs
  split
  · rw [show a * a = -a * -a by rw [Int.neg_mul_neg]]
    exact key (-a) (by omega)
  · exact key a (by omega)
theorem lvl_grt {n : Nat} {v : Nat → Int} {c : Int} (hc : 0 ≤ c) : (lvl n v c n).filter (fun p => decide (c * c ≤ wt n v n p)) = grt n v c := by
  rw [lvl_filter, List.filter_filter]
  unfold grt
  congr 1
  funext p
  rw [wt_leaf]
  by_cases h : c * c ≤ v p * v p
  · rw [decide_eq_true h, decide_eq_true ((sq_le hc).mp h), ok_of (Nat.le_refl n) (by rw [wt_leaf]; exact h)]; rfl
  · rw [decide_eq_false h, decide_eq_false (fun z => h ((sq_le hc).mpr z))]; rfl
theorem tree_part (n : Nat) (v : Nat → Int) (c : Int) (k : Nat) (hk : k ≤ n) (P : Nat → Bool) : (treeP n v c).filter (fun q => decide (q.1 = k) && P q.2) = ((lvl n v c k).filter P).map fun p => (k, p) := by
  have key : ∀ m, ((List.range m).flatMap fun j => (lvl n v c j).map fun p => (j, p)).filter (fun q => decide (q.1 = k) && P q.2) = if k < m then ((lvl n v c k).filter P).map fun p => (k, p) else [] := by
    intro m
    induction m with
    | zero => simp
    | succ m ih =>
      rw [List.range_succ, List.flatMap_append, List.filter_append, ih]
      simp only [List.flatMap_cons, List.flatMap_nil, List.append_nil]
      rw [List.filter_map]
      by_cases e : m = k
      · subst e
        rw [if_neg (by omega), if_pos (by omega)]
        simp [Function.comp_def]
      · have : (fun q : Nat × Nat => decide (q.1 = k) && P q.2) ∘ (fun p => (m, p)) = fun _ => false := by
          funext p; simp [e]
        rw [this]
        by_cases h : k < m
        · rw [if_pos h, if_pos (by omega)]; simp
        · rw [if_neg h, if_neg (by omega)]; simp
  have := key (n + 1)
  rw [if_pos (by omega)] at this
  exact this
theorem code_row : ∀ (k p : Nat), p < 2 ^ k → TS.code 2 (rowN k p) = p
  | 0, p, h => by
    have : p = 0 := by simpa using h
    subst this; rfl
  | k + 1, p, h => by
    by_cases hp : p < 2 ^ k
    · rw [rowN_lo hp]
      show (0 : Int) * 2 ^ (rowN k p).length + TS.code 2 (rowN k p) = p
      rw [code_row k p hp]; omega
    · obtain ⟨q, rfl⟩ : ∃ q, p = q + 2 ^ k := ⟨p - 2 ^ k, by omega⟩
      have hq : q < 2 ^ k := by rw [Nat.pow_succ] at h; omega
      rw [rowN_hi hq]
      show (1 : Int) * 2 ^ (rowN k q).length + TS.code 2 (rowN k q) = _
      rw [code_row k q hq, rowN_length, ← two_cast]; omega
theorem grt_sorted (n : Nat) (v : Nat → Int) (c : Int) : (grt n v c).Pairwise (· < ·) := (List.pairwise_lt_range).sublist List.filter_sublist
theorem grt_lt {n : Nat} {v : Nat → Int} {c : Int} {p : Nat} (h : p ∈ grt n v c) : p < 2 ^ n := by
  simp only [grt, List.mem_filter, List.mem_range] at h
  exact h.1
def sp_great_of_paper : FSpec := fun args Φ => ∃ (n c : Nat) (v : Nat → Int), args = [.d (.int n), .d (.int c), .d (T (treeD n v c))] ∧ 1 ≤ n ∧ n ≤ 5 ∧ c ≤ 1048576 ∧ Φ (.d (T ((grt n v c).map fun p => TI (rowN n p))))
def D_great_of_paper : DS := (dSeq (dRet (dUn oTuple (dUn oSorted (dLc [3, 4] (dSeqI (dVar 2)) (tTup 2 (tCons (tName 3) (tCons (tName 4) tNil))) (dAndT (dTst (dBin oEq (dUn oLen (dVar 3)) (dVar 0))) (dTst (dBin oGe (dVar 4) (dBin oMul (dVar 1) (dVar 1))))) (dVar 3))))) dNext)
theorem v_great_of_paper (args : List Val) (Φ : Val → Prop) (h : sp_great_of_paper args Φ) : D_great_of_paper (kRet Φ) (envS ["n", "least", "paper", "begin", "weight"] args) := by
  obtain ⟨n, c, v, rfl, h1, hn, hc, hΦ⟩ := h
  have tl := treeD_len n v c
  have p6 : 2 ^ (n + 1) ≤ 64 := by have := two_le (show n + 1 ≤ 6 by omega); simpa using this
  have p5 : 2 ^ n ≤ 32 := by have := two_le hn; simpa using this
  have gl := grt_len n v (c : Int)
  simp [D_great_of_paper, envS]
  rw [treeD_eq]
  refine compW_map (fun q : Nat × Nat => itm n v q.1 q.2) (fun q => decide (q.1 = n) && decide ((c : Int) * c ≤ wt n v n q.2)) (fun q : Nat × Nat => TI (rowN q.1 q.2)) (treeP n v c) [] (by simp [treeP_len]; omega) (fun q hq N S hN hS => ?_) ?_
  · obtain ⟨k, p⟩ := q
    show tTup 2 (tCons (tName 3) (tCons (tName 4) tNil)) (T [TI (rowN k p), I (wt n v k p)]) _ _
    simp [and_assoc, oEq_int, rowN_length]
    simp only at hN hS
    by_cases e : k = n
    · subst e
      by_cases g : (c : Int) * c ≤ wt k v k p
      · have g2 : ¬ wt k v k p < (c : Int) * c := by omega
        simp [g, g2]
        exact ⟨cm_small (by omega), hN (by simp [g])⟩
      · have g2 : wt k v k p < (c : Int) * c := by omega
        simp [g, g2]
        exact ⟨cm_small (by omega), hS (by simp [g2])⟩
    · exact .inl ⟨by omega, hS (by simp [e])⟩
  · rw [tree_part n v c n (Nat.le_refl n) (fun p => decide ((c : Int) * c ≤ wt n v n p)), lvl_grt (by omega)]
    refine .inr ⟨n, 2, (grt n v c).map (rowN n), ?_, h1, by rw [List.length_map]; omega, fun r hr => ?_, fun qs hp hs => ?_⟩
    · simp [List.map_map, Function.comp_def]
      intro a _
      rfl
    · obtain ⟨p, hp, rfl⟩ := List.mem_map.mp hr
      refine ⟨rowN_length n p, fun b hb => ?_⟩
      rcases rowN_bits n p b hb with rfl | rfl <;> decide
    · have e : qs = (grt n v c).map (rowN n) := by
        refine List.Perm.eq_of_pairwise (le := fun x y => TS.code 2 x ≤ TS.code 2 y) (fun a b ha hb x y => ?_) hs ?_ hp
        · obtain ⟨p, hp', rfl⟩ := List.mem_map.mp (hp.mem_iff.mp ha)
          obtain ⟨q, hq', rfl⟩ := List.mem_map.mp hb
          rw [code_row n p (grt_lt hp'), code_row n q (grt_lt hq')] at x y
          have : p = q := by omega
          rw [this]
        · rw [List.pairwise_map]
          refine (List.Pairwise.and_mem.mp (grt_sorted n v c)).imp fun {a b} ⟨ha, hb, hab⟩ => ?_
          rw [code_row n a (grt_lt ha), code_row n b (grt_lt hb)]
          omega
      rw [e]
      simp
      have e2 : (fun p => TI (rowN n p)) = tupI ∘ rowN n := rfl
      rw [e2] at hΦ
      exact hΦ
end Ev
set_option Elab.async false
set_option linter.all false
set_option maxRecDepth 100000
/-! V11: led through rows. -/
namespace Ev
open PySem PySem.Spec PyProof.Rows L2

/-! ### plain -/
theorem addR_length (xs ys : List Int) : (addR xs ys).length = min xs.length ys.length := by simp [addR]
theorem addR_bits (xs ys : List Int) : Bits (addR xs ys) := fun b hb => by
  simp only [addR, List.mem_map] at hb
  obtain ⟨q, _, rfl⟩ := hb
  omega
theorem prodR_add : ∀ (a b s : List Int), a.length = b.length → prodR (addR a b) s = (prodR a s + prodR b s) % 2
  | [], [], s, _ => by simp [addR, prodR]
  | [], _ :: _, _, h => by cases h
  | _ :: _, [], _, h => by cases h
  | x :: a, y :: b, [], _ => by simp [prodR]
  | x :: a, y :: b, z :: s, h => by
    have ih := prodR_add a b s (by simpa using h)
    have e : addR (x :: a) (y :: b) = (x + y) % 2 :: addR a b := rfl
    rw [e, prodR_cons, prodR_cons, prodR_cons, ih]
    have : ((x + y) % 2 * z) % 2 = (x * z + y * z) % 2 := by
      rw [← Int.add_mul, Int.mul_emod, Int.emod_emod_of_dvd _ (Int.dvd_refl 2), ← Int.mul_emod]
    omega
theorem prodR_comm : ∀ (a b : List Int), prodR a b = prodR b a
  | [], [] => rfl
  | [], _ :: _ => by simp [prodR]
  | _ :: _, [] => by simp [prodR]
  | x :: a, y :: b => by rw [prodR_cons, prodR_cons, prodR_comm a b, Int.mul_comm]
def thrF (qs : List (List Int × Int)) (a : List Int) : List Int := qs.foldl (fun a q => if q.2 = 1 then addR a q.1 else a) a
def thr (n : Nat) (rs : List (List Int)) (ys : List Int) : List Int := thrF (rs.zip ys) (List.replicate n 0)
def RowsOf (n : Nat) (rs : List (List Int)) : Prop := ∀ r ∈ rs, r.length = n ∧ Bits r
theorem thrF_row {n : Nat} : ∀ (qs : List (List Int × Int)) (a : List Int), (∀ q ∈ qs, q.1.length = n) → a.length = n → Bits a → (thrF qs a).length = n ∧ Bits (thrF qs a)
  | [], a, _, h, b => ⟨h, b⟩
  | q :: qs, a, hq, h, b => by
    unfold thrF
    rw [List.foldl_cons]
    have := hq q (List.mem_cons_self ..)
    split
    · exact thrF_row qs _ (fun q' h' => hq q' (List.mem_cons_of_mem _ h')) (by rw [addR_length]; omega) (addR_bits _ _)
    · exact thrF_row qs _ (fun q' h' => hq q' (List.mem_cons_of_mem _ h')) h b
theorem thr_row {n : Nat} {rs : List (List Int)} {ys : List Int} (h : RowsOf n rs) : (thr n rs ys).length = n ∧ Bits (thr n rs ys) :=
  thrF_row _ _ (fun q hq => (h q.1 (List.of_mem_zip hq).1).1) (by simp) (fun b hb => .inl (List.eq_of_mem_replicate hb))
theorem prodR_zero : ∀ (n : Nat) (s : List Int), prodR (List.replicate n 0) s = 0
  | 0, s => by simp [prodR]
  | n + 1, [] => by simp [prodR]
  | n + 1, z :: s => by rw [List.replicate_succ, prodR_cons, prodR_zero n s]; simp
theorem thrF_prod {n : Nat} (s : List Int) : ∀ (rs : List (List Int)) (ys : List Int) (a : List Int), RowsOf n rs → Bits ys → a.length = n → prodR (thrF (rs.zip ys) a) s = (prodR a s + prodR (rs.map fun r => prodR r s) ys) % 2
  | [], ys, a, _, _, _ => by
    rcases prodR_bit a s with e | e <;> simp [thrF, prodR] at e ⊢ <;> omega
  | r :: rs, [], a, _, _, _ => by
    rcases prodR_bit a s with e | e <;> simp [thrF, prodR] at e ⊢ <;> omega
  | r :: rs, y :: ys, a, hr, hy, ha => by
    have lr := (hr r (List.mem_cons_self ..)).1
    have hr' : RowsOf n rs := fun x hx => hr x (List.mem_cons_of_mem _ hx)
    have b0 := prodR_bit a s
    have b1 := prodR_bit r s
    have b2 := prodR_bit (rs.map fun r => prodR r s) ys
    rw [List.map_cons, prodR_cons]
    unfold thrF
    rw [List.zip_cons_cons, List.foldl_cons]
    rcases hy.head with e | e
    · subst e
      have ih := thrF_prod s rs ys a hr' hy.tail ha
      unfold thrF at ih
      simp only [show ((0 : Int) = 1) = False by simp, if_false]
      rw [ih]; omega
    · subst e
      have ih := thrF_prod s rs ys (addR a r) hr' hy.tail (by rw [addR_length]; omega)
      unfold thrF at ih
      simp only [if_true]
      rw [ih, prodR_add a r s (by omega)]; omega
theorem thr_prod {n : Nat} {rs : List (List Int)} {ys s : List Int} (hr : RowsOf n rs) (hy : Bits ys) : prodR (thr n rs ys) s = prodR (rs.map fun r => prodR r s) ys := by
  have := thrF_prod s rs ys (List.replicate n 0) hr hy (by simp)
  unfold thr
  rw [this, prodR_zero]
  rcases prodR_bit (rs.map fun r => prodR r s) ys with e | e <;> rw [e] <;> rfl
/-- the place of the row that the sum of rows is -/
def thrP (n : Nat) (rs : List (List Int)) (q : Nat) : Nat := (placeF 0 (thr n rs (rowN rs.length q))).toNat
theorem thrP_ok {n : Nat} {rs : List (List Int)} (hr : RowsOf n rs) (q : Nat) : thrP n rs q < 2 ^ n ∧ thr n rs (rowN rs.length q) = rowN n (thrP n rs q) ∧ placeF 0 (thr n rs (rowN rs.length q)) = thrP n rs q := by
  obtain ⟨l, b⟩ := thr_row (ys := rowN rs.length q) hr
  obtain ⟨p, hp, e⟩ := bits_rowN b
  rw [l] at hp e
  have pl := place_rowN n p hp
  have : thrP n rs q = p := by unfold thrP; rw [e, pl]; omega
  rw [this]
  exact ⟨hp, e, by rw [e, pl]⟩
/-- the row of products with s, as a place -/
def ledR (n : Nat) (rs : List (List Int)) (s : Nat) : List Int := rs.map fun r => prodR r (rowN n s)
def ledP (n : Nat) (rs : List (List Int)) (s : Nat) : Nat := (placeF 0 (ledR n rs s)).toNat
theorem ledP_ok (n : Nat) (rs : List (List Int)) (s : Nat) : ledP n rs s < 2 ^ rs.length ∧ ledR n rs s = rowN rs.length (ledP n rs s) ∧ placeF 0 (ledR n rs s) = ledP n rs s := by
  have b : Bits (ledR n rs s) := fun x hx => by
    simp only [ledR, List.mem_map] at hx
    obtain ⟨r, _, rfl⟩ := hx
    exact prodR_bit _ _
  have l : (ledR n rs s).length = rs.length := by simp [ledR]
  obtain ⟨p, hp, e⟩ := bits_rowN b
  rw [l] at hp e
  have pl := place_rowN rs.length p hp
  have : ledP n rs s = p := by unfold ledP; rw [e, pl]; omega
  rw [this]
  exact ⟨hp, e, by rw [e, pl]⟩
theorem hat_sumN (m : Nat) (a : Nat → Nat → Int) (q : Nat) : ∀ N, hat m (fun y => sumN N fun s => a s y) q = sumN N fun s => hat m (a s) q
  | 0 => by
    simp only [sumN]
    have := hat_mul m 0 (fun _ => 0) q
    simpa using this
  | N + 1 => by
    simp only [sumN]
    rw [hat_plus, hat_sumN m a q N]
theorem sumN_delta {g : Nat → Int} {a : Nat} : ∀ {N : Nat}, a < N → (sumN N fun x => g x * if x = a then 1 else 0) = g a
  | 0, h => by omega
  | N + 1, h => by
    simp only [sumN]
    by_cases e : N = a
    · subst e
      rw [sumN_congr (g := fun _ => 0) fun i hi => by rw [if_neg (by omega)]; omega, sumN_const]
      simp
    · rw [sumN_delta (N := N) (by omega), if_neg e]; omega
theorem hat_chi {m a q : Nat} (ha : a < 2 ^ m) (hq : q < 2 ^ m) : hat m (fun y => 1 - 2 * par m a y) q = 2 ^ m * if q = a then 1 else 0 := by
  rw [← hat_back m (fun x => if x = a then 1 else 0) q hq]
  refine hat_congr fun y hy => ?_
  rw [← hat_sum m y _ hy, sumN_delta (g := fun x => 1 - 2 * par m y x) ha]
  unfold par
  rw [prodR_comm]
theorem led_eq {n : Nat} {rs : List (List Int)} {t : Nat → Int} (hr : RowsOf n rs) {q : Nat} (hq : q < 2 ^ rs.length) :
    2 ^ rs.length * (sumN (2 ^ n) fun s => if ledP n rs s = q then spec n t s else 0) = 2 ^ n * spec rs.length (fun y => t (thrP n rs y)) q := by
  have e1 : 2 ^ n * spec rs.length (fun y => t (thrP n rs y)) q = hat rs.length (fun y => sumN (2 ^ n) fun s => spec n t s * (1 - 2 * par rs.length (ledP n rs s) y)) q := by
    unfold spec
    rw [← hat_mul]
    refine hat_congr fun y hy => ?_
    obtain ⟨h1, h2, h3⟩ := thrP_ok hr y
    have hb := hat_back n (sg t) (thrP n rs y) h1
    rw [show (2 : Int) ^ n * sg (fun y => t (thrP n rs y)) y = 2 ^ n * sg t (thrP n rs y) from rfl, ← hb, ← hat_sum n (thrP n rs y) _ h1]
    refine sumN_congr fun s hs => ?_
    have : par n (thrP n rs y) s = par rs.length (ledP n rs s) y := by
      unfold par
      rw [← h2, thr_prod hr (rowN_bits _ _)]
      have := (ledP_ok n rs s).2.1
      unfold ledR at this
      rw [this]
    rw [this, Int.mul_comm]
  rw [e1, hat_sumN, ← sumN_mul]
  refine sumN_congr fun s hs => ?_
  have h1 := (ledP_ok n rs s).1
  rw [hat_mul, hat_chi h1 hq]
  by_cases e : ledP n rs s = q
  · rw [if_pos e, if_pos e.symm]; grind
  · rw [if_neg e, if_neg (Ne.symm e)]; grind

/-! ### the defs -/
theorem zip_rows (rs : List (List Int)) (ys : List Int) : zipD (rs.map TI) (ys.map .int) = (rs.zip ys).map fun q => PyData.tuple [TI q.1, .int q.2] := by
  unfold zipD
  rw [List.zip_map, List.map_map]; rfl
def sp_rows_through : FSpec := fun args Φ => ∃ (n : Nat) (rs : List (List Int)) (ys : List Int), args = [.d (.int n), .d (T (rs.map TI)), .d (TI ys)] ∧ n ≤ 1000 ∧ RowsOf n rs ∧ Φ (.d (TI (thr n rs ys)))
def D_rows_through : DS := (dSeq (dSet 3 (dBin oMul (dTup (dCons (dC (.int 0)) dNil)) (dVar 0))) (dSeq (dFor (dZip (dCons (dVar 1) (dCons (dVar 2) dNil))) (tTup 2 (tCons (tName 4) (tCons (tName 5) tNil))) (dSeq (dIfS (dTst (dBin oEq (dVar 5) (dC (.int 1)))) (dSeq (dSet 3 (dCall 2 sp_rows_added (dCons (dVar 3) (dCons (dVar 4) dNil)))) dNext) dNext) dNext)) (dSeq (dRet (dVar 3)) dNext)))
theorem zeros (n : Nat) : List.replicate n (PyData.int 0) = (List.replicate n (0 : Int)).map .int := by simp
theorem v_rows_through (args : List Val) (Φ : Val → Prop) (h : sp_rows_through args Φ) : D_rows_through (kRet Φ) (envS ["n", "rows", "y", "found", "row", "bit"] args) := by
  obtain ⟨n, rs, ys, rfl, hn, hr, hΦ⟩ := h
  simp [D_rows_through, envS]
  refine mul_one hn ?_
  simp [and_assoc]
  rw [zip_rows]
  refine forW_map (fun q : List Int × Int => PyData.tuple [TI q.1, .int q.2]) (fun r e => ∃ (a : List Int) (z4 z5 : Option Val), e = [some (.d (.int n)), some (.d (T (rs.map TI))), some (.d (TI ys)), some (.d (TI a)), z4, z5] ∧ a.length = n ∧ thrF r a = thr n rs ys ∧ ∀ q ∈ r, q.1.length = n) ?_ ?_ (rs.zip ys) _ ⟨List.replicate n 0, none, none, by simp, by simp, rfl, fun q hq => (hr q.1 (List.of_mem_zip hq).1).1⟩
  · rintro e ⟨a, z4, z5, rfl, h1, h2, h3⟩
    have h2 : a = thr n rs ys := h2
    simp
    rw [h2]
    exact hΦ
  · rintro q r e ⟨a, z4, z5, rfl, h1, h2, h3⟩ N hN
    have hq := h3 q (List.mem_cons_self ..)
    unfold thrF at h2
    rw [List.foldl_cons] at h2
    by_cases c : q.2 = 1
    · rw [if_pos c] at h2
      simp [and_assoc, oEq_int, c]
      refine ⟨a, q.1, rfl, by omega, ?_⟩
      simp
      exact hN _ ⟨addR a q.1, _, _, rfl, by rw [addR_length]; omega, h2, fun q' h' => h3 q' (List.mem_cons_of_mem _ h')⟩
    · rw [if_neg c] at h2
      simp [and_assoc, oEq_int, c]
      exact hN _ ⟨a, _, _, rfl, h1, h2, fun q' h' => h3 q' (List.mem_cons_of_mem _ h')⟩
def sp_table_size : FSpec := sp_table_letters
def D_table_size : DS := (dSeq (dSet 1 (dC (.int 0))) (dSeq (dWhile (dTst (dBin oLt (dCall 1 sp_power_of_two (dCons (dVar 1) dNil)) (dUn oLen (dVar 0)))) (dSeq (dSet 1 (dBin oAdd (dVar 1) (dC (.int 1)))) dNext)) (dSeq (dRet (dVar 1)) dNext)))
theorem size_loop {K : KE} {n : Nat} {t : Nat → Int} (hn : n ≤ 20) : ∀ (m k : Nat), k + m = n → K.nx [some (.d (TI (tab (2 ^ n) t))), some (.d (.int n))] →
    whileN (dTst (dBin oLt (dCall 1 sp_power_of_two (dCons (dVar 1) dNil)) (dUn oLen (dVar 0)))) (dSeq (dSet 1 (dBin oAdd (dVar 1) (dC (.int 1)))) dNext) K (m + 1) [some (.d (TI (tab (2 ^ n) t))), some (.d (.int k))]
  | 0, k, e, h => by
    have : k = n := by omega
    subst this
    rw [whileN]
    have tl : ((tab (2 ^ k) t).length : Int) = ((2 ^ k : Nat) : Int) := by rw [tab_length]
    have st : ∀ Ψ : Val → Prop, Ψ (.d (.int ((2 ^ k : Nat) : Int))) → sp_power_of_two [.d (.int k)] Ψ := fun Ψ hΨ => ⟨k, rfl, by omega, hΨ⟩
    generalize ((2 ^ k : Nat) : Int) = a at *
    simp [tl]
    refine st _ ?_
    simp
    exact h
  | m + 1, k, e, h => by
    have ih := size_loop (K := K) (t := t) hn m (k + 1) (by omega) h
    rw [whileN]
    have p : 2 ^ (k + 1) ≤ 2 ^ n := two_le (by omega)
    have a1 : ((2 ^ k : Nat) : Int) < ((2 ^ n : Nat) : Int) := by rw [Nat.pow_succ] at p; have := Nat.two_pow_pos k; omega
    have st : ∀ Ψ : Val → Prop, Ψ (.d (.int ((2 ^ k : Nat) : Int))) → sp_power_of_two [.d (.int k)] Ψ := fun Ψ hΨ => ⟨k, rfl, by omega, hΨ⟩
    have tl : ((tab (2 ^ n) t).length : Int) = ((2 ^ n : Nat) : Int) := by rw [tab_length]
    generalize ((2 ^ n : Nat) : Int) = a at *
    generalize ((2 ^ k : Nat) : Int) = b at *
    have a2 : ¬ a ≤ b := by omega
    simp [tl]
    refine st _ ?_
    simp [a1, a2]
    simpa using ih
theorem v_table_size (args : List Val) (Φ : Val → Prop) (h : sp_table_size args Φ) : D_table_size (kRet Φ) (envS ["table", "n"] args) := by
  obtain ⟨n, t, rfl, hn, hΦ⟩ := h
  simp only [D_table_size, envS]
  have l := size_loop (t := t) (K := { nx := fun e => dSeq (dRet (dVar 1)) dNext (kRet Φ) e, rt := Φ, bk := fun _ => False, ct := fun _ => False }) hn n 0 (by omega) (by simpa using hΦ)
  simp [dWhile]
  exact ⟨n + 1, l⟩
end Ev
set_option Elab.async false
set_option linter.all false
set_option maxRecDepth 100000
/-! V12: led tables, spectra; the law's own helpers. -/
namespace Ev
open PySem PySem.Spec PyProof.Rows L2

theorem rows_items (n : Nat) : (rowsN n).map TI = (List.range (2 ^ n)).map fun i => TI (rowN n i) := by
  rw [rowsN_tab, List.map_map]; rfl
def sp_led_table : FSpec := fun args Φ => ∃ (n : Nat) (t : Nat → Int) (rs : List (List Int)), args = [.d (TI (tab (2 ^ n) t)), .d (T (rs.map TI))] ∧ n ≤ 20 ∧ rs.length ≤ 12 ∧ RowsOf n rs ∧ Φ (.d (TI (tab (2 ^ rs.length) fun q => t (thrP n rs q))))
def D_led_table : DS := (dSeq (dSet 2 (dCall 1 sp_table_size (dCons (dVar 0) dNil))) (dSeq (dRet (dUn oTuple (dLc [3] (dSeqI (dCall 1 sp_all_rows (dCons (dUn oLen (dVar 1)) dNil))) (tName 3) dYes (dBin oIxS (dVar 0) (dCall 1 sp_row_place (dCons (dCall 3 sp_rows_through (dCons (dVar 2) (dCons (dVar 1) (dCons (dVar 3) dNil)))) dNil)))))) dNext))
theorem v_led_table (args : List Val) (Φ : Val → Prop) (h : sp_led_table args Φ) : D_led_table (kRet Φ) (envS ["table", "rows", "n", "y"] args) := by
  obtain ⟨n, t, rs, rfl, hn, hm, hr, hΦ⟩ := h
  simp [D_led_table, envS]
  refine ⟨n, t, rfl, hn, ?_⟩
  simp
  refine ⟨rs.length, rfl, hm, ?_⟩
  simp
  rw [rows_items]
  refine compW_tab _ (fun q => .int (t (thrP n rs q))) (len20 (by omega)) (fun q hq N hN => ?_) (by rw [TI_tab] at hΦ; exact hΦ)
  obtain ⟨h1, h2, h3⟩ := thrP_ok hr q
  simp
  refine ⟨n, rs, _, rfl, by omega, hr, ?_⟩
  simp
  refine ⟨_, rfl, ?_⟩
  rw [h3]
  simp
  exact ⟨_, stepped_get h1, hN⟩
def sp_led_spectrum : FSpec := fun args Φ => ∃ (n : Nat) (t : Nat → Int) (rs : List (List Int)), args = [.d (.int n), .d (TI (tab (2 ^ n) (spec n t))), .d (T (rs.map TI))] ∧ n ≤ 12 ∧ rs.length ≤ 12 ∧ RowsOf n rs ∧ Φ (.d (TI (tab (2 ^ rs.length) (spec rs.length fun q => t (thrP n rs q)))))
def D_led_spectrum : DS := (dSeq (dSet 3 (dCall 1 sp_power_of_two (dCons (dUn oLen (dVar 2)) dNil))) (dSeq (dSet 4 (dBin oMul (dLst (dCons (dC (.int 0)) dNil)) (dVar 3))) (dSeq (dFor (dZip (dCons (dCall 1 sp_all_rows (dCons (dVar 0) dNil)) (dCons (dVar 1) dNil))) (tTup 2 (tCons (tName 5) (tCons (tName 6) tNil))) (dSeq (dSet 7 (dCall 1 sp_row_place (dCons (dUn oTuple (dLc [8] (dSeqI (dVar 2)) (tName 8) dYes (dCall 2 sp_rows_product (dCons (dVar 8) (dCons (dVar 5) dNil))))) dNil))) (dSeq (dAsg (tSub 4 (dVar 7)) (dBin oAdd (dBin oIxS (dVar 4) (dVar 7)) (dVar 6))) dNext))) (dSeq (dRet (dUn oTuple (dLc [6] (dSeqI (dVar 4)) (tName 6) dYes (dBin oDiv (dBin oMul (dVar 3) (dVar 6)) (dUn oLen (dVar 1)))))) dNext))))
theorem zip_rt (n : Nat) (v : Nat → Int) : zipD ((rowsN n).map TI) ((tab (2 ^ n) v).map .int) = (List.range (2 ^ n)).map fun s => PyData.tuple [TI (rowN n s), .int (v s)] := by
  rw [rows_items]
  unfold zipD tab
  rw [List.map_map, List.zip_map', List.map_map]; rfl
theorem rep_tab (m : Nat) : List.replicate m (PyData.int 0) = (tab m fun _ => 0).map .int := by
  unfold tab
  rw [List.map_map]
  show _ = (List.range m).map fun _ => PyData.int 0
  rw [List.map_const', List.length_range]
theorem v_led_spectrum (args : List Val) (Φ : Val → Prop) (h : sp_led_spectrum args Φ) : D_led_spectrum (kRet Φ) (envS ["n", "values", "rows", "many", "found", "s", "item", "place", "row"] args) := by
  obtain ⟨n, t, rs, rfl, hn, hm, hr, hΦ⟩ := h
  simp [D_led_spectrum, envS]
  refine ⟨rs.length, rfl, by omega, ?_⟩
  have led : ∀ q, q < 2 ^ rs.length → ((2 ^ rs.length : Nat) : Int) * (sumN (2 ^ n) fun s => if ledP n rs s = q then spec n t s else 0) / ((2 ^ n : Nat) : Int) = spec rs.length (fun y => t (thrP n rs y)) q := fun q hq => by
    rw [two_cast, two_cast, led_eq hr hq, Int.mul_ediv_cancel_left _ (by have := Int.pow_pos (n := 2) (m := n) (by decide); omega)]
  have lp := fun s => ledP_ok n rs s
  have cd := fun a : Int => cdivN (a := a) (show n ≤ 20 by omega)
  have m12 : 2 ^ rs.length ≤ 16777216 := len20 (by omega)
  have tl : ((tab (2 ^ n) (spec n t)).length : Int) = ((2 ^ n : Nat) : Int) := by rw [tab_length]
  generalize hM : 2 ^ rs.length = M at *
  refine mul_oneL m12 ?_
  refine ⟨n, rfl, hn, ?_⟩
  simp [and_assoc]
  rw [zip_rt]
  refine forW_range _ (2 ^ n) (fun j e => ∃ z5 z6 z7, e = [some (.d (.int n)), some (.d (TI (tab (2 ^ n) (spec n t)))), some (.d (T (rs.map TI))), some (.d (.int M)), some (.own ((tab M fun q => sumN j fun s => if ledP n rs s = q then spec n t s else 0).map .int)), z5, z6, z7, none]) ?_ ?_ _ ⟨none, none, none, ?_⟩
  · rintro e ⟨z5, z6, z7, rfl⟩
    generalize hN : ((2 ^ n : Nat) : Int) = NN at *
    have fin : compW (tName 6) dYes (dBin oDiv (dBin oMul (dVar 3) (dVar 6)) (dUn oLen (dVar 1))) [6] ((tab M fun q => sumN (2 ^ n) fun s => if ledP n rs s = q then spec n t s else 0).map .int)
        [some (.d (.int n)), some (.d (TI (tab (2 ^ n) (spec n t)))), some (.d (T (rs.map TI))), some (.d (.int M)), some (.d (.list ((tab M fun q => sumN (2 ^ n) fun s => if ledP n rs s = q then spec n t s else 0).map .int))), z5, none, z7, none] [] (fun ds env2 => Φ (.d (.tuple ds))) := by
      refine compW_ints (fun q => .int (spec rs.length (fun y => t (thrP n rs y)) q)) m12 (fun q hq N hNN => ?_) (by rw [TI_tab] at hΦ; exact hΦ)
      have e := led q hq
      simp [tl]
      rw [e]
      exact ⟨cm_small (by omega), cd _, hNN⟩
    simp
    exact fin
  · rintro j hj e ⟨z5, z6, z7, rfl⟩ N hN
    obtain ⟨l1, l2, l3⟩ := lp j
    simp [and_assoc]
    refine compW_all TI (fun r => .int (prodR r (rowN n j))) rs (by omega) (fun r hr' N' hN' => ?_) ?_
    · simp
      refine ⟨r, rowN n j, rfl, by rw [(hr r hr').1]; omega, (hr r hr').2, ?_⟩
      simpa using hN'
    · simp
      refine ⟨ledR n rs j, by simp [ledR, TI, List.map_map, Function.comp_def], ?_⟩
      rw [l3]
      have g := stepped_get (N := M) (f := fun q => sumN j fun s => if ledP n rs s = q then spec n t s else 0) l1
      have ix := ix_nat l1
      simp [g, tab_length, ix]
      have key : ((tab M fun q => sumN j fun s => if ledP n rs s = q then spec n t s else 0).map PyData.int).set (ledP n rs j) (.int ((sumN j fun s => if ledP n rs s = ledP n rs j then spec n t s else 0) + spec n t j)) = (tab M fun q => sumN (j + 1) fun s => if ledP n rs s = q then spec n t s else 0).map .int := by
        rw [← List.map_set, tab_set]
        congr 1
        refine tab_congr fun q hq => ?_
        simp only [sumN]
        by_cases e : q = ledP n rs j
        · subst e; rw [if_pos rfl, if_pos rfl]
        · rw [if_neg e, if_neg (Ne.symm e)]; omega
      rw [key]
      exact hN _ ⟨_, _, _, rfl⟩
  · rw [rep_tab]; rfl
end Ev
set_option Elab.async false
set_option linter.all false
set_option maxRecDepth 100000
/-! V13: the law's own helpers. -/
namespace Ev
open PySem PySem.Spec PyProof.Rows L2

def sp_law_draw : FSpec := fun args Φ => ∃ m : Nat, args = [.pot, .d (.int m)] ∧ 0 < m ∧ m < 2 ^ 30 ∧ ∀ r : Nat, r < m → Φ (.d (.int r))
def sp_law_pick : FSpec := fun args Φ => ∃ (x : PyData) (xs : List PyData), args = [.pot, .d x] ∧ seqD x = some xs ∧ xs ≠ [] ∧ xs.length < 2 ^ 30 ∧ ∀ y ∈ xs, Φ (.d y)
def D_law_pick : DS := (dSeq (dRet (dBin oIxS (dVar 1) (dCall 2 sp_law_draw (dCons (dVar 0) (dCons (dUn oLen (dVar 1)) dNil))))) dNext)
theorem toS_seq {x : PyData} {xs : List PyData} (h : seqD x = some xs) : toS (.d x) = some xs := by
  cases x <;> first | exact h | cases h
theorem v_law_pick (args : List Val) (Φ : Val → Prop) (h : sp_law_pick args Φ) : D_law_pick (kRet Φ) (envS ["pot", "some"] args) := by
  obtain ⟨x, xs, rfl, hx, hne, hl, hΦ⟩ := h
  have pos : 0 < xs.length := List.length_pos_iff.mpr hne
  have body : ∀ r : Nat, r < xs.length → ∃ y, atI xs (r : Int) = some y ∧ Φ (.d y) := fun r hr => ⟨xs[r], at_nat (List.getElem?_eq_getElem hr), hΦ _ (List.getElem_mem hr)⟩
  simp [D_law_pick, envS, toS_seq hx]
  cases x with
  | list ys => cases hx; exact .inl ⟨xs.length, rfl, pos, hl, fun r hr => by simpa using body r hr⟩
  | tuple ys => cases hx; exact .inl ⟨xs.length, rfl, pos, hl, fun r hr => by simpa using body r hr⟩
  | _ => cases hx
theorem lay_ints (ns : List Int) : Lay 1 (.list (ns.map .int)) := lay_l fun x hx => by
  obtain ⟨i, _, rfl⟩ := List.mem_map.mp hx
  exact lay_i i
def sp_law_mixed : FSpec := fun args Φ => ∃ ns : List Int, args = [.pot, .d (.list (ns.map .int))] ∧ ns.length ≤ 1000 ∧ ∀ ms : List Int, ms.Perm ns → Φ (.own (ms.map .int))
def D_law_mixed : DS := (dSeq (dPar2 2 3 (dUn oList (dVar 1)) (dLst dNil)) (dSeq (dWhile (dTst (dBin oNe (dVar 2) (dLst dNil))) (dSeq (dExpr (dApp 3 (dPopAt 2 (dCall 2 sp_law_draw (dCons (dVar 0) (dCons (dUn oLen (dVar 2)) dNil)))))) dNext)) (dSeq (dRet (dVar 3)) dNext)))
theorem erase_map : ∀ (l : List Int) (r : Nat), (l.map PyData.int).eraseIdx r = (l.eraseIdx r).map .int
  | [], _ => rfl
  | _ :: _, 0 => rfl
  | x :: l, r + 1 => by simp [erase_map l r]
theorem pick_perm : ∀ (l : List Int) (r : Nat) (h : r < l.length), ([l[r]] ++ l.eraseIdx r).Perm l
  | x :: l, 0, _ => List.Perm.refl _
  | x :: l, r + 1, h => by
    have ih := pick_perm l r (by simpa using h)
    simp only [List.getElem_cons_succ, List.eraseIdx_cons_succ, List.cons_append, List.nil_append] at ih ⊢
    exact (List.Perm.swap ..).trans (ih.cons x)
theorem mixed_loop {Φ : Val → Prop} {e1 : Val} {ns : List Int} (hl : ns.length ≤ 1000) (h : ∀ ms : List Int, ms.Perm ns → Φ (.own (ms.map .int))) : ∀ (m : Nat) (left found : List Int), left.length = m → (found ++ left).Perm ns →
    whileN (dTst (dBin oNe (dVar 2) (dLst dNil))) (dSeq (dExpr (dApp 3 (dPopAt 2 (dCall 2 sp_law_draw (dCons (dVar 0) (dCons (dUn oLen (dVar 2)) dNil)))))) dNext) { nx := fun e => dSeq (dRet (dVar 3)) dNext (kRet Φ) e, rt := Φ, bk := fun _ => False, ct := fun _ => False } (m + 1)
      [some .pot, some e1, some (.own (left.map .int)), some (.own (found.map .int))]
  | 0, left, found, hm, hp => by
    have : left = [] := List.eq_nil_of_length_eq_zero hm
    subst this
    rw [List.append_nil] at hp
    rw [whileN]
    simp [oNe, oNeD, oNeS, (lay_ints []).shaped (by decide)]
    have s : SeqAt.shaped (.list []) = true := by rfl
    simp [s, PyData.eqv, PyData.eqvAll]
    exact h found hp
  | m + 1, left, found, hm, hp => by
    rw [whileN]
    have s : SeqAt.shaped (.list []) = true := by rfl
    have s2 := (lay_ints left).shaped (show 1 ≤ 64 by decide)
    have pl := hp.length_eq
    rw [List.length_append] at pl
    have ne : PyData.eqvAll (left.map PyData.int) [] = false := by
      cases left with
      | nil => cases hm
      | cons a b => rfl
    simp [oNe, oNeD, oNeS, s, s2, PyData.eqv, ne, dPopAt]
    refine ⟨left.length, rfl, by omega, by omega, fun r hr => ?_⟩
    have ih := mixed_loop (e1 := e1) hl h m (left.eraseIdx r) (found ++ [left[r]]) (by rw [List.length_eraseIdx_of_lt hr]; omega) (by
      refine List.Perm.trans ?_ hp
      rw [List.append_assoc]
      exact List.Perm.append_left _ (pick_perm left r hr))
    refine ⟨r, rfl, by omega, .int left[r], ⟨left[r], List.getElem?_eq_getElem hr, rfl⟩, by omega, ?_⟩
    rw [erase_map]
    simpa using ih
theorem v_law_mixed (args : List Val) (Φ : Val → Prop) (h : sp_law_mixed args Φ) : D_law_mixed (kRet Φ) (envS ["pot", "items", "left", "found"] args) := by
  obtain ⟨ns, rfl, hl, hΦ⟩ := h
  have lp := mixed_loop (e1 := .d (.list (ns.map .int))) hl hΦ ns.length ns [] rfl (by simp)
  simp [D_law_mixed, envS, dWhile]
  exact ⟨ns.length + 1, lp⟩
def sp_law_rows : FSpec := fun args Φ => ∃ n : Nat, args = [.d (.int n)] ∧ n ≤ 12 ∧ ∀ v, toL v = some ((rowsN n).map TI) → Φ v
def D_law_rows : DS := (dSeq (dSet 1 (dLst (dCons (dTup dNil) dNil))) (dSeq (dFor (dRng1 (dCons (dVar 0) dNil)) (tName 2) (dSeq (dSet 3 (dLst dNil)) (dSeq (dFor (dSeqI (dVar 1)) (tName 4) (dSeq (dExpr (dExt 3 (dLst (dCons (dBin oAdd (dVar 4) (dTup (dCons (dC (.int 0)) dNil))) (dCons (dBin oAdd (dVar 4) (dTup (dCons (dC (.int 1)) dNil))) dNil))))) dNext)) (dSeq (dSet 1 (dVar 3)) dNext)))) (dSeq (dRet (dVar 1)) dNext)))
theorem v_law_rows (args : List Val) (Φ : Val → Prop) (h : sp_law_rows args Φ) : D_law_rows (kRet Φ) (envS ["n", "found", "turn", "longer", "own"] args) := by
  obtain ⟨n, rfl, hn, hΦ⟩ := h
  simp [D_law_rows, envS]
  refine ⟨by omega, ?_⟩
  refine forW_range _ n (fun k e => ∃ (v : Val) (z1 z2 z3 : Option Val), e = [some (.d (.int n)), some v, z1, z2, z3] ∧ toL v = some ((rowsN k).map TI)) ?_ ?_ _ ⟨_, none, none, none, rfl, rfl⟩
  · rintro e ⟨v, z1, z2, z3, rfl, h1⟩
    simp
    exact hΦ v h1
  · rintro k hk e ⟨v, z1, z2, z3, rfl, h1⟩ N hN
    cases v with
    | own xs =>
      cases h1
      simp
      exact rows_inner (by omega) _ rfl (fun z => by simp; exact hN _ ⟨_, _, _, _, rfl, rfl⟩) z3
    | d d =>
      cases d with
      | list xs =>
        cases h1
        simp
        exact rows_inner (by omega) _ rfl (fun z => by simp; exact hN _ ⟨_, _, _, _, rfl, rfl⟩) z3
      | _ => cases h1
    | _ => cases h1
theorem rowN_tab : ∀ (n p : Nat), rowN n p = (List.range n).map fun i => ((p / 2 ^ (n - 1 - i) % 2 : Nat) : Int)
  | 0, p => rfl
  | n + 1, p => by
    rw [rowN_cons, rowN_tab n p, List.range_succ_eq_map, List.map_cons, List.map_map]
    congr 1
    refine List.map_congr_left fun i hi => ?_
    have := List.mem_range.mp hi
    show _ = ((p / 2 ^ (n + 1 - 1 - (i + 1)) % 2 : Nat) : Int)
    rw [show n + 1 - 1 - (i + 1) = n - 1 - i by omega]
def sp_law_row_at : FSpec := fun args Φ => ∃ (n p : Nat), args = [.d (.int n), .d (.int p)] ∧ n ≤ 1000 ∧ Φ (.d (TI (rowN n p)))
def D_law_row_at : DS := (dSeq (dRet (dUn oTuple (dLc [2] (dRng1 (dCons (dVar 0) dNil)) (tName 2) dYes (dBin oAnd (dBin oShr (dVar 1) (dBin oSub (dBin oSub (dVar 0) (dC (.int 1))) (dVar 2))) (dC (.int 1)))))) dNext)
theorem v_law_row_at (args : List Val) (Φ : Val → Prop) (h : sp_law_row_at args Φ) : D_law_row_at (kRet Φ) (envS ["n", "place", "i"] args) := by
  obtain ⟨n, p, rfl, hn, hΦ⟩ := h
  simp [D_law_row_at, envS]
  refine ⟨by omega, ?_⟩
  refine compW_tab _ (fun i => .int ((p / 2 ^ (n - 1 - i) % 2 : Nat) : Int)) (by omega) (fun i hi N hN => ?_) (by
    rw [rowN_tab, TI, List.map_map] at hΦ
    exact hΦ)
  simp
  refine ⟨by omega, ?_⟩
  rw [and_one]
  rw [← two_cast]
  have : ((p : Int) / ((2 ^ (n - 1 - i) : Nat) : Int)) % 2 = ((p / 2 ^ (n - 1 - i) % 2 : Nat) : Int) := by push_cast; rfl
  rw [this]
  exact hN
def sp_law_added : FSpec := fun args Φ => ∃ xs ys : List Int, args = [.d (TI xs), .d (TI ys)] ∧ xs.length ≤ 1000 ∧ Bits xs ∧ Bits ys ∧ Φ (.d (TI (addR xs ys)))
def D_law_added : DS := (dSeq (dRet (dUn oTuple (dLc [2, 3] (dZip (dCons (dVar 0) (dCons (dVar 1) dNil))) (tTup 2 (tCons (tName 2) (tCons (tName 3) tNil))) dYes (dBin oXor (dVar 2) (dVar 3))))) dNext)
theorem v_law_added (args : List Val) (Φ : Val → Prop) (h : sp_law_added args Φ) : D_law_added (kRet Φ) (envS ["one", "other", "a", "b"] args) := by
  obtain ⟨xs, ys, rfl, hl, hx, hy, hΦ⟩ := h
  simp [D_law_added, envS, and_assoc]
  rw [zip_ints]
  refine compW_all _ (fun p : Int × Int => .int ((p.1 + p.2) % 2)) _ (by simp; omega) (fun q hq N hN => ?_) (by
    simp only [TI, List.map_map, addR] at hΦ
    exact hΦ)
  have m := List.of_mem_zip hq
  simp [and_assoc]
  rw [xor_bit (hx _ m.1) (hy _ m.2)]
  exact hN
def sp_law_product : FSpec := fun args Φ => ∃ xs ys : List Int, args = [.d (TI xs), .d (TI ys)] ∧ xs.length ≤ 1000 ∧ Bits xs ∧ Bits ys ∧ Φ (.d (.int (prodR xs ys)))
def D_law_product : DS := (dSeq (dRet (dBin oAnd (dUn oSum (dLc [2, 3] (dZip (dCons (dVar 0) (dCons (dVar 1) dNil))) (tTup 2 (tCons (tName 2) (tCons (tName 3) tNil))) dYes (dBin oAnd (dVar 2) (dVar 3)))) (dC (.int 1)))) dNext)
theorem v_law_product (args : List Val) (Φ : Val → Prop) (h : sp_law_product args Φ) : D_law_product (kRet Φ) (envS ["one", "other", "a", "b"] args) := by
  obtain ⟨xs, ys, rfl, hl, hx, hy, hΦ⟩ := h
  simp [D_law_product, envS, and_assoc]
  rw [zip_ints]
  refine compW_all _ (fun p : Int × Int => .int (p.1 * p.2)) _ (by simp; omega) (fun q hq N hN => ?_) ?_
  · have m := List.of_mem_zip hq
    simp [and_assoc]
    rw [and_bit (hx _ m.1) (hy _ m.2)]
    exact hN
  · refine ⟨(xs.zip ys).map fun p => p.1 * p.2, by simp, ?_⟩
    simp
    rw [and_one]
    exact hΦ
def sp_law_sum_table : FSpec := fun args Φ => ∃ (n p : Nat), args = [.d (TI (rowN n p))] ∧ n ≤ 12 ∧ Φ (.d (TI (tab (2 ^ n) (par n p))))
def D_law_sum_table : DS := (dSeq (dRet (dUn oTuple (dLc [1] (dSeqI (dCall 1 sp_law_rows (dCons (dUn oLen (dVar 0)) dNil))) (tName 1) dYes (dCall 2 sp_law_product (dCons (dVar 0) (dCons (dVar 1) dNil)))))) dNext)
theorem v_law_sum_table (args : List Val) (Φ : Val → Prop) (h : sp_law_sum_table args Φ) : D_law_sum_table (kRet Φ) (envS ["s", "x"] args) := by
  obtain ⟨n, p, rfl, hn, hΦ⟩ := h
  simp [D_law_sum_table, envS, rowN_length]
  refine ⟨n, rfl, hn, fun v hv => ?_⟩
  have go : compW (tName 1) dYes (dCall 2 sp_law_product (dCons (dVar 0) (dCons (dVar 1) dNil))) [1] ((rowsN n).map TI) [some (.d (TI (rowN n p))), none] [] (fun ds env2 => Φ (.d (.tuple ds))) := by
    rw [rows_items]
    refine compW_tab _ (fun i => .int (par n p i)) (len20 (by omega)) (fun i hi N hN => ?_) (by rw [TI_tab] at hΦ; exact hΦ)
    simp
    exact ⟨rowN n p, rowN n i, rfl, by rw [rowN_length]; omega, rowN_bits _ _, rowN_bits _ _, by simp; exact hN⟩
  cases v with
  | own xs => cases hv; simp; exact go
  | d d => cases d with
    | list xs => cases hv; simp; exact go
    | _ => cases hv
  | _ => cases hv
theorem sg_mul {a b : Int} (ha : a = 0 ∨ a = 1) (hb : b = 0 ∨ b = 1) : 1 - 2 * Builtin.bitXor a b = (1 - 2 * a) * (1 - 2 * b) := by
  rw [xor_bit ha hb]
  rcases ha with rfl | rfl <;> rcases hb with rfl | rfl <;> rfl
def sp_law_shift : FSpec := fun args Φ => ∃ (n d : Nat) (t : Nat → Int), args = [.d (TI (tab (2 ^ n) t)), .d (.int d)] ∧ n ≤ 20 ∧ d < 2 ^ n ∧ BitF (2 ^ n) t ∧ Φ (.d (.int (shifts n t d)))
def D_law_shift : DS := (dSeq (dRet (dUn oSum (dLc [2, 3] (dEnum (dCons (dVar 0) dNil)) (tTup 2 (tCons (tName 2) (tCons (tName 3) tNil))) dYes (dBin oSub (dC (.int 1)) (dBin oMul (dC (.int 2)) (dBin oXor (dVar 3) (dBin oIxS (dVar 0) (dBin oXor (dVar 2) (dVar 1))))))))) dNext)
theorem v_law_shift (args : List Val) (Φ : Val → Prop) (h : sp_law_shift args Φ) : D_law_shift (kRet Φ) (envS ["table", "d", "k", "bit"] args) := by
  obtain ⟨n, d, t, rfl, hn, hd, ht, hΦ⟩ := h
  simp [D_law_shift, envS, enum_tab]
  refine compW_tab _ (fun k => .int (sg t k * sg t (k ^^^ d))) (len20 hn) (fun k hk N hN => ?_) (sum_tab (by simpa [shifts, conv] using hΦ))
  have hx : k ^^^ d < 2 ^ n := Nat.xor_lt_two_pow hk hd
  simp [and_assoc, xor_nat]
  refine ⟨_, stepped_get hx, ?_⟩
  simp
  rw [sg_mul (ht k hk) (ht _ hx)]
  exact ⟨cm_small (by omega), hN⟩
def nearF (n : Nat) (t : Nat → Int) (s : Nat) : Int := sumN (2 ^ n) fun x => (t x + par n s x) % 2
theorem near_spec {n s : Nat} {t : Nat → Int} (hs : s < 2 ^ n) (ht : BitF (2 ^ n) t) : ((2 ^ n : Nat) : Int) - 2 * nearF n t s = spec n t s := by
  unfold nearF spec
  rw [← hat_sum n s (sg t) hs, ← sumN_mul, show (((2 ^ n : Nat) : Int)) = sumN (2 ^ n) fun _ => 1 by rw [sumN_const]; omega, ← sumN_minus]
  refine sumN_congr fun x hx => ?_
  unfold sg
  have b := prodR_bit (rowN n s) (rowN n x)
  unfold par
  rcases ht x hx with e | e <;> rcases b with e' | e' <;> rw [e, e'] <;> rfl
def sp_law_near : FSpec := fun args Φ => ∃ (n : Nat) (t : Nat → Int), args = [.d (TI (tab (2 ^ n) t))] ∧ n ≤ 12 ∧ BitF (2 ^ n) t ∧ Φ (.own ((tab (2 ^ n) (nearF n t)).map .int))
def D_law_near : DS := (dSeq (dSet 1 (dBin oSub (dUn oBits (dUn oLen (dVar 0))) (dC (.int 1)))) (dSeq (dRet (dLc [2] (dSeqI (dCall 1 sp_law_rows (dCons (dVar 1) dNil))) (tName 2) dYes (dUn oSum (dLc [3, 4] (dZip (dCons (dVar 0) (dCons (dCall 1 sp_law_sum_table (dCons (dVar 2) dNil)) dNil))) (tTup 2 (tCons (tName 3) (tCons (tName 4) tNil))) dYes (dBin oXor (dVar 3) (dVar 4)))))) dNext))
theorem v_law_near (args : List Val) (Φ : Val → Prop) (h : sp_law_near args Φ) : D_law_near (kRet Φ) (envS ["table", "n", "s", "a", "b"] args) := by
  obtain ⟨n, t, rfl, hn, ht, hΦ⟩ := h
  have tl : ((tab (2 ^ n) t).length : Int) = ((2 ^ n : Nat) : Int) := by rw [tab_length]
  simp only [D_law_near, envS]
  have bl := bits_pow n
  have go : ∀ v, toL v = some ((rowsN n).map TI) → compW (tName 2) dYes (dUn oSum (dLc [3, 4] (dZip (dCons (dVar 0) (dCons (dCall 1 sp_law_sum_table (dCons (dVar 2) dNil)) dNil))) (tTup 2 (tCons (tName 3) (tCons (tName 4) tNil))) dYes (dBin oXor (dVar 3) (dVar 4)))) [2] ((rowsN n).map TI)
      [some (.d (TI (tab (2 ^ n) t))), some (.d (.int n)), none, none, none] [] (fun ds env2 => Φ (.own ds)) := fun v hv => by
    rw [rows_items]
    refine compW_tab _ (fun s => .int (nearF n t s)) (len20 (by omega)) (fun s hs N hN => ?_) (by rw [← ints_tab] at hΦ; exact hΦ)
    simp
    refine ⟨n, s, rfl, hn, ?_⟩
    simp [and_assoc, zip_tabs]
    refine compW_tab _ (fun x => .int ((t x + par n s x) % 2)) (len20 (by omega)) (fun x hx M hM => ?_) (sum_tab (by simpa [nearF] using hN))
    simp [and_assoc]
    rw [xor_bit (ht x hx) (show par n s x = 0 ∨ par n s x = 1 from prodR_bit _ _)]
    exact hM
  generalize ((2 ^ n : Nat) : Int) = a at *
  simp [tl, bl]
  refine ⟨n, rfl, hn, fun v hv => ?_⟩
  have g := go v hv
  cases v with
  | own xs => cases hv; simp; exact g
  | d d => cases d with
    | list xs => cases hv; simp; exact g
    | _ => cases hv
  | _ => cases hv
end Ev
set_option Elab.async false
set_option linter.all false
set_option maxRecDepth 100000
/-! Ev15: the laws' own pot, by hand. -/
namespace Ev
open PySem PySem.Spec PyProof.Rows L2

theorem ce_get {n : Nat} {C : SC} {e : Expr} {d : DO} (h : (coE n C e).map (·.d) = some d) : SO C e d := by
  cases q : coE n C e with
  | none => rw [q] at h; cases h
  | some x => rw [q] at h; cases h; exact x.ok
theorem cs_get {n : Nat} {C : SC} {s : Stmt} {d : DS} (h : (coS n C s).map (·.d) = some d) : SS C s d := by
  cases q : coS n C s with
  | none => rw [q] at h; cases h
  | some x => rw [q] at h; cases h; exact x.ok
theorem cb_get {n : Nat} {C : SC} {s : List Stmt} {d : DS} (h : (coB n C s).map (·.d) = some d) : SB C s d := by
  cases q : coB n C s with
  | none => rw [q] at h; cases h
  | some x => rw [q] at h; cases h; exact x.ok
def PN : List Str := ["script", "cells", "seal", "cell", "own"]
def scPot : Scope := { kind := .function, names := [("script", .local), ("cells", .local), ("seal", .local), ("cell", .local), ("len", .globalImplicit), ("int", .globalImplicit)], isGenerator := false, isCoroutine := false, more := [("fast", .str "script"), ("fast", .str "own"), ("fast", .str "cells"), ("fast", .str "seal"), ("fast", .str "cell")] }
def scPot1 : Scope := { kind := .function, names := [(".0", .local), ("own", .local), ("abs", .globalImplicit), ("int", .globalImplicit)], isGenerator := false, isCoroutine := false, more := [] }
def scPot2 : Scope := { kind := .function, names := [(".0", .local), ("own", .local)], isGenerator := false, isCoroutine := false, more := [] }
def CPot : SC := ⟨PN, scPot, [], [], false, PN⟩
theorem SqL.stay {K : PySem.W.Frag} {H H1 : Hp} {a : Addr} {xs : List V} (h : SqL K H a xs) (k : ∀ o, H a = some o → H1 a = some o) : SqL K H1 a xs := by
  rcases h with (h | ⟨ob, h⟩) | h
  · exact .inl (.inl (k _ h))
  · exact .inl (.inr ⟨ob, k _ h⟩)
  · exact .inr h
def cellF (m : Int) : Int := 2 * (if m < 0 then -m else m) + (if m < 0 then 1 else 0)
theorem cellF_nn (m : Int) : 0 ≤ cellF m := by unfold cellF; split <;> omega
section
variable {X : Cx} {D : Ends} {a : Addr} {H : Hp} {ns : List Int}
variable {q0 q1 q2 q3 q4 q5 q6 q7 q8 q9 q10 q11 q12 q13 q14 q15 q16 q17 q18 q19 q20 q21 q22 q23 q24 q25 q26 q27 q28 q29 q30 q31 q32 q33 q34 q35 q36 q37 q38 q39 q40 q41 q42 q43 q44 q45 q46 q47 q48 q49 q50 q51 q52 q53 q54 q55 q56 q57 q58 q59 q60 q61 q62 q63 q64 : Pos}
abbrev potComp (q3 q4 q5 q6 q7 q8 q9 q10 q11 q12 q13 q14 q15 q16 q17 q18 q19 : Pos) : Expr := (.ListComp (.BinOp (.BinOp (.Constant (.int 2) 0 q3) .Mult (.Call (.Name "abs" q4) [(.Name "own" q5)] [] q6) q7) .Add (.Call (.Name "int" q8) [(.Compare (.Name "own" q9) [.Lt] [(.Constant (.int 0) 0 q10)] q11)] [] q12) q13) [⟨(.Name "own" q14), (.Subscript (.Name "script" q15) (.Slice none (some (.Constant (.int 62) 0 q16)) none q17) q18), [], 0⟩] (scPot1) q19)
theorem pot_elt : SO (blkSC CPot scPot1) (.BinOp (.BinOp (.Constant (.int 2) 0 q3) .Mult (.Call (.Name "abs" q4) [(.Name "own" q5)] [] q6) q7) .Add (.Call (.Name "int" q8) [(.Compare (.Name "own" q9) [.Lt] [(.Constant (.int 0) 0 q10)] q11)] [] q12) q13) (dBin oAdd (dBin oMul (dC (.int 2)) (dUn oAbs (dVar 4))) (dUn oInt (dBin oLt (dVar 4) (dC (.int 0))))) :=
  ce_get (n := 60) (by kernel_rfl)
theorem pot_comp {Q : VK} (fx : Fits CPot X) {F : AP1} (r : R none F [none, none, none, none, none] [some (V.ref a), none, none, none, none] H) (hS : SqL X.K H a (ns.map V.int))
    (hQ : ∀ (ms : List Int) F' H' x, ms.length ≤ 62 → (∀ m ∈ ms, 0 ≤ m) → Ext none F [none, none, none, none, none] [some (V.ref a), none, none, none, none] H F' [none, none, none, none, none] H' →
      Res none [none, none, none, none, none] [some (V.ref a), none, none, none, none] H F' [none, none, none, none, none] H' (.own (ms.map .int)) x → Q x H') :
    wE X (potComp q3 q4 q5 q6 q7 q8 q9 q10 q11 q12 q13 q14 q15 q16 q17 q18 q19) [some (V.ref a), none, none, none, none] H Q := by
  have own : BlkOk CPot.N CPot.sc scPot1 [(("own" : Str), 4)] := blkOk_by (by decide +kernel)
  refine lc_at (C := CPot) (G := none) (F := F) (env := [none, none, none, none, none]) (own := [(("own" : Str), 4)]) (sl := [4]) (di := fun env Φ => Φ (cutD (ns.map .int) none (some 62)) env) (dt := tName 4) (dc := dYes)
    (Φ := fun rv env' => ∃ ms : List Int, rv = .v (.own (ms.map .int)) ∧ env' = [none, none, none, none, none] ∧ ms.length ≤ 62 ∧ ∀ m ∈ ms, 0 ≤ m)
    fx own (sgn_name (i := 4) rfl (loc_ok (by decide +kernel))) (fun i hi => hi) sts_nil pot_elt (fun env x => rfl) (fun Q' Φ' h k => ?_) ?_ (fun ds env' F' H' x e q ⟨ms, e1, e2, e3, e4⟩ => ?_)
  · refine wi_of (pi_list (pe_slice sl_list (pe_var (i := 0) (by rw [fx.n]; rfl) (by rw [fx.sc]; exact .inl (by decide +kernel))) po_none (po_some pe_int))) ?_
    refine ⟨_, rfl, 62, rfl, a, ns.map V.int, rfl, hS, fun p hp => ⟨p, rfl, ⟨_, SqL.of upd_same⟩, ?_⟩⟩
    have sh := Ext.shared (o := .lst (cutV (ns.map V.int) none (some 62))) r hp
    refine k _ _ _ _ _ sh (walk_list (.inr rfl) upd_same ?_) h
    exact (RepAll.ofInts ns).cut none (some 62)
  · obtain ⟨ms, e1, e2⟩ : ∃ ms : List Int, cutD (ns.map PyData.int) none (some 62) = ms.map .int ∧ ms.length ≤ 62 := by
      refine ⟨(ns.drop (HT.sIx (ns.map PyData.int).length 0 none)).take (HT.sIx (ns.map PyData.int).length (ns.map PyData.int).length (some 62) - HT.sIx (ns.map PyData.int).length 0 none), ?_, ?_⟩
      · unfold cutD
        rw [← List.map_drop, ← List.map_take]
      · rw [List.length_take, HT.sIx_none, show (62 : Int) = ((62 : Nat) : Int) from rfl, HT.sIx_nat]
        omega
    simp
    rw [e1]
    refine compW_all PyData.int (fun m => .int (cellF m)) ms (by omega) (fun m hm N hN => ?_) ?_
    · simp
      refine ⟨cm_small (by omega), ?_⟩
      unfold cellF at hN
      by_cases h0 : m < 0
      · simp [h0] at hN ⊢
        exact .inr (.inr hN)
      · simp [h0] at hN ⊢
        exact .inr ⟨by omega, hN⟩
    · refine ⟨ms.map cellF, by rw [List.map_map]; rfl, rfl, by rw [List.length_map]; exact e2, fun m hm => ?_⟩
      obtain ⟨z, _, rfl⟩ := List.mem_map.mp hm
      exact cellF_nn z
  · cases e1
    subst e2
    exact hQ ms F' H' x e3 e4 e q
abbrev potFor (q29 q30 q31 q32 q33 q34 q35 q36 q37 q38 q39 q40 q41 q42 q43 q44 : Pos) : Stmt := .For (.Name "cell" q29) (.Name "cells" q30) [.Assign [(.Name "seal" q31)] (.BinOp (.Call (.Name "int" q32) [(.BinOp (.BinOp (.BinOp (.Name "seal" q33) .Mult (.Constant (.int 48271) 0 q34) q35) .Add (.Name "cell" q36) q37) .Add (.Constant (.int 5) 0 q38) q39)] [] q40) .Mod (.Constant (.int 4294967291) 0 q41) q42) q43] [] q44
theorem pot_for : SS CPot (potFor q29 q30 q31 q32 q33 q34 q35 q36 q37 q38 q39 q40 q41 q42 q43 q44) (dFor (dSeqI (dVar 1)) (tName 3) (dSeq (dSet 2 (dBin oMod (dUn oInt (dBin oAdd (dBin oAdd (dBin oMul (dVar 2) (dC (.int 48271))) (dVar 3)) (dC (.int 5)))) (dC (.int 4294967291)))) dNext)) :=
  cs_get (n := 60) (by kernel_rfl)
abbrev potGreat (q48 q49 q50 q51 q52 q53 q54 q55 q56 q57 q58 q59 q60 : Pos) : Expr := (.Subscript (.ListComp (.Name "own" q48) [⟨(.Name "own" q49), (.Name "cells" q50), [(.Compare (.Name "own" q51) [.GtE] [(.BinOp (.Constant (.int 10) 0 q52) .Pow (.Constant (.int 17) 0 q53) q54)] q55)], 0⟩] (scPot2) q56) (.Slice none none (some (.UnaryOp .USub (.Constant (.int 1) 0 q57) q58)) q59) q60)
theorem pot_great : SO CPot (potGreat q48 q49 q50 q51 q52 q53 q54 q55 q56 q57 q58 q59 q60) (dUn oRev (dLc [4] (dSeqI (dVar 1)) (tName 4) (dTst (dBin oGe (dVar 4) (dBin oPow (dC (.int 10)) (dC (.int 17))))) (dVar 4))) :=
  ce_get (n := 60) (by kernel_rfl)
theorem mergeK_pot {g : Addr} {s : Int} : mergeK [] [(kGreat, V.ref g), (kSeal, V.int s), (kTurn, V.int 0)] = potKv g s 0 := by
  have a1 : decide (kGreat = kSeal) = false := by decide
  have a2 : decide (kGreat = kTurn) = false := by decide
  have a3 : decide (kSeal = kTurn) = false := by decide
  unfold mergeK potKv
  simp only [List.foldl_cons, List.foldl_nil, putK, List.any_nil, List.any_cons, a1, a2, a3, Bool.false_eq_true, if_false, Bool.or_false, List.nil_append, List.cons_append]
theorem pot_body (fx : Fits CPot X) (kd : X.env.scope.kind = .function) (hS : SqL X.K H a (ns.map V.int)) (hl : ns.length ≤ 63) (hpos : q0.line = q1.line) (hQ : ∀ H' p g, PotOk H' p g → D.rt (.ref p) H') :
    wB X [.Assign [(.Tuple [(.Name "cells" q0), (.Name "seal" q1)] 0 q2)] (.Tuple [potComp q3 q4 q5 q6 q7 q8 q9 q10 q11 q12 q13 q14 q15 q16 q17 q18 q19, (.BinOp (.Constant (.int 19597) 0 q20) .Add (.BinOp (.Constant (.int 467) 0 q21) .Mult (.Call (.Name "len" q22) [(.Name "script" q23)] [] q24) q25) q26)] 0 q27) q28,
      potFor q29 q30 q31 q32 q33 q34 q35 q36 q37 q38 q39 q40 q41 q42 q43 q44,
      .Return (some (.Dict [some (.Constant (.str "great") 0 q45), some (.Constant (.str "seal") 0 q46), some (.Constant (.str "turn") 0 q47)] [potGreat q48 q49 q50 q51 q52 q53 q54 q55 q56 q57 q58 q59 q60, (.Name "seal" q61), (.Constant (.int 0) 0 q62)] q63)) q64] D [some (V.ref a), none, none, none, none] H := by
  have r0 : R none (fun _ => False) [none, none, none, none, none] [some (V.ref a), none, none, none, none] H := by
    have nn : ∀ (i : Nat) (v : Val), ([none, none, none, none, none] : Env)[i]? = some (some v) → False := fun i v e => by
      rcases i with _ | _ | _ | _ | _ | i <;> simp at e
    exact ⟨rfl, fun i v e => (nn i v e).elim, fun i j v w c e => (nn i v e).elim, fun c z => z.elim, fun p g e => by cases e⟩
  have l1 : CPot.sc.names.lookup ("cells" : Str) = some .local := by decide +kernel
  have l2 : CPot.sc.names.lookup ("seal" : Str) = some .local := by decide +kernel
  have l0 : CPot.sc.names.lookup ("script" : Str) = some .local := by decide +kernel
  have gl : CPot.sc.names.lookup ("len" : Str) = some .globalImplicit := by decide +kernel
  refine wb_of (pss_cons (ps_par (i := 1) (j := 2) fx.calm fx.nd (by rw [fx.n]; rfl) (by rw [fx.n]; rfl) (by decide) (by rw [fx.sc]; exact l1) (by rw [fx.sc]; exact l2)
    (pa_cons pe_w (pa_cons (pe_op op_add pe_int (pe_op op_mul pe_int (pe_callB call_len_seq (gl_of fx gl) (bn_of fx (by decide)) (by decide +kernel) (pa_cons (pe_var (i := 0) (by rw [fx.n]; rfl) (by rw [fx.sc]; exact .inl l0)) pa_nil)))) pa_nil))
    (swp_some2 l1 l2 hpos (by decide) rfl rfl rfl rfl X.env fx.sc kd)) pb_w) ?_
  refine pot_comp fx r0 hS fun ms F1 H1 x m1 m2 e1 q1 => ?_
  have no0 : ∀ c, ¬ OwnS [none, none, none, none, none] [some (V.ref a), none, none, none, none] c := fun c ⟨i, v, e, _⟩ => by
    rcases i with _ | _ | _ | _ | _ | i <;> simp at e
  have s1 : SqL X.K H1 a (ns.map V.int) := SqL.stay hS fun o e => e1.keep a o e (no0 a) (fun z => by obtain ⟨p, g, z, _⟩ := z; cases z)
  refine ⟨_, rfl, a, ns.map V.int, rfl, .inl s1, 467, _, rfl, rfl, .inl ⟨by decide, by decide⟩, 19597, _, rfl, rfl, _, _, rfl, ?_⟩
  have rs0 : RS none (fun _ => False) H (fun _ => False) [none, none, none, none, none] [some (V.ref a), none, none, none, none] H := ⟨r0, fun _ _ e _ => e, fun _ o e => ⟨o, e⟩, fun _ e => e, fun _ e => .inl e, fun c z => (no0 c z).elim⟩
  have rs1 := rs0.put e1 q1 (i := 1) (by decide)
  have bnd : (0 : Int) ≤ 19597 + 467 * ((ns.map V.int).length : Int) ∧ 19597 + 467 * ((ns.map V.int).length : Int) < 4294967291 := by rw [List.length_map]; omega
  generalize hsl : (19597 + 467 * ((ns.map V.int).length : Int)) = sl at bnd
  have rs2 := rs1.put (Ext.refl rs1.r) (Res.imm (z := .int sl) (x := V.int sl) (by simp only [RepD])) (i := 2) (by simp)
  show wB X _ D ((([some (V.ref a), none, none, none, none] : L2.St).set 1 (some x)).set 2 (some (V.int (19597 + 467 * ((ns.map V.int).length : Int))))) H1
  rw [hsl]
  refine wb_of (pss_cons ps_w pb_w) ?_
  refine pot_for X fx none _ H F1 _ _ H1 _ { nx := fun env => ∃ (s : Int) (z : Option Val), 0 ≤ s ∧ s < 4294967291 ∧ env = [none, some (.d (.list (ms.map .int))), some (.d (.int s)), z, none], rt := fun _ => False, bk := fun _ => False, ct := fun _ => False } rs2 ?_ ⟨fun env' F' σ' H' r' l hn => ?_, fun _ _ _ _ _ _ z => z.elim, fun _ _ _ _ _ _ z => z.elim, fun _ _ _ _ _ _ z => z.elim⟩
  · simp
    refine forW_map PyData.int (fun r e => ∃ (s : Int) (z : Option Val), 0 ≤ s ∧ s < 4294967291 ∧ e = [none, some (.d (.list (ms.map .int))), some (.d (.int s)), z, none]) ?_ ?_ ms _ ⟨sl, none, bnd.1, bnd.2, rfl⟩
    · rintro e ⟨s, z, h1, h2, rfl⟩
      first | exact ⟨s, z, h1, h2, rfl⟩ | exact ⟨s, h1, h2, z, rfl⟩
    · rintro m r e ⟨s, z, h1, h2, rfl⟩ N hN
      simp
      have b := lt0 (a := 4294967291) (by decide) (s * 48271 + m + 5)
      exact ⟨cm_small' (by omega), .inl (hN _ ⟨_, _, b.1, b.2, rfl⟩)⟩
  · obtain ⟨s, z, h1, h2, rfl⟩ := hn
    have σ2 : σ'[2]? = some (some (V.int s)) := by
      obtain ⟨y, sy, ry⟩ := r'.r.rep 2 (.d (.int s)) rfl
      have ry : RepD F' H' (.int s) y := ry
      simp only [RepD] at ry
      rw [← ry]; exact sy
    refine wb_of (pss_one (ps_ret (pe_disp (pps_cons pe_str pe_w (pps_cons pe_str (pe_var (i := 2) (by rw [fx.n]; rfl) (by rw [fx.sc]; exact .inl l2)) (pps_cons pe_str pe_int pps_nil))) rfl rfl (by simp) (by simp)))) ?_
    intro p hp
    have lone := Ext.lone (o := .dK []) r'.r hp
    have np : ¬ OwnS [none, some (.d (.list (ms.map .int))), some (.d (.int s)), z, none] σ' p := r'.r.freshO hp
    refine pot_great X fx none F' _ σ' _ _ (fun rv env2 => ∃ gs : List Int, rv = .v (.own (gs.map .int)) ∧ gs.length ≤ 62 ∧ ∀ m ∈ gs, 0 ≤ m) lone.r ?_ fun rv env2 F2 H2 y e2 q2 ⟨gs, er, g1, g2⟩ => ?_
    · simp
      refine compW_map PyData.int (fun m => decide ((10 : Int) ^ 17 ≤ m)) (fun m : Int => .int m) ms [] (by simp; omega) (fun m hm N S hN hS => ?_) ?_
      · have cp : CPow 10 17 := by constructor <;> decide
        have e17 : (17 : Int).toNat = 17 := rfl
        simp [cp, e17]
        by_cases c : (10 : Int) ^ 17 ≤ m
        · exact .inr ⟨by omega, hN (decide_eq_true c)⟩
        · exact .inl ⟨by omega, hS (decide_eq_false c)⟩
      · refine ⟨(ms.filter fun m => decide ((10 : Int) ^ 17 ≤ m)).reverse, by simp [List.map_reverse], ?_, fun m hm => ?_⟩
        · rw [List.length_reverse]
          exact Nat.le_trans (List.length_filter_le _ _) m1
        · exact m2 m (List.mem_filter.mp (List.mem_reverse.mp hm)).1
    · subst er
      obtain ⟨g, vs, rfl, nF, hg, rr⟩ := q2.rep
      have ev := rr.ints
      subst ev
      have hp2 : H2 p = some (.dK []) := e2.keep p _ upd_same np (fun z => by obtain ⟨p, g, z, _⟩ := z; cases z)
      have gp : p ≠ g := fun z => by subst z; rw [hp2] at hg; cases hg
      refine ⟨_, σ2, ⟨hp2, [(kGreat, V.ref g), (kSeal, V.int s), (kTurn, V.int 0)], rfl, by simp, ?_⟩⟩
      rw [mergeK_pot]
      refine hQ _ p g ⟨gs, s, 0, upd_same, by rw [upd_ne (Ne.symm gp)]; exact hg, g2, g1, h1, h2, by omega⟩
end
/-! ### both, as they stand in a module -/
section
variable {P : Program} {w : World} {K : PySem.W.Frag} {mg : Str → Option Value} {base : Heap} {k : Nat} {fns : List FnS} {glb : List (Str × Int)} {a : Addr} {fd : FuncData} {nm : Str} {st : Stmt}
def sp_draw : FSpec := fun args Φ => ∃ m : Nat, args = [.pot, .d (.int m)] ∧ 0 < m ∧ m < 2 ^ 30 ∧ ∀ r : Nat, r < m → Φ (.d (.int r))
end
end Ev
set_option Elab.async false
set_option linter.all false
set_option maxRecDepth 100000
/-! Ev16: the pot and the draw as they stand in a module. -/
namespace Ev
open PySem PySem.Spec PyProof.Rows L2

def scDraw : Scope := { kind := .function, names := [("pot", .local), ("many", .local), ("great", .local), ("cell", .local), ("own", .local), ("int", .globalImplicit)], isGenerator := false, isCoroutine := false, more := [] }
abbrev drawTxt (q0 q1 q2 q3 q4 q5 q6 q7 q8 q9 q10 q11 q12 q13 q14 q15 q16 q17 q18 q19 q20 q21 q22 q23 q24 q25 q26 q27 q28 q29 q30 q31 q32 q33 q34 q35 q36 q37 q38 q39 q40 q41 q42 q43 q44 q45 q46 q47 q48 q49 q50 q51 q52 q53 q54 q55 q56 q57 q58 q59 q60 q61 q62 q63 q64 q65 q66 q67 q68 q69 q70 q71 q72 q73 q74 q75 q76 q77 q78 q79 q80 q81 q82 q83 q84 q85 q86 q87 q88 q89 q90 q91 q92 q93 q94 q95 q96 : Pos) : List Stmt := [.Assign [(.Name "great" q0)] (.Subscript (.Name "pot" q1) (.Constant (.str "great") 0 q2) q3) q4,
   .If (.Compare (.Name "great" q5) [.NotEq] [(.List [] q6)] q7) [.Assign [(.Name "cell" q8)] (.Call (.Attribute (.Name "great" q9) "pop" q10) [] [] q11) q12, .If (.Compare (.Name "cell" q13) [.GtE] [(.Name "many" q14)] q15) [.Expr (.Call (.Attribute (.Name "great" q16) "append" q17) [(.BinOp (.Name "cell" q18) .FloorDiv (.Name "many" q19) q20)] [] q21) q22] [] q23, .Return (some (.BinOp (.Call (.Name "int" q24) [(.Name "cell" q25)] [] q26) .Mod (.Name "many" q27) q28)) q29] [] q30,
   .Assign [(.Subscript (.Name "pot" q31) (.Constant (.str "turn") 0 q32) q33)] (.BinOp (.Subscript (.Name "pot" q34) (.Constant (.str "turn") 0 q35) q36) .Add (.Constant (.int 1) 0 q37) q38) q39,
   .Assign [(.Name "own" q40)] (.BinOp (.Call (.Name "int" q41) [(.BinOp (.BinOp (.BinOp (.Subscript (.Name "pot" q42) (.Constant (.str "seal") 0 q43) q44) .Mult (.Constant (.int 69621) 0 q45) q46) .Add (.BinOp (.Subscript (.Name "pot" q47) (.Constant (.str "turn") 0 q48) q49) .Mult (.Constant (.int 40503) 0 q50) q51) q52) .Add (.Constant (.int 29) 0 q53) q54)] [] q55) .Mod (.Constant (.int 4294967279) 0 q56) q57) q58,
   .Assign [(.Name "own" q59)] (.BinOp (.Call (.Name "int" q60) [(.BinOp (.BinOp (.Name "own" q61) .Mult (.Name "own" q62) q63) .Add (.BinOp (.Subscript (.Name "pot" q64) (.Constant (.str "seal") 0 q65) q66) .Mult (.Constant (.int 7) 0 q67) q68) q69)] [] q70) .Mod (.Constant (.int 4294967231) 0 q71) q72) q73,
   .Assign [(.Subscript (.Name "pot" q74) (.Constant (.str "seal") 0 q75) q76)] (.BinOp (.Call (.Name "int" q77) [(.BinOp (.BinOp (.Subscript (.Name "pot" q78) (.Constant (.str "seal") 0 q79) q80) .Mult (.Constant (.int 48271) 0 q81) q82) .Add (.Name "own" q83) q84)] [] q85) .Mod (.Constant (.int 4294967291) 0 q86) q87) q88,
   .Return (some (.BinOp (.Call (.Name "int" q89) [(.BinOp (.Name "own" q90) .FloorDiv (.Constant (.int 64) 0 q91) q92)] [] q93) .Mod (.Name "many" q94) q95)) q96]
abbrev potTxt (q0 q1 q2 q3 q4 q5 q6 q7 q8 q9 q10 q11 q12 q13 q14 q15 q16 q17 q18 q19 q20 q21 q22 q23 q24 q25 q26 q27 q28 q29 q30 q31 q32 q33 q34 q35 q36 q37 q38 q39 q40 q41 q42 q43 q44 q45 q46 q47 q48 q49 q50 q51 q52 q53 q54 q55 q56 q57 q58 q59 q60 q61 q62 q63 q64 : Pos) : List Stmt := [.Assign [(.Tuple [(.Name "cells" q0), (.Name "seal" q1)] 0 q2)] (.Tuple [potComp q3 q4 q5 q6 q7 q8 q9 q10 q11 q12 q13 q14 q15 q16 q17 q18 q19, (.BinOp (.Constant (.int 19597) 0 q20) .Add (.BinOp (.Constant (.int 467) 0 q21) .Mult (.Call (.Name "len" q22) [(.Name "script" q23)] [] q24) q25) q26)] 0 q27) q28,
      potFor q29 q30 q31 q32 q33 q34 q35 q36 q37 q38 q39 q40 q41 q42 q43 q44,
      .Return (some (.Dict [some (.Constant (.str "great") 0 q45), some (.Constant (.str "seal") 0 q46), some (.Constant (.str "turn") 0 q47)] [potGreat q48 q49 q50 q51 q52 q53 q54 q55 q56 q57 q58 q59 q60, (.Name "seal" q61), (.Constant (.int 0) 0 q62)] q63)) q64]
section
variable {P : Program} {w : World} {K : PySem.W.Frag} {mg : Str → Option Value} {base : Heap} {glb : List (Str × Int)} {a : Addr} {fd : FuncData} {st : Stmt}
variable {q0 q1 q2 q3 q4 q5 q6 q7 q8 q9 q10 q11 q12 q13 q14 q15 q16 q17 q18 q19 q20 q21 q22 q23 q24 q25 q26 q27 q28 q29 q30 q31 q32 q33 q34 q35 q36 q37 q38 q39 q40 q41 q42 q43 q44 q45 q46 q47 q48 q49 q50 q51 q52 q53 q54 q55 q56 q57 q58 q59 q60 q61 q62 q63 q64 q65 q66 q67 q68 q69 q70 q71 q72 q73 q74 q75 q76 q77 q78 q79 q80 q81 q82 q83 q84 q85 q86 q87 q88 q89 q90 q91 q92 q93 q94 q95 q96 : Pos}
theorem draw_ok (m : Mods K mg glb) (T : TextAt K mg "_law_draw" "_law_draw" st a fd) (hsc : defScope st = scDraw) (hbody : defBody st = drawTxt q0 q1 q2 q3 q4 q5 q6 q7 q8 q9 q10 q11 q12 q13 q14 q15 q16 q17 q18 q19 q20 q21 q22 q23 q24 q25 q26 q27 q28 q29 q30 q31 q32 q33 q34 q35 q36 q37 q38 q39 q40 q41 q42 q43 q44 q45 q46 q47 q48 q49 q50 q51 q52 q53 q54 q55 q56 q57 q58 q59 q60 q61 q62 q63 q64 q65 q66 q67 q68 q69 q70 q71 q72 q73 q74 q75 q76 q77 q78 q79 q80 q81 q82 q83 q84 q85 q86 q87 q88 q89 q90 q91 q92 q93 q94 q95 q96)
    (hb : ∀ (kV doc pm : Value) (an : Option Addr) (cdv ct : Value) (us : List Value), us.length = 2 → bindArgs (PySem.W.fnOf "_law_draw" "_law_draw" (defArgs st) (defBody st) (defScope st) .none kV doc pm an cdv ct) ⟨us, []⟩ = pure ((["pot", "many"] : List Str).zip us))
    (hl1 : (q10.endLine == q11.line) = true) (hl2 : (q17.endLine == q21.line) = true) : OkAt P w K mg base 1 ⟨"_law_draw", ["pot", "many"], sp_law_draw, []⟩ := by
  have S : FnScope DN ["pot", "many"] (defScope st) := by rw [hsc]; exact ⟨rfl, rfl, rfl, by decide +kernel, rfl, by decide +kernel, by decide +kernel⟩
  refine ⟨a, fd, T.fun_.ok (k := 0) S (fun vs H Q E q => q.1) (fun cdv A outer s H vs Q E hr q => ?_), T.mg, T.fun_.kp, T.fun_.bindsN hb, fun q hq => by cases hq⟩
  obtain ⟨hl, G, F, args, Φ, cb, rv, ⟨mm, rfl, h0, h1, hr2⟩, hQ⟩ := q
  refine ⟨_, PSs.nox (pb_w (X := (cxOf CX0 P w K mg base DN "_law_draw" (defScope st) a cdv A outer s H E).nox)), ?_⟩
  have fx := fits_of (fns := []) (own := DN) (g := false) (E := E) (outer := outer) (H := H) (f := a) (cd := cdv) (s := s) (A := A) (qual := "_law_draw") m (AllOk.nil (P := P) (w := w) (base := base)) S.nd S.kind hr (fun z => by cases z)
  obtain ⟨x, r, rfl, ⟨r1, _⟩, r2⟩ := rv
  obtain ⟨y, r', rfl, ⟨r3, _⟩, r4⟩ := r2
  have r4 : r' = [] := r4
  subst r4
  obtain ⟨p, g, eG, rfl⟩ := r1
  have r3 : RepD F H (.int (mm : Int)) y := r3
  simp only [RepD] at r3
  subst r3
  obtain ⟨po, n1, n2⟩ := cb.pt p g eG
  have hne : p ≠ g := fun z => by
    subst z
    obtain ⟨_, _, _, e1, e2, _⟩ := po
    rw [e1] at e2; cases e2
  have lk : ∀ x ∈ ([("pot", .local), ("many", .local), ("great", .local), ("cell", .local), ("own", .local), ("int", .globalImplicit)] : List (Str × NameKind)), (defScope st).names.lookup x.1 = some x.2 := by rw [hsc]; decide +kernel
  have gi : (defScope st).names.lookup ("int" : Str) = some .globalImplicit := lk ("int", .globalImplicit) (by simp)
  have sc : DrawSc (cxOf CX0 P w K mg base DN "_law_draw" (defScope st) a cdv A outer s H E).nox := ⟨rfl, lk ("pot", .local) (by simp), lk ("many", .local) (by simp), lk ("great", .local) (by simp), lk ("cell", .local) (by simp), lk ("own", .local) (by simp), gl_of fx gi, bn_of fx (by decide), fx.units⟩
  rw [hbody]
  refine draw_body sc po hne (by omega) (by omega) hl1 hl2 fun r H' ad k0 k1 => ?_
  refine hQ (.d (.int r)) F H' (.int r) ⟨fun b o e n => ad.keep b o e (fun z => n ⟨p, g, eG, .inl z⟩) (fun z => n ⟨p, g, eG, .inr z⟩), ad.live, fun _ h => h, fun _ h => .inl h, fun b fb => ?_, fun p' g' e => by rw [eG] at e; cases e; exact ad.ok⟩ ⟨by simp only [RepV, RepD], fun z => by cases z⟩ ?_
  · obtain ⟨o, e⟩ := cb.al b fb
    exact ad.live b o e
  · obtain ⟨n, rfl⟩ := Int.eq_ofNat_of_zero_le k0
    exact hr2 n (by omega)
theorem pot_ok (m : Mods K mg glb) (T : TextAt K mg "_law_pot" "_law_pot" st a fd) (hsc : defScope st = scPot) (hbody : defBody st = potTxt q0 q1 q2 q3 q4 q5 q6 q7 q8 q9 q10 q11 q12 q13 q14 q15 q16 q17 q18 q19 q20 q21 q22 q23 q24 q25 q26 q27 q28 q29 q30 q31 q32 q33 q34 q35 q36 q37 q38 q39 q40 q41 q42 q43 q44 q45 q46 q47 q48 q49 q50 q51 q52 q53 q54 q55 q56 q57 q58 q59 q60 q61 q62 q63 q64) (hpos : q0.line = q1.line) : FnOk P w K mg base CX0 1 a fd ["script"] (spPot K) := by
  have S : FnScope PN ["script"] (defScope st) := by rw [hsc]; exact ⟨rfl, rfl, rfl, by decide +kernel, rfl, by decide +kernel, by decide +kernel⟩
  refine T.fun_.ok (k := 0) S (fun vs H Q E ⟨c, ns, e, _⟩ => by rw [e]; rfl) (fun cdv A outer s H vs Q E hr q => ?_)
  obtain ⟨c, ns, rfl, hS, hl, hQ⟩ := q
  refine ⟨_, PSs.nox (pb_w (X := (cxOf CX0 P w K mg base PN "_law_pot" (defScope st) a cdv A outer s H E).nox)), ?_⟩
  have fx := fits_of (fns := []) (glb := glb) (own := PN) (g := false) (E := E) (outer := outer) (H := H) (f := a) (cd := cdv) (s := s) (A := A) (qual := "_law_pot") m (AllOk.nil (P := P) (w := w) (base := base)) S.nd S.kind hr (fun z => by cases z)
  have fx2 : Fits CPot (cxOf CX0 P w K mg base PN "_law_pot" (defScope st) a cdv A outer s H E).nox := ⟨fx.n, fx.nd, hsc, fx.kind, fx.calm, fx.xe, fx.fn, fx.blt, (fun p hp => by cases hp), (fun f hf => by cases hf), (fun z => by cases z), fx.units⟩
  rw [hbody]
  exact pot_body fx2 S.kind hS hl hpos fun H' p g po => hQ H' p g po
end
end Ev
set_option Elab.async false
set_option linter.all false
set_option maxRecDepth 100000
/-! V14: the law's trees. -/
namespace Ev
open PySem PySem.Spec PyProof.Rows L2

/-- a comprehension whose items are told by a property alone -/
theorem compW_any {α : Type} {dt : DT} {de : DO} {vs : List Nat} {Φ : List PyData → Env → Prop} {env : Env} (f : α → PyData) (P : PyData → Prop) :
    ∀ (l : List α) (acc : List PyData), acc.length + l.length ≤ 16777216 →
    (∀ x ∈ l, ∀ (N : PyData → Env → Prop), (∀ d, P d → N d env) → dt (f x) env fun e1 => de e1 fun r e3 => shR r e3 fun v e4 => ∃ d, v = .d d ∧ N d (wipeE e4 vs)) →
    (∀ ds : List PyData, ds.length = l.length → (∀ d ∈ ds, P d) → Φ (acc ++ ds) env) → compW dt dYes de vs (l.map f) env acc Φ
  | [], acc, _, _, h => by simpa [compW] using h [] rfl (fun d hd => by cases hd)
  | x :: xs, acc, hl, hs, h => by
    have hl' : acc.length + (xs.length + 1) ≤ 16777216 := by simpa using hl
    have := hs x (List.mem_cons_self ..) (fun d e => acc.length < 16777216 ∧ compW dt dYes de vs (xs.map f) e (acc ++ [d]) Φ) (fun d hd => ⟨by omega, compW_any f P xs (acc ++ [d]) (by simp; omega) (fun y hy => hs y (List.mem_cons_of_mem _ hy)) fun ds e1 e2 => by
      have := h (d :: ds) (by simp [e1]) (fun z hz => by
        rcases List.mem_cons.mp hz with rfl | hz
        · exact hd
        · exact e2 z hz)
      simpa using this⟩)
    simpa [compW] using this
theorem bits_of {ds : List PyData} (h : ∀ d ∈ ds, ∃ r : Nat, r < 2 ∧ d = .int r) : ∃ xs : List Int, ds = xs.map .int ∧ Bits xs := by
  induction ds with
  | nil => exact ⟨[], rfl, .nil⟩
  | cons d ds ih =>
    obtain ⟨xs, rfl, hx⟩ := ih fun e he => h e (List.mem_cons_of_mem _ he)
    obtain ⟨r, hr, rfl⟩ := h d (List.mem_cons_self ..)
    refine ⟨(r : Int) :: xs, rfl, fun b hb => ?_⟩
    rcases List.mem_cons.mp hb with rfl | hb
    · omega
    · exact hx b hb

def sp_law_place : FSpec := sp_row_place
def D_law_weight : DS := (dSeq (dSet 2 (dBin oSub (dUn oBits (dUn oLen (dVar 0))) (dC (.int 1)))) (dSeq (dSet 3 (dBin oShl (dCall 1 sp_law_place (dCons (dVar 1) dNil)) (dBin oSub (dVar 2) (dUn oLen (dVar 1))))) (dSeq (dRet (dUn oSum (dLc [4] (dSeqI (dSl (dVar 0) (dSomeP (dVar 3)) (dSomeP (dBin oAdd (dVar 3) (dBin oShl (dC (.int 1)) (dBin oSub (dVar 2) (dUn oLen (dVar 1)))))))) (tName 4) dYes (dBin oMul (dVar 4) (dVar 4))))) dNext)))
def sp_law_weight : FSpec := fun args Φ => ∃ (n k p : Nat) (v : Nat → Int), args = [.d (TI (tab (2 ^ n) v)), .d (TI (rowN k p))] ∧ n ≤ 20 ∧ k ≤ n ∧ p < 2 ^ k ∧ Lim (2 ^ n) v ∧ Φ (.d (.int (wt n v k p)))
theorem v_law_weight (args : List Val) (Φ : Val → Prop) (h : sp_law_weight args Φ) : D_law_weight (kRet Φ) (envS ["values", "begin", "n", "low", "own"] args) := by
  obtain ⟨n, k, p, v, rfl, hn, hk, hp, hv, hΦ⟩ := h
  have tl : ((tab (2 ^ n) v).length : Int) = ((2 ^ n : Nat) : Int) := by rw [tab_length]
  have bl := bits_pow n
  have le := part_le hk hp
  have l20 := len20 hn
  have pm : 2 ^ (n - k) ≤ 2 ^ n := two_le (by omega)
  have p0 := Nat.two_pow_pos (n - k)
  have ep : ((n : Int) - k).toNat = n - k := by omega
  have pp : p < 2 ^ 20 := Nat.lt_of_lt_of_le hp (two_le (by omega))
  simp only [D_law_weight, envS]
  generalize ha : ((2 ^ n : Nat) : Int) = a at *
  simp [tl, bl, rowN_length]
  refine ⟨rowN k p, rfl, ?_⟩
  rw [place_rowN k p hp]
  simp [rowN_length]
  refine ⟨⟨by omega, by omega, by omega⟩, ⟨by omega, by omega, by decide⟩, ?_⟩
  rw [← two_cast, show (p : Int) * ((2 ^ (n - k) : Nat) : Int) = ((p * 2 ^ (n - k) : Nat) : Int) by push_cast; rfl]
  unfold wt at hΦ
  generalize hm : 2 ^ (n - k) = m at *
  rw [cut_tab le]
  refine compW_ints (fun i => .int (v (p * m + i) * v (p * m + i))) (by omega) (fun i hi M hM => ?_) (sum_tab (by simpa using hΦ))
  have b := hv (p * m + i) (by omega)
  simp
  exact ⟨cm_small (by omega), hM⟩
def rowsL (n : Nat) (v : Nat → Int) (c : Int) (k : Nat) : List PyData := (lvl n v c k).map fun p => TI (rowN k p)
def sp_law_tree : FSpec := fun args Φ => ∃ (n c : Nat) (v : Nat → Int), args = [.d (TI (tab (2 ^ n) v)), .d (.int n), .d (.int c)] ∧ n ≤ 12 ∧ c ≤ 1048576 ∧ Lim (2 ^ n) v ∧ Φ (.d (T (treeD n v c)))
def D_law_tree : DS := (dSeq (dPar2 3 4 (dLst dNil) (dLst (dCons (dTup dNil) dNil))) (dSeq (dFor (dRng1 (dCons (dBin oAdd (dVar 1) (dC (.int 1))) dNil)) (tName 5) (dSeq (dSet 6 (dLc [7] (dSeqI (dVar 4)) (tName 7) dYes (dTup (dCons (dVar 7) (dCons (dCall 2 sp_law_weight (dCons (dVar 0) (dCons (dVar 7) dNil))) dNil))))) (dSeq (dExpr (dExt 3 (dVar 6))) (dSeq (dSet 4 (dLst dNil)) (dSeq (dFor (dSeqI (dVar 6)) (tTup 2 (tCons (tName 7) (tCons (tName 8) tNil))) (dSeq (dExpr (dExt 4 (dIf (dTst (dBin oGe (dVar 8) (dBin oMul (dVar 2) (dVar 2)))) (dLst (dCons (dBin oAdd (dVar 7) (dTup (dCons (dC (.int 0)) dNil))) (dCons (dBin oAdd (dVar 7) (dTup (dCons (dC (.int 1)) dNil))) dNil))) (dLst dNil)))) dNext)) dNext))))) (dSeq (dRet (dUn oTuple (dVar 3))) dNext)))
abbrev B_lt_in : DS := (dSeq (dExpr (dExt 4 (dIf (dTst (dBin oGe (dVar 8) (dBin oMul (dVar 2) (dVar 2)))) (dLst (dCons (dBin oAdd (dVar 7) (dTup (dCons (dC (.int 0)) dNil))) (dCons (dBin oAdd (dVar 7) (dTup (dCons (dC (.int 1)) dNil))) dNil))) (dLst dNil)))) dNext)
theorem ltree_in {K : KE} {n c k : Nat} {v : Nat → Int} {e0 e1 e3 e5 e6 : Val} (hc : c ≤ 1048576) (hk : k ≤ 12)
    (h : ∀ (z7 : Option PyData) z8, K.nx [some e0, some e1, some (.d (.int c)), some e3, some (.own (rowsL n v c (k + 1))), some e5, some e6, z7.map Val.d, z8]) (z7 : Option PyData) (z8 : Option Val) :
    forW (tTup 2 (tCons (tName 7) (tCons (tName 8) tNil))) B_lt_in K (lvD n v c k) [some e0, some e1, some (.d (.int c)), some e3, some (.own []), some e5, some e6, z7.map Val.d, z8] := by
  have p12 : 2 ^ k ≤ 4096 := by have := two_le hk; simpa using this
  have ll := lvl_len (n := n) (v := v) (c := (c : Int)) k
  refine forW_map (itm n v k) (fun r e => ∃ (done : List Nat) (z7 : Option PyData) (z8 : Option Val), e = [some e0, some e1, some (.d (.int c)), some e3, some (.own ((done.flatMap fun p => if (c : Int) * c ≤ wt n v k p then [2 * p, 2 * p + 1] else []).map fun p => TI (rowN (k + 1) p))), some e5, some e6, z7.map Val.d, z8] ∧ done ++ r = lvl n v c k) ?_ ?_ (lvl n v c k) _ ⟨[], z7, z8, rfl, rfl⟩
  · rintro e ⟨done, y7, y8, rfl, h2⟩
    rw [List.append_nil] at h2
    subst h2
    exact h y7 y8
  · rintro p r e ⟨done, y7, y8, rfl, h2⟩ N hN
    have hd : done.length ≤ 4096 := by
      have : done.length ≤ (lvl n v c k).length := by rw [← h2]; simp
      omega
    have gl := grow_len (fun p => if (c : Int) * c ≤ wt n v k p then [2 * p, 2 * p + 1] else []) (fun a => by split <;> simp) done
    have hp : p < 2 ^ k := lvl_lt (n := n) (v := v) (c := c) (by rw [← h2]; simp)
    rw [List.length_flatMap] at gl
    by_cases hw : (c : Int) * c ≤ wt n v k p
    · have hw2 : ¬ wt n v k p < (c : Int) * c := by omega
      simp [itm, and_assoc, hw, hw2, rowN_length]
      rw [row_0, row_1]
      refine ⟨cm_small (by omega), by omega, by omega, hN _ ⟨done ++ [p], some (TI (rowN k p)), some (.d (I (wt n v k p))), ?_, by simpa using h2⟩⟩
      simp [hw]
    · have hw2 : wt n v k p < (c : Int) * c := by omega
      simp [itm, and_assoc, hw, hw2]
      refine ⟨cm_small (by omega), by omega, hN _ ⟨done ++ [p], some (TI (rowN k p)), some (.d (I (wt n v k p))), ?_, by simpa using h2⟩⟩
      simp [hw]
theorem v_law_tree (args : List Val) (Φ : Val → Prop) (h : sp_law_tree args Φ) : D_law_tree (kRet Φ) (envS ["values", "n", "least", "found", "level", "size", "own", "begin", "weight"] args) := by
  obtain ⟨n, c, v, rfl, hn, hc, hv, hΦ⟩ := h
  simp [D_law_tree, envS]
  refine ⟨by omega, by omega, ?_⟩
  refine forW_range _ (n + 1) (fun k e => ∃ (w : Val) (z5 z6 : Option Val) (z7 : Option PyData) (z8 : Option Val), e = [some (.d (TI (tab (2 ^ n) v))), some (.d (.int n)), some (.d (.int c)), some (.own ((List.range k).flatMap fun j => lvD n v c j)), some w, z5, z6, z7.map Val.d, z8] ∧ toL w = some (rowsL n v c k)) ?_ ?_ _ ⟨.own [TI []], none, none, none, none, rfl, rfl⟩
  · rintro e ⟨w, z5, z6, z7, z8, rfl, hw⟩
    simp
    exact hΦ
  · rintro k hk e ⟨w, z5, z6, z7, z8, rfl, hw⟩ N hN
    have b1 := flat_len (f := fun j => lvD n v c j) (fun j => lvD_len) k
    have b2 := lvD_len (n := n) (v := v) (c := c) (k := k)
    have b3 : 2 ^ k ≤ 4096 := by have := two_le (show k ≤ 12 by omega); simpa using this
    have rs : ((List.range (k + 1)).flatMap fun j => lvD n v c j) = ((List.range k).flatMap fun j => lvD n v c j) ++ lvD n v c k := by
      rw [List.range_succ, List.flatMap_append]; simp
    have ll := lvl_len (n := n) (v := v) (c := (c : Int)) k
    rw [rs] at hN
    generalize hL : ((List.range k).flatMap fun j => lvD n v c j) = L at *
    have comp : ∀ (Ψ : List PyData → Env → Prop) (a1 a2 a3 a4 a5 a6 a8 : Option Val), Ψ (lvD n v c k) [some (.d (TI (tab (2 ^ n) v))), a1, a2, a3, a4, a5, a6, none, a8] →
        compW (tName 7) dYes (dTup (dCons (dVar 7) (dCons (dCall 2 sp_law_weight (dCons (dVar 0) (dCons (dVar 7) dNil))) dNil))) [7] (rowsL n v c k) [some (.d (TI (tab (2 ^ n) v))), a1, a2, a3, a4, a5, a6, none, a8] [] Ψ := fun Ψ a1 a2 a3 a4 a5 a6 a8 hΨ => by
      refine compW_all (fun p => TI (rowN k p)) (itm n v k) (lvl n v c k) (by omega) (fun p hp M hM => ?_) hΨ
      simp
      refine ⟨n, k, p, v, rfl, by omega, by omega, lvl_lt hp, hv, ?_⟩
      simp
      exact hM
    have tail : ∀ (w : Val) (z5 : Val) (z7 : Option PyData) z8, forW (tTup 2 (tCons (tName 7) (tCons (tName 8) tNil))) B_lt_in { nx := N, rt := Φ, bk := fun e => dSeq (dRet (dUn oTuple (dVar 3))) dNext (kRet Φ) e, ct := N } (lvD n v c k)
        [some (.d (TI (tab (2 ^ n) v))), some (.d (.int n)), some (.d (.int c)), some (.own (L ++ lvD n v c k)), some (.own []), some z5, some (.d (.list (lvD n v c k))), z7.map Val.d, z8] := fun w z5 z7 z8 =>
      ltree_in hc (by omega) (fun z7 z8 => hN _ ⟨_, _, _, z7, z8, rfl, rfl⟩) z7 z8
    cases w with
    | own xs =>
      cases hw
      simp
      refine comp _ _ _ _ _ _ _ _ ?_
      cases z7 with
      | none => simp; exact ⟨by omega, tail (.own []) _ none _⟩
      | some x => simp; exact ⟨by omega, tail (.own []) _ (some x) _⟩
    | d d => cases d with
      | list xs =>
        cases hw
        simp
        refine comp _ _ _ _ _ _ _ _ ?_
        cases z7 with
        | none => simp; exact ⟨by omega, tail (.own []) _ none _⟩
        | some x => simp; exact ⟨by omega, tail (.own []) _ (some x) _⟩
      | _ => cases hw
    | _ => cases hw
end Ev
set_option Elab.async false
set_option linter.all false
set_option maxRecDepth 100000
/-! V15: the law's checks of trees. -/
namespace Ev
open PySem PySem.Spec PyProof.Rows L2

theorem lay_s {x : String} (h : (PyData.str (Str.ofString x)).canLay0 = true) : Lay 0 (.str x) := ⟨h, by simp [PyData.depth]⟩
theorem lay_itm (n : Nat) (v : Nat → Int) (k p : Nat) : Lay 2 (itm n v k p) := lay_t fun x hx => by
  rcases List.mem_cons.mp hx with rfl | hx
  · exact lay_TI _
  · rw [List.mem_singleton.mp hx]; exact (lay_i _).mono (by decide)
theorem lay_trD (n : Nat) (v : Nat → Int) (c : Int) : Lay 3 (T (treeD n v c)) := lay_t fun x hx => by
  rw [treeD_eq] at hx
  obtain ⟨q, _, rfl⟩ := List.mem_map.mp hx
  exact lay_itm _ _ _ _
theorem lay_rows (rs : List (List Int)) : Lay 2 (T (rs.map TI)) := lay_t fun x hx => by
  obtain ⟨r, _, rfl⟩ := List.mem_map.mp hx
  exact lay_TI r
theorem lay_rowsP (n : Nat) (ps : List Nat) : Lay 2 (T (ps.map fun p => TI (rowN n p))) := lay_t fun x hx => by
  obtain ⟨r, _, rfl⟩ := List.mem_map.mp hx
  exact lay_TI _
/-- how many great rows -/
theorem sumN_ind (N : Nat) (P : Nat → Bool) (c : Int) : (sumN N fun s => if P s = true then c else 0) = ((List.range N).filter P).length * c := by
  induction N with
  | zero => simp [sumN]
  | succ N ih =>
    simp only [sumN]
    rw [ih, List.range_succ, List.filter_append, List.length_append]
    cases h : P N <;> simp [List.filter_cons, h]
    rw [Int.add_mul]; omega
theorem sumN_mono {f g : Nat → Int} : ∀ {n : Nat}, (∀ i, i < n → f i ≤ g i) → sumN n f ≤ sumN n g
  | 0, _ => Int.le_refl _
  | n + 1, h => by
    have := sumN_mono (n := n) fun i hi => h i (by omega)
    have := h n (by omega)
    simp only [sumN]; omega
theorem parseval (n : Nat) {t : Nat → Int} (ht : BitF (2 ^ n) t) : (sumN (2 ^ n) fun s => spec n t s * spec n t s) = ((2 ^ (2 * n) : Nat) : Int) := by
  have h := hat_conv n (sg t) (sg t) 0 (Nat.two_pow_pos n)
  have e0 : hat n (fun s => hat n (sg t) s * hat n (sg t) s) 0 = sumN (2 ^ n) fun s => hat n (sg t) s * hat n (sg t) s := by
    rw [← hat_sum n 0 _ (Nat.two_pow_pos n)]
    refine sumN_congr fun x hx => ?_
    have : par n 0 x = 0 := by
      unfold par
      have : rowN n 0 = List.replicate n 0 := by
        rw [rowN_tab]; simp [List.map_const']
      rw [this, prodR_zero]
    rw [this]; omega
  rw [e0] at h
  have e1 : (sumN (2 ^ n) fun x => sg t x * sg t (x ^^^ 0)) = ((2 ^ n : Nat) : Int) := by
    rw [sumN_congr (g := fun _ => 1) fun i hi => by
      rw [Nat.xor_zero]; unfold sg; rcases ht i hi with e | e <;> rw [e] <;> rfl]
    rw [sumN_const]; omega
  rw [e1] at h
  unfold spec
  rw [h, ← two_cast, show 2 * n = n + n by omega, Nat.pow_add]
  push_cast; rfl
theorem great_few {n c : Nat} {t : Nat → Int} (ht : BitF (2 ^ n) t) (hc : 0 < c) : ((grt n (spec n t) c).length : Int) ≤ ((2 ^ (2 * n) : Nat) : Int) / ((c : Int) * c) := by
  have hcc : (0 : Int) < (c : Int) * c := Int.mul_pos (by omega) (by omega)
  rw [Int.le_ediv_iff_mul_le hcc, ← parseval n ht]
  unfold grt
  rw [← sumN_ind]
  refine sumN_mono fun s hs => ?_
  by_cases h : (c : Int) ≤ iabs (spec n t s)
  · rw [if_pos (by simpa using h)]
    exact (sq_le (by omega)).mpr h
  · rw [if_neg (by simpa using h)]
    exact sq_nonneg _
def sp_law_are_trees_right : FSpec := fun args Φ => ∃ (n c : Nat) (t : Nat → Int), args = [.pot, .d (TI (tab (2 ^ n) t)), .d (TI (tab (2 ^ n) (spec n t))), .d (.int n), .d (.int c)] ∧ 1 ≤ n ∧ n ≤ 5 ∧ 0 < c ∧ c ≤ 10000 ∧ BitF (2 ^ n) t ∧ Φ (.d (.bool true))
def D_law_are_trees_right : DS := (dSeq (dSet 5 (dCall 3 sp_law_tree (dCons (dVar 2) (dCons (dVar 3) (dCons (dVar 4) dNil))))) (dSeq (dIfS (dOrT (dTst (dBin oNe (dCall 2 sp_tree_paper (dCons (dVar 1) (dCons (dVar 4) dNil))) (dVar 5))) (dTst (dBin oIsNot (dCall 3 sp_tree_error (dCons (dVar 1) (dCons (dVar 4) (dCons (dVar 5) dNil)))) (dC .none)))) (dSeq (dRet (dC (.bool false))) dNext) dNext) (dSeq (dSet 6 (dUn oTuple (dLc [12] (dRng1 (dCons (dBin oAdd (dVar 3) (dC (.int 1))) dNil)) (tName 12) dYes (dUn oLen (dLc [10, 11] (dSeqI (dVar 5)) (tTup 2 (tCons (tName 10) (tCons (tName 11) tNil))) (dTst (dBin oEq (dUn oLen (dVar 10)) (dVar 12))) (dC (.int 1))))))) (dSeq (dSet 7 (dUn oTuple (dLc [13, 14] (dZip (dCons (dCall 1 sp_law_rows (dCons (dVar 3) dNil)) (dCons (dVar 2) dNil))) (tTup 2 (tCons (tName 13) (tCons (tName 14) tNil))) (dTst (dBin oGe (dUn oAbs (dVar 14)) (dVar 4))) (dVar 13)))) (dSeq (dIfS (dOrT (dTst (dBin oNe (dCall 2 sp_tree_widths (dCons (dVar 1) (dCons (dVar 4) dNil))) (dVar 6))) (dTst (dBin oNe (dCall 2 sp_great_rows (dCons (dVar 1) (dCons (dVar 4) dNil))) (dVar 7)))) (dSeq (dRet (dC (.bool false))) dNext) dNext) (dSeq (dSet 8 (dBin oDiv (dBin oShl (dC (.int 1)) (dBin oMul (dC (.int 2)) (dVar 3))) (dBin oMul (dVar 4) (dVar 4)))) (dSeq (dIfS (dOrT (dTst (dBin oNe (dCall 3 sp_great_of_paper (dCons (dVar 3) (dCons (dVar 4) (dCons (dVar 5) dNil)))) (dVar 7))) (dOrT (dTst (dBin oNe (dCall 2 sp_rows_most (dCons (dVar 3) (dCons (dVar 4) dNil))) (dVar 8))) (dTst (dBin oGt (dUn oLen (dVar 7)) (dVar 8))))) (dSeq (dRet (dC (.bool false))) dNext) dNext) (dSeq (dSet 9 (dCall 2 sp_law_draw (dCons (dVar 0) (dCons (dUn oLen (dVar 5)) dNil)))) (dSeq (dAsg (tTup 2 (tCons (tName 10) (tCons (tName 11) tNil))) (dBin oIxS (dVar 5) (dVar 9))) (dSeq (dIfS (dTst (dBin oNe (dCall 3 sp_tree_error (dCons (dVar 1) (dCons (dVar 4) (dCons (dBin oAdd (dBin oAdd (dSl (dVar 5) dNoP (dSomeP (dVar 9))) (dTup (dCons (dTup (dCons (dVar 10) (dCons (dBin oAdd (dVar 11) (dC (.int 1))) dNil))) dNil))) (dSl (dVar 5) (dSomeP (dBin oAdd (dVar 9) (dC (.int 1)))) dNoP)) dNil)))) (dTup (dCons (dC (.str "weight")) (dCons (dVar 9) (dCons (dVar 11) dNil)))))) (dSeq (dRet (dC (.bool false))) dNext) dNext) (dSeq (dRet (dBin oEq (dCall 3 sp_tree_error (dCons (dVar 1) (dCons (dVar 4) (dCons (dUn oList (dVar 5)) dNil)))) (dC (.str "form")))) dNext)))))))))))
theorem sh_L {v : Val} {xs : List PyData} {env : Env} {Φ : Val → Env → Prop} (h : toL v = some xs) : shR (.v v) env Φ = Φ (.d (.list xs)) env := by
  cases v with
  | own ys => cases h; rfl
  | d d => cases d <;> first | (cases h; rfl) | cases h
  | _ => cases h
theorem lay_str_weight : Lay 0 (.str "weight") := lay_s (by decide +kernel)
theorem lay_str_form : Lay 0 (.str "form") := lay_s (by decide +kernel)
theorem lay_str_place : Lay 0 (.str "place") := lay_s (by decide +kernel)
theorem lay_err {w : String} (h : Lay 0 (.str w)) (a b : Int) : Lay 1 (T [.str w, I a, I b]) := lay_t fun x hx => by
  simp at hx
  rcases hx with rfl | rfl | rfl
  · exact h
  · exact lay_i _
  · exact lay_i _
theorem set_cut {α : Type} (l : List α) (i : Nat) (x : α) (h : i < l.length) : l.take i ++ [x] ++ l.drop (i + 1) = l.set i x := by
  rw [List.set_eq_take_append_cons_drop, if_pos h]; simp
def wsOf (n : Nat) (v : Nat → Int) (c : Int) : List W3 := (treeP n v c).map fun q => (q.1, q.2, wt n v q.1 q.2)
theorem ws_items (n : Nat) (v : Nat → Int) (c : Int) : (wsOf n v c).map itw = treeD n v c := by
  rw [treeD_eq]; unfold wsOf; rw [List.map_map]; rfl
theorem ws_begins (n : Nat) (v : Nat → Int) (c : Int) : (wsOf n v c).map (fun q => (q.1, q.2.1)) = treeP n v c := by
  unfold wsOf; rw [List.map_map]; simp [Function.comp_def]
theorem ws_right {n : Nat} {v : Nat → Int} {c : Int} {q : W3} (h : q ∈ wsOf n v c) : rightW n v q := by
  simp only [wsOf, List.mem_map] at h
  obtain ⟨p, _, rfl⟩ := h
  rfl
theorem v_law_are_trees_right (args : List Val) (Φ : Val → Prop) (h : sp_law_are_trees_right args Φ) :
    D_law_are_trees_right (kRet Φ) (envS ["pot", "table", "values", "n", "least", "tree", "widths", "great", "most", "i", "begin", "weight", "size", "row", "own"] args) := by
  obtain ⟨n, c, t, rfl, h1, hn, hc, hc2, ht, hΦ⟩ := h
  have tl := treeD_len n (spec n t) c
  have p6 : 2 ^ (n + 1) ≤ 64 := by have := two_le (show n + 1 ≤ 6 by omega); simpa using this
  have p5 : 2 ^ n ≤ 32 := by have := two_le hn; simpa using this
  have gl := grt_len n (spec n t) (c : Int)
  simp only [D_law_are_trees_right, envS]
  rw [dSeq]
  simp [-dSeq]
  refine ⟨n, c, spec n t, rfl, by omega, by omega, spec_lim (by omega) ht, ?_⟩
  simp [-dSeq]
  rw [dSeq]
  simp [-dSeq]
  refine ⟨n, c, t, rfl, by omega, by omega, ht, ?_⟩
  simp [-dSeq, ne_same (lay_trD n (spec n t) c) (by decide)]
  refine ⟨n, c, t, by omega, by omega, ht, .inr ⟨wsOf n (spec n t) c, by rw [ws_items], ws_begins _ _ _, fun _ => ?_, fun i q hq _ hr => (hr (ws_right (List.mem_of_getElem? hq))).elim⟩⟩
  simp [-dSeq]
  rw [dSeq]
  simp [-dSeq]
  refine ⟨by omega, by omega, ?_⟩
  refine compW_tab (N := n + 1) _ (fun k => .int ((lvl n (spec n t) c k).length : Nat)) (by omega) (fun k hk N hN => ?_) ?_
  · simp [-dSeq]
    rw [treeD_eq]
    refine compW_map (fun q : Nat × Nat => itm n (spec n t) q.1 q.2) (fun q => decide (q.1 = k)) (fun _ => I 1) (treeP n (spec n t) c) [] (by simp [treeP_len]; omega) (fun q hq M S hM hS => ?_) ?_
    · obtain ⟨j, p⟩ := q
      show tTup 2 (tCons (tName 10) (tCons (tName 11) tNil)) (T [TI (rowN j p), I (wt n (spec n t) j p)]) _ _
      simp [-dSeq, and_assoc, oEq_int, rowN_length]
      simp only at hM hS
      by_cases e : j = k
      · exact .inr ⟨by omega, hM (by simp [e])⟩
      · exact .inl ⟨by omega, hS (by simp [e])⟩
    · have tp := tree_part n (spec n t) c k (by omega) (fun _ => true)
      simp only [Bool.and_true] at tp
      simp only [tp, List.map_map, List.nil_append]
      simp [-dSeq]
      have e : (List.filter (fun _ => true) (lvl n (spec n t) c k)) = lvl n (spec n t) c k := List.filter_eq_self.mpr fun _ _ => rfl
      rw [e]
      rw [treeD_eq] at hN
      exact hN
  · rw [ints_tab]
    simp [-dSeq]
    rw [dSeq]
    simp [-dSeq]
    refine ⟨n, rfl, by omega, fun v hv => ?_⟩
    show shR _ _ _
    rw [sh_L hv]
    simp [-dSeq, and_assoc]
    rw [zip_rt]
    refine compW_map (fun s => PyData.tuple [TI (rowN n s), .int (spec n t s)]) (fun s => decide ((c : Int) ≤ iabs (spec n t s))) (fun s => TI (rowN n s)) (List.range (2 ^ n)) [] (by simp; omega) (fun s hs N S hN hS => ?_) ?_
    · simp [-dSeq, and_assoc]
      by_cases g : (c : Int) ≤ iabs (spec n t s)
      · have g2 : ¬ iabs (spec n t s) < c := by omega
        have hN := hN (by simpa using g)
        unfold iabs at g g2
        simp [-dSeq, g, g2]
        exact hN
      · have g2 : iabs (spec n t s) < c := by omega
        have hS := hS (by simpa using g2)
        unfold iabs at g g2
        simp [-dSeq, g, g2]
        exact hS
    · have lr := lay_rowsP n (grt n (spec n t) c)
      have fg : (List.filter (fun s => decide ((c : Int) ≤ iabs (spec n t s))) (List.range (2 ^ n))) = grt n (spec n t) c := rfl
      rw [fg]
      simp [-dSeq]
      rw [dSeq]
      simp [-dSeq]
      refine ⟨n, c, t, rfl, by omega, by omega, ht, ?_⟩
      simp [-dSeq, ne_TI]
      refine ⟨n, c, t, rfl, by omega, ht, ?_⟩
      simp [-dSeq, ne_same lr (by decide)]
      rw [dSeq]
      simp [-dSeq]
      have cc : c * c ≤ 10000 * 10000 := Nat.mul_le_mul hc2 hc2
      have cp : 0 < c * c := Nat.mul_pos hc hc
      have ce : (c : Int) * c = ((c * c : Nat) : Int) := by push_cast; rfl
      have e8 : (2 : Int) ^ (2 * (n : Int)).toNat = ((2 ^ (2 * n) : Nat) : Int) := by
        rw [show (2 * (n : Int)).toNat = 2 * n by omega, two_cast]
      have few := great_few ht hc
      rw [e8]
      have most : ∀ Ψ : Val → Prop, Ψ (.d (.int (((2 ^ (2 * n) : Nat) : Int) / ((c : Int) * c)))) → sp_rows_most [.d (.int n), .d (.int c)] Ψ := fun Ψ hΨ => ⟨n, c, rfl, by omega, hc, by omega, hΨ⟩
      refine ⟨cm_small (by omega), ⟨by omega, by omega, by decide⟩, cm_small (by omega), ⟨by omega, by omega⟩, ?_⟩
      generalize ((2 ^ (2 * n) : Nat) : Int) / ((c : Int) * c) = mst at few most ⊢
      rw [dSeq]
      simp [-dSeq]
      refine ⟨n, c, spec n t, rfl, h1, hn, by omega, ?_⟩
      simp [-dSeq, ne_same lr (by decide)]
      refine most _ ?_
      have few2 : ¬ mst < ((grt n (spec n t) c).length : Int) := by omega
      simp [-dSeq, oNe_int, few, few2]
      rw [dSeq]
      simp [-dSeq]
      have tne : 0 < (treeD n (spec n t) c).length := by
        have : (0, 0) ∈ treeP n (spec n t) c := by simp [treeP, lvl]
        rw [← treeP_len]
        exact List.length_pos_of_mem this
      refine ⟨(treeD n (spec n t) c).length, rfl, tne, by omega, fun r hr => ?_⟩
      obtain ⟨q, hq⟩ := get_lt (ws := treeP n (spec n t) c) (i := r) (by rw [treeP_len]; exact hr)
      have dq : (treeD n (spec n t) c)[r]? = some (itm n (spec n t) q.1 q.2) := by rw [treeD_eq, List.getElem?_map, hq]; rfl
      rw [dSeq]
      simp [-dSeq]
      refine ⟨_, at_nat dq, ?_⟩
      simp [-dSeq, itm, and_assoc]
      rw [dSeq]
      simp [-dSeq]
      rw [cut_to (Nat.le_of_lt hr), show ((r : Int) + 1) = ((r + 1 : Nat) : Int) by omega, cut_from (show r + 1 ≤ (treeD n (spec n t) c).length by omega)]
      have lw : (wsOf n (spec n t) c).length = (treeD n (spec n t) c).length := by rw [← ws_items, List.length_map]
      have wr : (wsOf n (spec n t) c)[r]? = some (q.1, q.2, wt n (spec n t) q.1 q.2) := by unfold wsOf; rw [List.getElem?_map, hq]; rfl
      refine ⟨by rw [List.length_take]; omega, by rw [List.length_take, List.length_drop]; omega, n, c, t, by omega, by omega, ht, .inr ⟨(wsOf n (spec n t) c).set r (q.1, q.2, wt n (spec n t) q.1 q.2 + 1), ?_, ?_, fun hall => ?_, fun i q' hi _ hw => ?_⟩⟩
      · have e : (treeD n (spec n t) c).set r (itw (q.1, q.2, wt n (spec n t) q.1 q.2 + 1)) = List.take r (treeD n (spec n t) c) ++ itw (q.1, q.2, wt n (spec n t) q.1 q.2 + 1) :: List.drop (r + 1) (treeD n (spec n t) c) := by
          rw [List.set_eq_take_append_cons_drop, if_pos hr]
        rw [List.map_set, ws_items, T, e]
        rfl
      · rw [List.map_set, ws_begins]
        apply List.ext_getElem?
        intro j
        rw [List.getElem?_set]
        by_cases e : r = j
        · subst e; rw [if_pos rfl, if_pos (by rw [treeP_len]; exact hr), hq]
        · rw [if_neg e]
      · have := hall (q.1, q.2, wt n (spec n t) q.1 q.2 + 1) (List.mem_iff_getElem?.mpr ⟨r, by rw [List.getElem?_set_self (by rw [lw]; exact hr)]⟩)
        unfold rightW at this
        simp only at this
        omega
      · rw [List.getElem?_set] at hi
        by_cases e : r = i
        · subst e
          rw [if_pos rfl, if_pos (by rw [lw]; exact hr)] at hi
          cases hi
          simp [-dSeq, ne_same (lay_err lay_str_weight r (wt n (spec n t) q.1 q.2)) (by decide)]
          rw [dSeq]
          simp [-dSeq]
          refine ⟨n, c, t, by omega, by omega, ht, .inl ⟨_, rfl, ?_⟩⟩
          simp [-dSeq, eq_same lay_str_form (by decide)]
          exact hΦ
        · rw [if_neg e] at hi
          exact (hw (ws_right (List.mem_of_getElem? hi))).elim
end Ev
set_option Elab.async false
set_option linter.all false
set_option maxRecDepth 100000
/-! V16: the law's check of led tables. -/
namespace Ev
open PySem PySem.Spec PyProof.Rows L2

theorem zip_yr : ∀ (ys : List Int) (rs : List (List Int)), zipD (ys.map .int) (rs.map TI) = (rs.zip ys).map fun q => PyData.tuple [.int q.2, TI q.1]
  | [], [] => rfl
  | [], _ :: _ => rfl
  | _ :: _, [] => rfl
  | y :: ys, r :: rs => by
    have ih := zip_yr ys rs
    unfold zipD at ih ⊢
    simp only [List.map_cons, List.zip_cons_cons, ih]
theorem tab_succ (n : Nat) (f : Nat → Int) : (tab n f).map PyData.int ++ [.int (f n)] = (tab (n + 1) f).map .int := by
  unfold tab
  rw [List.range_succ]; simp
theorem lay_tab (n : Nat) (f : Nat → Int) : Lay 1 (TI (tab n f)) := lay_TI _
def sp_law_is_led_right : FSpec := fun args Φ => ∃ (n : Nat) (t : Nat → Int), args = [.pot, .d (TI (tab (2 ^ n) t)), .d (TI (tab (2 ^ n) (spec n t))), .d (.int n)] ∧ n ≤ 12 ∧ BitF (2 ^ n) t ∧ Φ (.d (.bool true))
def D_law_is_led_right : DS := (dSeq (dSet 4 (dUn oTuple (dLc [11] (dRng1 (dCons (dCall 2 sp_law_draw (dCons (dVar 0) (dCons (dC (.int 4)) dNil))) dNil)) (tName 11) dYes (dUn oTuple (dLc [12] (dRng1 (dCons (dVar 3) dNil)) (tName 12) dYes (dCall 2 sp_law_draw (dCons (dVar 0) (dCons (dC (.int 2)) dNil)))))))) (dSeq (dPar2 5 6 (dCall 1 sp_law_rows (dCons (dUn oLen (dVar 4)) dNil)) (dLst dNil)) (dSeq (dFor (dSeqI (dVar 5)) (tName 7) (dSeq (dSet 8 (dBin oMul (dTup (dCons (dC (.int 0)) dNil)) (dVar 3))) (dSeq (dFor (dZip (dCons (dVar 7) (dCons (dVar 4) dNil))) (tTup 2 (tCons (tName 9) (tCons (tName 10) tNil))) (dSeq (dSet 8 (dIf (dTst (dBin oEq (dVar 9) (dC (.int 1)))) (dCall 2 sp_law_added (dCons (dVar 8) (dCons (dVar 10) dNil))) (dVar 8))) dNext)) (dSeq (dIfS (dTst (dBin oNe (dCall 3 sp_rows_through (dCons (dVar 3) (dCons (dVar 4) (dCons (dVar 7) dNil)))) (dVar 8))) (dSeq (dRet (dC (.bool false))) dNext) dNext) (dSeq (dExpr (dApp 6 (dBin oIxS (dVar 1) (dCall 1 sp_law_place (dCons (dVar 8) dNil))))) dNext))))) (dSeq (dSet 6 (dUn oTuple (dVar 6))) (dSeq (dIfS (dTst (dBin oNe (dCall 2 sp_led_table (dCons (dVar 1) (dCons (dVar 4) dNil))) (dVar 6))) (dSeq (dRet (dC (.bool false))) dNext) dNext) (dSeq (dRet (dBin oEq (dCall 3 sp_led_spectrum (dCons (dVar 3) (dCons (dVar 2) (dCons (dVar 4) dNil)))) (dUn oTuple (dLc [8] (dSeqI (dCall 1 sp_law_near (dCons (dVar 6) dNil))) (tName 8) dYes (dBin oSub (dUn oLen (dVar 6)) (dBin oMul (dC (.int 2)) (dVar 8))))))) dNext))))))
theorem v_law_is_led_right (args : List Val) (Φ : Val → Prop) (h : sp_law_is_led_right args Φ) : D_law_is_led_right (kRet Φ) (envS ["pot", "table", "values", "n", "rows", "ys", "due", "y", "own", "bit", "row", "turn", "i"] args) := by
  obtain ⟨n, t, rfl, hn, ht, hΦ⟩ := h
  simp only [D_law_is_led_right, envS]
  rw [dSeq]
  simp [-dSeq]
  refine ⟨4, rfl, by decide, by decide, fun m hm => ?_⟩
  simp [-dSeq]
  refine ⟨by omega, ?_⟩
  refine compW_any (fun i : Nat => PyData.int i) (fun d => ∃ r : List Int, d = TI r ∧ r.length = n ∧ Bits r) (List.range m) [] (by simp; omega) (fun i hi N hN => ?_) (fun ds dl hd => ?_)
  · simp [-dSeq]
    refine ⟨by omega, ?_⟩
    refine compW_any (fun i : Nat => PyData.int i) (fun d => ∃ r : Nat, r < 2 ∧ d = .int r) (List.range n) [] (by simp; omega) (fun j hj M hM => ?_) (fun es el he => ?_)
    · simp [-dSeq]
      exact ⟨2, rfl, by decide, by decide, fun r hr => by simp; exact hM _ ⟨r, hr, rfl⟩⟩
    · obtain ⟨xs, rfl, hx⟩ := bits_of he
      simp at el
      simp [-dSeq]
      exact hN _ ⟨xs, rfl, el, hx⟩
  · obtain ⟨rs, rfl, hr⟩ : ∃ rs : List (List Int), ds = rs.map TI ∧ RowsOf n rs := by
      clear dl
      induction ds with
      | nil => exact ⟨[], rfl, fun r hr => by cases hr⟩
      | cons d ds ih =>
        obtain ⟨rs, rfl, h1⟩ := ih fun e he => hd e (List.mem_cons_of_mem _ he)
        obtain ⟨r, rfl, h2, h3⟩ := hd d (List.mem_cons_self ..)
        exact ⟨r :: rs, rfl, fun x hx => by
          rcases List.mem_cons.mp hx with rfl | hx
          · exact ⟨h2, h3⟩
          · exact h1 x hx⟩
    simp at dl
    simp [-dSeq]
    rw [dSeq]
    simp [-dSeq]
    refine ⟨rs.length, rfl, by omega, fun v hv => ?_⟩
    have m12 : 2 ^ rs.length ≤ 4096 := by have := two_le (show rs.length ≤ 12 by omega); simpa using this
    have loop : ∀ (K : KE) (e5 : Val), K.rt = Φ → (∀ z7 z8 z9 z10, K.nx [some .pot, some (.d (TI (tab (2 ^ n) t))), some (.d (TI (tab (2 ^ n) (spec n t)))), some (.d (.int n)), some (.d (T (rs.map TI))), some e5, some (.own ((tab (2 ^ rs.length) fun q => t (thrP n rs q)).map .int)), z7, z8, z9, z10, none, none]) →
        forW (tName 7) (dSeq (dSet 8 (dBin oMul (dTup (dCons (dC (.int 0)) dNil)) (dVar 3))) (dSeq (dFor (dZip (dCons (dVar 7) (dCons (dVar 4) dNil))) (tTup 2 (tCons (tName 9) (tCons (tName 10) tNil))) (dSeq (dSet 8 (dIf (dTst (dBin oEq (dVar 9) (dC (.int 1)))) (dCall 2 sp_law_added (dCons (dVar 8) (dCons (dVar 10) dNil))) (dVar 8))) dNext)) (dSeq (dIfS (dTst (dBin oNe (dCall 3 sp_rows_through (dCons (dVar 3) (dCons (dVar 4) (dCons (dVar 7) dNil)))) (dVar 8))) (dSeq (dRet (dC (.bool false))) dNext) dNext) (dSeq (dExpr (dApp 6 (dBin oIxS (dVar 1) (dCall 1 sp_law_place (dCons (dVar 8) dNil))))) dNext)))) K
          ((rowsN rs.length).map TI) [some .pot, some (.d (TI (tab (2 ^ n) t))), some (.d (TI (tab (2 ^ n) (spec n t)))), some (.d (.int n)), some (.d (T (rs.map TI))), some e5, some (.own []), none, none, none, none, none, none] := fun K e5 hK hnx => by
      rw [rows_items]
      refine forW_range _ (2 ^ rs.length) (fun q e => ∃ z7 z8 z9 z10, e = [some .pot, some (.d (TI (tab (2 ^ n) t))), some (.d (TI (tab (2 ^ n) (spec n t)))), some (.d (.int n)), some (.d (T (rs.map TI))), some e5, some (.own ((tab q fun q => t (thrP n rs q)).map .int)), z7, z8, z9, z10, none, none]) ?_ ?_ _ ⟨none, none, none, none, rfl⟩
      · rintro e ⟨z7, z8, z9, z10, rfl⟩
        exact hnx _ _ _ _
      · rintro q hq e ⟨z7, z8, z9, z10, rfl⟩ N hN
        simp [-dSeq]
        rw [dSeq]
        simp [-dSeq]
        refine mul_one (by omega) ?_
        rw [dSeq]
        simp [-dSeq, and_assoc]
        rw [zip_yr]
        obtain ⟨h1, h2, h3⟩ := thrP_ok hr q
        refine forW_map (fun q : List Int × Int => PyData.tuple [.int q.2, TI q.1]) (fun r e => ∃ (a : List Int) (z9 z10 : Option Val), e = [some .pot, some (.d (TI (tab (2 ^ n) t))), some (.d (TI (tab (2 ^ n) (spec n t)))), some (.d (.int n)), some (.d (T (rs.map TI))), some e5, some (.own ((tab q fun q => t (thrP n rs q)).map .int)), some (.d (TI (rowN rs.length q))), some (.d (TI a)), z9, z10, none, none] ∧ a.length = n ∧ Bits a ∧ thrF r a = thr n rs (rowN rs.length q) ∧ ∀ x ∈ r, x.1.length = n ∧ Bits x.1) ?_ ?_ (rs.zip (rowN rs.length q)) _ ⟨List.replicate n 0, z9, z10, by simp, by simp, fun b hb => .inl (List.eq_of_mem_replicate hb), rfl, fun x hx => hr x.1 (List.of_mem_zip hx).1⟩
        · rintro e ⟨a, y9, y10, rfl, b1, b2, b3, b4⟩
          have b3 : a = thr n rs (rowN rs.length q) := b3
          show dSeq _ _ _ _
          rw [dSeq]
          simp [-dSeq]
          rw [dSeq]
          simp [-dSeq]
          refine ⟨n, rs, _, rfl, by omega, hr, ?_⟩
          rw [← b3]
          simp [-dSeq, ne_same (lay_TI a) (by decide)]
          rw [dSeq]
          simp [-dSeq]
          refine ⟨a, rfl, ?_⟩
          rw [b3, h3]
          simp [-dSeq]
          refine ⟨_, stepped_get h1, ?_⟩
          simp [tab_length]
          refine ⟨by omega, ?_⟩
          rw [tab_succ q (fun q => t (thrP n rs q))]
          exact hN _ ⟨_, _, _, _, rfl⟩
        · rintro x r e ⟨a, y9, y10, rfl, b1, b2, b3, b4⟩ M hM
          have hx := b4 x (List.mem_cons_self ..)
          unfold thrF at b3
          rw [List.foldl_cons] at b3
          by_cases c : x.2 = 1
          · rw [if_pos c] at b3
            simp [and_assoc, oEq_int, c]
            refine ⟨a, x.1, rfl, by omega, b2, hx.2, ?_⟩
            simp
            exact hM _ ⟨addR a x.1, _, _, rfl, by rw [addR_length]; omega, addR_bits _ _, b3, fun q' h' => b4 q' (List.mem_cons_of_mem _ h')⟩
          · rw [if_neg c] at b3
            simp [and_assoc, oEq_int, c]
            exact hM _ ⟨a, _, _, rfl, b1, b2, b3, fun q' h' => b4 q' (List.mem_cons_of_mem _ h')⟩
    have bt : BitF (2 ^ rs.length) fun q => t (thrP n rs q) := fun q _ => ht _ (thrP_ok hr q).1
    have fin : ∀ (e5 : Val) z7 z8 z9 z10, dSeq (dSet 6 (dUn oTuple (dVar 6))) (dSeq (dIfS (dTst (dBin oNe (dCall 2 sp_led_table (dCons (dVar 1) (dCons (dVar 4) dNil))) (dVar 6))) (dSeq (dRet (dC (.bool false))) dNext) dNext) (dSeq (dRet (dBin oEq (dCall 3 sp_led_spectrum (dCons (dVar 3) (dCons (dVar 2) (dCons (dVar 4) dNil)))) (dUn oTuple (dLc [8] (dSeqI (dCall 1 sp_law_near (dCons (dVar 6) dNil))) (tName 8) dYes (dBin oSub (dUn oLen (dVar 6)) (dBin oMul (dC (.int 2)) (dVar 8))))))) dNext)) (kRet Φ)
        [some .pot, some (.d (TI (tab (2 ^ n) t))), some (.d (TI (tab (2 ^ n) (spec n t)))), some (.d (.int n)), some (.d (T (rs.map TI))), some e5, some (.own ((tab (2 ^ rs.length) fun q => t (thrP n rs q)).map .int)), z7, z8, z9, z10, none, none] := fun e5 z7 z8 z9 z10 => by
      rw [dSeq]
      simp [-dSeq]
      rw [dSeq]
      simp [-dSeq]
      refine ⟨n, t, rs, rfl, by omega, by omega, hr, ?_⟩
      simp [-dSeq, ne_TI]
      rw [dSeq]
      simp [-dSeq]
      refine ⟨n, t, rs, rfl, by omega, by omega, hr, ?_⟩
      simp [-dSeq]
      refine ⟨rs.length, _, rfl, by omega, bt, ?_⟩
      simp [-dSeq]
      refine compW_ints (fun q => .int (spec rs.length (fun q => t (thrP n rs q)) q)) (by omega) (fun q hq N hN => ?_) ?_
      · have tl : (((tab (2 ^ rs.length) fun q => t (thrP n rs q)).length : Nat) : Int) = ((2 ^ rs.length : Nat) : Int) := by rw [tab_length]
        have ns := near_spec hq bt
        generalize ((2 ^ rs.length : Nat) : Int) = a at *
        simp [tl]
        rw [ns]
        exact ⟨cm_small (by omega), hN⟩
      · rw [ints_tab]
        simp [eq_TI]
        exact hΦ
    cases v with
    | own xs =>
      cases hv
      show dSeq _ _ _ _
      rw [dSeq]
      simp [-dSeq]
      exact loop _ _ rfl fun z7 z8 z9 z10 => fin _ z7 z8 z9 z10
    | d d => cases d with
      | list xs =>
        cases hv
        show dSeq _ _ _ _
        rw [dSeq]
        simp [-dSeq]
        exact loop _ _ rfl fun z7 z8 z9 z10 => fin _ z7 z8 z9 z10
      | _ => cases hv
    | _ => cases hv
end Ev
set_option Elab.async false
set_option linter.all false
set_option maxRecDepth 100000
/-! Ev17: reckoning with dicts. -/
namespace Ev
open PySem PySem.Spec PyProof.Rows L2

@[simp] theorem at0 {α : Type} {x : α} {xs : List α} : atI (x :: xs) 0 = some x := at_nat (i := 0) rfl
@[simp] theorem at1 {α : Type} {x y : α} {xs : List α} : atI (x :: y :: xs) 1 = some y := at_nat (i := 1) rfl
@[simp] theorem at2 {α : Type} {x y z : α} {xs : List α} : atI (x :: y :: z :: xs) 2 = some z := at_nat (i := 2) rfl
theorem dGet_put (l : List (PyData × PyData)) (k v j : PyData) : dGet (dPut l k v) j = (open Classical in if k = j then some v else dGet l j) := by
  induction l with
  | nil => by_cases h : k = j <;> simp [dPut, dGet, h]
  | cons p r ih =>
    obtain ⟨a, b⟩ := p
    by_cases h : a = k
    · subst h
      by_cases h2 : a = j <;> simp [dPut, dGet, h2]
    · by_cases h2 : a = j
      · subst h2
        have : k ≠ a := fun z => h z.symm
        simp [dPut, dGet, h, this]
      · simp [dPut, dGet, h, h2, ih]
theorem dPut_len (l : List (PyData × PyData)) (k v : PyData) : (dPut l k v).length ≤ l.length + 1 := by
  induction l with
  | nil => simp [dPut]
  | cons p r ih =>
    unfold dPut
    split
    · simp
    · simp; omega
theorem dcompW_map {α : Type} {dt : DT} {dk dv : DO} {vs : List Nat} {Φ : List (PyData × PyData) → Env → Prop} {env : Env} (f k g : α → PyData) :
    ∀ (l : List α) (acc : List (PyData × PyData)), acc.length + l.length ≤ 16777216 →
    (∀ x ∈ l, ∀ (N : PyData → PyData → Env → Prop), N (k x) (g x) env →
      dt (f x) env fun e1 => dk e1 fun r e3 => ∃ kx, r.get e3 = some (.d kx) ∧ (keyOf kx).isSome = true ∧ dv e3 fun r2 e4 => shR r2 e4 fun v e5 => ∃ d, v = .d d ∧ N kx d (wipeE e5 vs)) →
    Φ (l.foldl (fun a x => dPut a (k x) (g x)) acc) env → dcompW dt dYes dk dv vs (l.map f) env acc Φ
  | [], acc, _, _, h => by simpa [dcompW] using h
  | x :: xs, acc, hl, hs, h => by
    have hl' : acc.length + (xs.length + 1) ≤ 16777216 := by simpa using hl
    have := hs x (List.mem_cons_self ..) (fun kx d e => acc.length < 16777216 ∧ dcompW dt dYes dk dv vs (xs.map f) e (dPut acc kx d) Φ)
      ⟨by omega, dcompW_map f k g xs (dPut acc (k x) (g x)) (by have := dPut_len acc (k x) (g x); omega) (fun y hy => hs y (List.mem_cons_of_mem _ hy)) (by simpa using h)⟩
    show dt (f x) env fun e1 => dYes e1 fun b e2 => _
    simpa using this
theorem dGet_lot {v : PyData} (j : Nat) : ∀ (is : List Nat) (acc : List (PyData × PyData)), dGet (is.foldl (fun a (i : Nat) => dPut a (I i) v) acc) (I j) = if j ∈ is then some v else dGet acc (I j)
  | [], acc => by simp
  | i :: is, acc => by
    rw [List.foldl_cons, dGet_lot j is, dGet_put]
    by_cases h : j ∈ is
    · simp [h]
    · by_cases e : i = j
      · subst e; simp [h]
      · have e2 : ¬ (j = i) := fun z => e z.symm
        have e3 : ¬ ((i : Int) = j) := fun z => e (by omega)
        simp [h, e2, e3]
end Ev
set_option Elab.async false
set_option linter.all false
set_option maxRecDepth 100000
/-! M3: systems of equations, plain. -/
namespace Ev
open PySem PySem.Spec PyProof.Rows L2

abbrev EqS := Int × List Nat × List (Nat × Nat)
def eqV (e : EqS) (u : List Int) : Int := (e.1 + (e.2.1.map fun i => u.getD i 0).sum + (e.2.2.map fun q => u.getD q.1 0 * u.getD q.2 0).sum) % 2
structure EqOk (n : Nat) (e : EqS) : Prop where
  c : e.1 = 0 ∨ e.1 = 1
  s : ∀ i ∈ e.2.1, i < n
  sn : e.2.1.Nodup
  p : ∀ q ∈ e.2.2, q.1 < q.2 ∧ q.2 < n
  pn : e.2.2.Nodup
def SysOk (n : Nat) (es : List EqS) : Prop := ∀ e ∈ es, EqOk n e
theorem nodup_le {n : Nat} : ∀ {l : List Nat}, l.Nodup → (∀ i ∈ l, i < n) → l.length ≤ n := by
  induction n with
  | zero => intro l _ h; cases l with
    | nil => simp
    | cons a l => exact absurd (h a (List.mem_cons_self ..)) (by omega)
  | succ n ih =>
    intro l hn h
    have e : (l.erase n).length ≤ n := ih (hn.erase n) fun i hi => by
      have h1 := h i (List.mem_of_mem_erase hi)
      have h2 : i ≠ n := fun z => by subst z; exact (List.Nodup.mem_erase_iff hn).mp hi |>.1 rfl
      omega
    by_cases hm : n ∈ l
    · have := List.length_erase_of_mem hm; omega
    · rw [List.erase_of_not_mem hm] at e; omega
theorem EqOk.ls {n : Nat} {e : EqS} (h : EqOk n e) : e.2.1.length ≤ n := nodup_le h.sn h.s
/-- the place of a pair in a square -/
def pl (n : Nat) (q : Nat × Nat) : Nat := q.1 * n + q.2
theorem pl_lt {n : Nat} {q : Nat × Nat} (h1 : q.1 < n) (h2 : q.2 < n) : pl n q < n * n := by
  have : (q.1 + 1) * n ≤ n * n := Nat.mul_le_mul_right n h1
  unfold pl
  rw [Nat.add_mul] at this
  omega
theorem pl_inj {n : Nat} {q r : Nat × Nat} (h2 : q.2 < n) (h2' : r.2 < n) (h : pl n q = pl n r) : q = r := by
  unfold pl at h
  have np : 0 < n := by omega
  have a : (q.1 * n + q.2) / n = (r.1 * n + r.2) / n := by rw [h]
  rw [Nat.mul_comm, Nat.mul_add_div np, Nat.mul_comm, Nat.mul_add_div np, Nat.div_eq_of_lt h2, Nat.div_eq_of_lt h2'] at a
  have a : q.1 = r.1 := by simpa using a
  rw [a] at h
  exact Prod.ext a (by omega)
theorem pls_nodup {n : Nat} : ∀ {l : List (Nat × Nat)}, l.Nodup → (∀ q ∈ l, q.1 < q.2 ∧ q.2 < n) → (l.map (pl n)).Nodup
  | [], _, _ => by simp
  | q :: l, h, hq => by
    obtain ⟨h1, h2⟩ := List.nodup_cons.mp h
    refine List.nodup_cons.mpr ⟨fun z => ?_, pls_nodup h2 fun r hr => hq r (List.mem_cons_of_mem _ hr)⟩
    obtain ⟨r, hr, e⟩ := List.mem_map.mp z
    have a := hq r (List.mem_cons_of_mem _ hr)
    have b := hq q (List.mem_cons_self ..)
    have := pl_inj a.2 b.2 e
    subst this
    exact h1 hr
theorem EqOk.lp {n : Nat} {e : EqS} (h : EqOk n e) : e.2.2.length ≤ n * n := by
  have a := pls_nodup h.pn h.p
  have b : (e.2.2.map (pl n)).length ≤ n * n := nodup_le a fun i hi => by
    obtain ⟨q, hq, rfl⟩ := List.mem_map.mp hi
    have := h.p q hq
    exact pl_lt (by omega) this.2
  simpa using b
/-- the row of a lot -/
def ind (l : List Nat) (i : Nat) : Int := if i ∈ l then 1 else 0
theorem ind_bit (l : List Nat) (n : Nat) : BitF n (ind l) := fun i _ => by unfold ind; split <;> simp
def eqD (e : EqS) : PyData := T [I e.1, T (e.2.1.map fun (i : Nat) => I i), T (e.2.2.map fun q => T [I q.1, I q.2])]
def sysD (n : Nat) (es : List EqS) : PyData := T [I n, T (es.map eqD)]
theorem lay_eqD (e : EqS) : Lay 3 (eqD e) := lay_t fun x hx => by
  simp at hx
  rcases hx with rfl | rfl | rfl
  · exact (lay_i _).mono (by decide)
  · exact (lay_t (m := 0) fun x hx => by obtain ⟨i, _, rfl⟩ := List.mem_map.mp hx; exact lay_i _).mono (by decide)
  · refine lay_t fun x hx => ?_
    obtain ⟨q, _, rfl⟩ := List.mem_map.mp hx
    exact lay_t fun x hx => by simp at hx; rcases hx with rfl | rfl <;> exact lay_i _
theorem lay_sysD (n : Nat) (es : List EqS) : Lay 5 (sysD n es) := lay_t fun x hx => by
  simp at hx
  rcases hx with rfl | rfl
  · exact (lay_i _).mono (by decide)
  · exact lay_t fun x hx => by obtain ⟨e, _, rfl⟩ := List.mem_map.mp hx; exact lay_eqD e
theorem eqV_bit (e : EqS) (u : List Int) : eqV e u = 0 ∨ eqV e u = 1 := by unfold eqV; omega
/-- the sum of some equations: constant, row of letters, row of pairs -/
abbrev Sum3 := Int × (Nat → Int) × (Nat → Int)
def sumEq (n : Nat) : List (Int × EqS) → Sum3 → Sum3
  | [], a => a
  | (b, e) :: r, a => sumEq n r (if b = 1 then ((a.1 + e.1) % 2, (fun i => (a.2.1 i + ind e.2.1 i) % 2), fun k => (a.2.2 k + ind (e.2.2.map (pl n)) k) % 2) else a)
def eqsSum (n : Nat) (es : List EqS) (r : List Int) : Sum3 := sumEq n (r.zip es) (0, (fun _ => 0), fun _ => 0)
def Bit3 (a : Sum3) : Prop := (a.1 = 0 ∨ a.1 = 1) ∧ (∀ i, a.2.1 i = 0 ∨ a.2.1 i = 1) ∧ ∀ i, a.2.2 i = 0 ∨ a.2.2 i = 1
theorem sumEq_bit (n : Nat) : ∀ (qs : List (Int × EqS)) (a : Sum3), Bit3 a → Bit3 (sumEq n qs a)
  | [], a, h => h
  | (b, e) :: r, a, h => by
    refine sumEq_bit n r _ ?_
    split
    · exact ⟨by simp only; omega, fun i => by simp only; omega, fun i => by simp only; omega⟩
    · exact h
theorem eqsSum_bit (n : Nat) (es : List EqS) (r : List Int) : Bit3 (eqsSum n es r) := sumEq_bit n _ _ ⟨.inl rfl, fun _ => .inl rfl, fun _ => .inl rfl⟩
def sum3D (n : Nat) (a : Sum3) : PyData := T [I a.1, TI (tab n a.2.1), TI (tab (n * n) a.2.2)]
/-- the place of a row that is told by a function -/
def pfun (n : Nat) (f : Nat → Int) : Nat := (placeF 0 (tab n f)).toNat
theorem bits_tab' {n : Nat} {t : Nat → Int} (h : BitF n t) : Bits (tab n t) := fun b hb => by
  simp only [tab, List.mem_map, List.mem_range] at hb
  obtain ⟨i, hi, rfl⟩ := hb
  exact h i hi
theorem pfun_ok {n : Nat} {f : Nat → Int} (h : BitF n f) : pfun n f < 2 ^ n ∧ tab n f = rowN n (pfun n f) ∧ placeF 0 (tab n f) = pfun n f := by
  obtain ⟨p, hp, e⟩ := bits_rowN (bits_tab' h)
  rw [tab_length] at hp e
  have := place_rowN n p hp
  unfold pfun
  rw [e, this]
  exact ⟨hp, rfl, rfl⟩
theorem addR_tab (n : Nat) (f g : Nat → Int) : addR (tab n f) (tab n g) = tab n fun i => (f i + g i) % 2 := by
  unfold addR
  rw [tab_zip]
end Ev
set_option Elab.async false
set_option linter.all false
set_option maxRecDepth 100000
/-! V18: lots, values of equations. -/
namespace Ev
open PySem PySem.Spec PyProof.Rows L2

def sp_lot_row : FSpec := fun args Φ => ∃ (n : Nat) (x : PyData) (is : List Nat), args = [.d (.int n), .d x] ∧ seqD x = some (is.map fun (i : Nat) => I i) ∧ n ≤ 1000 ∧ is.length ≤ 1000 ∧ Φ (.d (TI (tab n (ind is))))
def D_lot_row : DS := (dSeq (dSet 2 (dDc [3] (dSeqI (dVar 1)) (tName 3) dYes (dVar 3) (dC (.int 1)))) (dSeq (dRet (dUn oTuple (dLc [3] (dRng1 (dCons (dVar 0) dNil)) (tName 3) dYes (dGet2 2 (dVar 3) (dC (.int 0)))))) dNext))
theorem v_lot_row (args : List Val) (Φ : Val → Prop) (h : sp_lot_row args Φ) : D_lot_row (kRet Φ) (envS ["n", "lot", "known", "place"] args) := by
  obtain ⟨n, x, is, rfl, hx, hn, hl, hΦ⟩ := h
  simp [-seqD, D_lot_row, envS, hx]
  refine dcompW_map (fun i : Nat => I i) (fun i => I i) (fun _ => I 1) is [] (by simp; omega) (fun i hi N hN => ?_) ?_
  · simp [keyOf]; exact hN
  · simp
    refine ⟨by omega, ?_⟩
    refine compW_tab (fun i : Nat => I i) (fun i => I (ind is i)) (by omega) (fun i hi M hM => ?_) ?_
    · simp [keyFit, keyOf]
      rw [dGet_lot]
      unfold ind at hM
      by_cases hm : i ∈ is
      · simp [hm] at hM ⊢; exact hM
      · simp [hm, dGet] at hM ⊢; exact hM
    · rw [ints_tab]
      exact hΦ
theorem seq_pairs (qs : List (Nat × Nat)) : seqD (T (qs.map fun q => T [I q.1, I q.2])) = some (qs.map fun q => T [I q.1, I q.2]) := rfl
theorem seq_nats (is : List Nat) : seqD (T (is.map fun (i : Nat) => I i)) = some (is.map fun (i : Nat) => I i) := rfl
theorem at_int {u : List Int} {i : Nat} (h : i < u.length) : atI (u.map PyData.int) (i : Int) = some (.int (u.getD i 0)) := by
  refine at_nat ?_
  rw [List.getElem?_map, List.getElem?_eq_getElem h]
  simp [List.getD, List.getElem?_eq_getElem h]
theorem getD_bit {u : List Int} (h : Bits u) (i : Nat) : u.getD i 0 = 0 ∨ u.getD i 0 = 1 := by
  simp only [List.getD]
  cases q : u[i]? with
  | none => exact .inl rfl
  | some x => exact h x (List.mem_of_getElem? q)
theorem sum_ofl {l : List Int} {Φ : Val → Prop} (h : Φ (.d (.int l.sum))) : oSum (.own (l.map .int)) Φ := ⟨l, rfl, h⟩
/-- the two comprehensions over an equation's letters and pairs -/
theorem comp_letters {n : Nat} {e : EqS} {u : List Int} (he : EqOk n e) (hu : u.length = n) (hn : n ≤ 1000) {Φ : List PyData → Env → Prop} {env : Env} {dt : DT} {de : DO} {vs : List Nat}
    (hs : ∀ i, i < u.length → ∀ (M : PyData → Env → Prop), M (I (u.getD i 0)) env → dt (I (i : Int)) env fun e1 => de e1 fun r e3 => shR r e3 fun v e4 => ∃ d, v = .d d ∧ M d (wipeE e4 vs))
    (h : Φ ((e.2.1.map fun i => u.getD i 0).map .int) env) : compW dt dYes de vs (e.2.1.map fun (i : Nat) => I i) env [] Φ := by
  have hl := he.ls
  refine compW_all (fun (i : Nat) => I i) (fun i => I (u.getD i 0)) e.2.1 (by omega) (fun i hi M hM => hs i (by rw [hu]; exact he.s i hi) M hM) ?_
  rw [List.map_map] at h
  exact h
theorem comp_pairs {n : Nat} {e : EqS} {u : List Int} (he : EqOk n e) (hu : u.length = n) (hn : n ≤ 1000) {Φ : List PyData → Env → Prop} {env : Env} {dt : DT} {de : DO} {vs : List Nat} (g : Nat × Nat → Int)
    (hs : ∀ q : Nat × Nat, q.1 < u.length → q.2 < u.length → ∀ (M : PyData → Env → Prop), M (I (g q)) env → dt (T [I q.1, I q.2]) env fun e1 => de e1 fun r e3 => shR r e3 fun v e4 => ∃ d, v = .d d ∧ M d (wipeE e4 vs))
    (h : Φ ((e.2.2.map g).map .int) env) : compW dt dYes de vs (e.2.2.map fun q => T [I q.1, I q.2]) env [] Φ := by
  have hl := he.lp
  have : n * n ≤ 1000 * 1000 := Nat.mul_le_mul hn hn
  refine compW_all (fun q : Nat × Nat => T [I q.1, I q.2]) (fun q => I (g q)) e.2.2 (by omega) (fun q hq M hM => ?_) ?_
  · have := he.p q hq
    exact hs q (by omega) (by omega) M hM
  · rw [List.map_map] at h
    exact h
def sp_equation_value : FSpec := fun args Φ => ∃ (n : Nat) (e : EqS) (u : List Int), args = [.d (eqD e), .d (TI u)] ∧ EqOk n e ∧ u.length = n ∧ n ≤ 1000 ∧ Bits u ∧ Φ (.d (.int (eqV e u)))
def D_equation_value : DS := (dSeq (dAsg (tTup 3 (tCons (tName 2) (tCons (tName 3) (tCons (tName 4) tNil)))) (dVar 0)) (dSeq (dRet (dBin oMod (dBin oAdd (dBin oAdd (dVar 2) (dUn oSum (dLc [5] (dSeqI (dVar 3)) (tName 5) dYes (dBin oIxS (dVar 1) (dVar 5))))) (dUn oSum (dLc [5, 6] (dSeqI (dVar 4)) (tTup 2 (tCons (tName 5) (tCons (tName 6) tNil))) dYes (dBin oMul (dBin oIxS (dVar 1) (dVar 5)) (dBin oIxS (dVar 1) (dVar 6)))))) (dC (.int 2)))) dNext))
theorem v_equation_value (args : List Val) (Φ : Val → Prop) (h : sp_equation_value args Φ) : D_equation_value (kRet Φ) (envS ["equation", "u", "constant", "singles", "pairs", "i", "j"] args) := by
  obtain ⟨n, e, u, rfl, he, hu, hn, hb, hΦ⟩ := h
  simp [D_equation_value, envS, eqD, and_assoc]
  refine comp_letters he hu hn (fun i hi M hM => ?_) ?_
  · simp [and_assoc, at_int hi]
    exact hM
  · simp [-List.map_map]
    refine sum_ofl ?_
    simp [-List.map_map, and_assoc]
    refine comp_pairs he hu hn (fun q => u.getD q.1 0 * u.getD q.2 0) (fun q h1 h2 M hM => ?_) ?_
    · simp [and_assoc, at_int h1, at_int h2]
      refine ⟨cm_small ?_, hM⟩
      rcases getD_bit hb q.1 with h | h <;> simp only [List.getD_eq_getElem?_getD] at h <;> rw [h] <;> omega
    · simp [-List.map_map]
      refine sum_ofl ?_
      simp
      exact hΦ
def sp_law_value : FSpec := sp_equation_value
def D_law_value : DS := (dSeq (dAsg (tTup 3 (tCons (tName 2) (tCons (tName 3) (tCons (tName 4) tNil)))) (dVar 0)) (dSeq (dRet (dBin oAnd (dBin oAdd (dBin oAdd (dVar 2) (dUn oSum (dLc [5] (dSeqI (dVar 3)) (tName 5) dYes (dBin oIxS (dVar 1) (dVar 5))))) (dUn oSum (dLc [5, 6] (dSeqI (dVar 4)) (tTup 2 (tCons (tName 5) (tCons (tName 6) tNil))) dYes (dBin oMul (dBin oIxS (dVar 1) (dVar 5)) (dBin oIxS (dVar 1) (dVar 6)))))) (dC (.int 1)))) dNext))
theorem v_law_value (args : List Val) (Φ : Val → Prop) (h : sp_law_value args Φ) : D_law_value (kRet Φ) (envS ["equation", "u", "constant", "singles", "pairs", "i", "j"] args) := by
  obtain ⟨n, e, u, rfl, he, hu, hn, hb, hΦ⟩ := h
  simp [D_law_value, envS, eqD, and_assoc]
  refine comp_letters he hu hn (fun i hi M hM => ?_) ?_
  · simp [and_assoc, at_int hi]
    exact hM
  · simp [-List.map_map]
    refine sum_ofl ?_
    simp [-List.map_map, and_assoc]
    refine comp_pairs he hu hn (fun q => u.getD q.1 0 * u.getD q.2 0) (fun q h1 h2 M hM => ?_) ?_
    · simp [and_assoc, at_int h1, at_int h2]
      refine ⟨cm_small ?_, hM⟩
      rcases getD_bit hb q.1 with h | h <;> simp only [List.getD_eq_getElem?_getD] at h <;> rw [h] <;> omega
    · simp [-List.map_map]
      refine sum_ofl ?_
      simp [and_one]
      exact hΦ
def sp_values_row : FSpec := fun args Φ => ∃ (n : Nat) (es : List EqS) (u : List Int), args = [.d (sysD n es), .d (TI u)] ∧ SysOk n es ∧ es.length ≤ 1000 ∧ u.length = n ∧ n ≤ 1000 ∧ Bits u ∧ Φ (.d (TI (es.map fun e => eqV e u)))
def D_values_row : DS := (dSeq (dRet (dUn oTuple (dLc [2] (dSeqI (dBin oIxS (dVar 0) (dC (.int 1)))) (tName 2) dYes (dCall 2 sp_equation_value (dCons (dVar 2) (dCons (dVar 1) dNil)))))) dNext)
theorem v_values_row (args : List Val) (Φ : Val → Prop) (h : sp_values_row args Φ) : D_values_row (kRet Φ) (envS ["system", "u", "equation"] args) := by
  obtain ⟨n, es, u, rfl, he, hl, hu, hn, hb, hΦ⟩ := h
  simp [D_values_row, envS, sysD, and_assoc]
  refine compW_all eqD (fun e => I (eqV e u)) es (by omega) (fun e h1 M hM => ?_) ?_
  · simp
    exact ⟨n, e, u, rfl, he e h1, hu, hn, hb, by simpa using hM⟩
  · simp only [TI, List.map_map] at hΦ
    exact hΦ
end Ev
set_option Elab.async false
set_option linter.all false
set_option maxRecDepth 100000
/-! V19: equations told, added. -/
namespace Ev
open PySem PySem.Spec PyProof.Rows L2

def toldD (n : Nat) (e : EqS) : PyData := T [I e.1, TI (tab n (ind e.2.1)), TI (tab (n * n) (ind (e.2.2.map (pl n))))]
def sp_equation_told : FSpec := fun args Φ => ∃ (n : Nat) (e : EqS), args = [.d (.int n), .d (eqD e)] ∧ EqOk n e ∧ n ≤ 20 ∧ Φ (.d (toldD n e))
def D_equation_told : DS := (dSeq (dAsg (tTup 3 (tCons (tName 2) (tCons (tName 3) (tCons (tName 4) tNil)))) (dVar 1)) (dSeq (dRet (dTup (dCons (dVar 2) (dCons (dCall 2 sp_lot_row (dCons (dVar 0) (dCons (dVar 3) dNil))) (dCons (dCall 2 sp_lot_row (dCons (dBin oMul (dVar 0) (dVar 0)) (dCons (dLc [5, 6] (dSeqI (dVar 4)) (tTup 2 (tCons (tName 5) (tCons (tName 6) tNil))) dYes (dBin oAdd (dBin oMul (dVar 5) (dVar 0)) (dVar 6))) dNil))) dNil))))) dNext))
theorem v_equation_told (args : List Val) (Φ : Val → Prop) (h : sp_equation_told args Φ) : D_equation_told (kRet Φ) (envS ["n", "equation", "constant", "singles", "pairs", "i", "j"] args) := by
  obtain ⟨n, e, rfl, he, hn, hΦ⟩ := h
  have l1 := he.ls
  have l2 := he.lp
  have nn : n * n ≤ 20 * 20 := Nat.mul_le_mul hn hn
  simp [D_equation_told, envS, eqD, and_assoc]
  refine ⟨n, _, e.2.1, rfl, seq_nats _, by omega, by omega, ?_⟩
  try simp [and_assoc]
  refine ⟨cm_small (by omega), ?_⟩
  refine compW_all (fun q : Nat × Nat => T [I q.1, I q.2]) (fun q => I (pl n q : Nat)) e.2.2 (by omega) (fun q hq M hM => ?_) ?_
  · have := he.p q hq
    try simp [and_assoc]
    refine ⟨cm_small (by omega), ?_⟩
    simpa [pl] using hM
  · have : (n : Int) * n = ((n * n : Nat) : Int) := by push_cast; rfl
    rw [this]
    refine ⟨n * n, _, e.2.2.map (pl n), rfl, ?_, by omega, by simp; omega, ?_⟩
    · simp [List.map_map, Function.comp_def]
    · simpa [toldD] using hΦ
theorem zip_re : ∀ (r : List Int) (es : List EqS), zipD (r.map .int) (es.map eqD) = (r.zip es).map fun q => T [I q.1, eqD q.2] := by
  intro r es
  unfold zipD
  rw [List.zip_map, List.map_map]; rfl
theorem zerosT (n : Nat) : (List.replicate n (PyData.int 0)) = (tab n fun _ => 0).map .int := by
  unfold tab
  rw [List.map_map]
  apply List.ext_getElem <;> simp
def sp_equations_sum : FSpec := fun args Φ => ∃ (n : Nat) (es : List EqS) (r : List Int), args = [.d (sysD n es), .d (TI r)] ∧ SysOk n es ∧ es.length ≤ 1000 ∧ n ≤ 20 ∧ Φ (.d (sum3D n (eqsSum n es r)))
def D_equations_sum : DS := (dSeq (dPar2 2 3 (dBin oIxS (dVar 0) (dC (.int 0))) (dTup (dCons (dC (.int 0)) (dCons (dBin oMul (dTup (dCons (dC (.int 0)) dNil)) (dBin oIxS (dVar 0) (dC (.int 0)))) (dCons (dBin oMul (dTup (dCons (dC (.int 0)) dNil)) (dBin oMul (dBin oIxS (dVar 0) (dC (.int 0))) (dBin oIxS (dVar 0) (dC (.int 0))))) dNil))))) (dSeq (dFor (dZip (dCons (dVar 1) (dCons (dBin oIxS (dVar 0) (dC (.int 1))) dNil))) (tTup 2 (tCons (tName 4) (tCons (tName 5) tNil))) (dSeq (dIfS (dTst (dBin oEq (dVar 4) (dC (.int 1)))) (dSeq (dSet 6 (dCall 2 sp_equation_told (dCons (dVar 2) (dCons (dVar 5) dNil)))) (dSeq (dSet 3 (dTup (dCons (dBin oMod (dBin oAdd (dBin oIxS (dVar 3) (dC (.int 0))) (dBin oIxS (dVar 6) (dC (.int 0)))) (dC (.int 2))) (dCons (dCall 2 sp_rows_added (dCons (dBin oIxS (dVar 3) (dC (.int 1))) (dCons (dBin oIxS (dVar 6) (dC (.int 1))) dNil))) (dCons (dCall 2 sp_rows_added (dCons (dBin oIxS (dVar 3) (dC (.int 2))) (dCons (dBin oIxS (dVar 6) (dC (.int 2))) dNil))) dNil))))) dNext)) dNext) dNext)) (dSeq (dRet (dVar 3)) dNext)))
theorem v_equations_sum (args : List Val) (Φ : Val → Prop) (h : sp_equations_sum args Φ) : D_equations_sum (kRet Φ) (envS ["system", "r", "n", "found", "bit", "equation", "told"] args) := by
  obtain ⟨n, es, r, rfl, he, hl, hn, hΦ⟩ := h
  have nn : n * n ≤ 20 * 20 := Nat.mul_le_mul hn hn
  have cc : (n : Int) * n = ((n * n : Nat) : Int) := by push_cast; rfl
  simp [D_equations_sum, envS, sysD, and_assoc]
  refine mul_one (by omega) ?_
  try simp [and_assoc]
  refine ⟨cm_small (by omega), ?_⟩
  rw [cc]
  refine mul_one (by omega) ?_
  try simp [and_assoc]
  rw [zip_re]
  refine forW_map (fun q : Int × EqS => T [I q.1, eqD q.2]) (fun rest env => ∃ (a : Sum3) (z4 z5 z6 : Option Val), env = [some (.d (sysD n es)), some (.d (TI r)), some (.d (.int n)), some (.d (sum3D n a)), z4, z5, z6] ∧ sumEq n rest a = eqsSum n es r ∧ ∀ q ∈ rest, q.2 ∈ es) ?_ ?_ (r.zip es) _ ⟨(0, (fun _ => 0), fun _ => 0), none, none, none, ?_, rfl, fun q hq => (List.of_mem_zip hq).2⟩
  · rintro env ⟨a, z4, z5, z6, rfl, h1, _⟩
    have h1 : a = eqsSum n es r := h1
    simp [h1]
    exact hΦ
  · rintro ⟨b, e⟩ rest env ⟨a, z4, z5, z6, rfl, h1, h2⟩ N hN
    have ho := he e (h2 (b, e) (List.mem_cons_self ..))
    have h3 : ∀ q ∈ rest, q.2 ∈ es := fun q hq => h2 q (List.mem_cons_of_mem _ hq)
    simp [and_assoc, oEq_int]
    by_cases hb : b = 1
    · subst hb
      try simp
      refine ⟨n, e, rfl, ho, hn, ?_⟩
      simp [and_assoc, sum3D, toldD]
      refine ⟨_, _, rfl, by rw [tab_length]; omega, ?_⟩
      try simp [and_assoc]
      refine ⟨_, _, rfl, by rw [tab_length]; omega, ?_⟩
      simp [addR_tab]
      refine hN _ ⟨((a.1 + e.1) % 2, (fun i => (a.2.1 i + ind e.2.1 i) % 2), fun k => (a.2.2 k + ind (e.2.2.map (pl n)) k) % 2), _, _, _, rfl, ?_, h3⟩
      rw [← h1]
      simp [sumEq]
    · simp [hb]
      refine hN _ ⟨a, _, _, _, rfl, ?_, h3⟩
      rw [← h1]
      simp [sumEq, hb]
  · simp [sysD, sum3D, zerosT]
end Ev
set_option Elab.async false
set_option linter.all false
set_option maxRecDepth 100000
/-! V20: the law's own sum of equations; counts of pairs of rows. -/
namespace Ev
open PySem PySem.Spec PyProof.Rows L2

def togs : List Nat → (Nat → Int) → (Nat → Int)
  | [], f => f
  | i :: r, f => togs r fun j => if j = i then (f j + 1) % 2 else f j
theorem togs_ind : ∀ (l : List Nat) (f : Nat → Int), l.Nodup → (∀ j, f j = 0 ∨ f j = 1) → togs l f = fun j => (f j + ind l j) % 2
  | [], f, _, hf => by
    funext j
    have := hf j
    simp [togs, ind]
    omega
  | i :: r, f, hn, hf => by
    obtain ⟨h1, h2⟩ := List.nodup_cons.mp hn
    rw [togs, togs_ind r _ h2 fun j => by have := hf j; split <;> omega]
    funext j
    have := hf j
    unfold ind
    by_cases e : j = i
    · subst e
      simp [h1]
    · simp [e]
theorem togs_bit : ∀ (l : List Nat) (f : Nat → Int), (∀ j, f j = 0 ∨ f j = 1) → ∀ j, togs l f j = 0 ∨ togs l f j = 1
  | [], f, h, j => h j
  | i :: r, f, h, j => togs_bit r _ (fun j => by have := h j; split <;> omega) j
theorem tog_set {n i : Nat} {f : Nat → Int} (x : Int) (hx : x = (f i + 1) % 2) : ((tab n f).map PyData.int).set i (.int x) = (tab n fun j => if j = i then (f j + 1) % 2 else f j).map .int := by
  rw [← List.map_set, tab_set]
  congr 1
  refine tab_congr fun j _ => ?_
  by_cases e : j = i
  · subst e; simp [hx]
  · simp [e]
def sp_law_sum : FSpec := sp_equations_sum
def D_law_sum : DS := (dSeq (dPar2 2 3 (dBin oIxS (dVar 0) (dC (.int 0))) (dC (.int 0))) (dSeq (dPar2 4 5 (dBin oMul (dLst (dCons (dC (.int 0)) dNil)) (dVar 2)) (dBin oMul (dLst (dCons (dC (.int 0)) dNil)) (dBin oMul (dVar 2) (dVar 2)))) (dSeq (dFor (dZip (dCons (dVar 1) (dCons (dBin oIxS (dVar 0) (dC (.int 1))) dNil))) (tTup 2 (tCons (tName 6) (tCons (tTup 3 (tCons (tName 7) (tCons (tName 8) (tCons (tName 9) tNil)))) tNil))) (dSeq (dIfS (dTst (dBin oEq (dVar 6) (dC (.int 1)))) (dSeq (dSet 3 (dBin oXor (dVar 3) (dVar 7))) (dSeq (dFor (dSeqI (dVar 8)) (tName 10) (dSeq (dAsg (tSub 4 (dVar 10)) (dBin oXor (dBin oIxS (dVar 4) (dVar 10)) (dC (.int 1)))) dNext)) (dSeq (dFor (dSeqI (dVar 9)) (tTup 2 (tCons (tName 10) (tCons (tName 11) tNil))) (dSeq (dAsg (tSub 5 (dBin oAdd (dBin oMul (dVar 10) (dVar 2)) (dVar 11))) (dBin oXor (dBin oIxS (dVar 5) (dBin oAdd (dBin oMul (dVar 10) (dVar 2)) (dVar 11))) (dC (.int 1)))) dNext)) dNext))) dNext) dNext)) (dSeq (dRet (dTup (dCons (dVar 3) (dCons (dUn oTuple (dVar 4)) (dCons (dUn oTuple (dVar 5)) dNil))))) dNext))))
theorem v_law_sum (args : List Val) (Φ : Val → Prop) (h : sp_law_sum args Φ) : D_law_sum (kRet Φ) (envS ["system", "r", "n", "c", "s", "laid", "bit", "constant", "singles", "pairs", "i", "j"] args) := by
  obtain ⟨n, es, r, rfl, he, hl, hn, hΦ⟩ := h
  have nn : n * n ≤ 20 * 20 := Nat.mul_le_mul hn hn
  have cc : (n : Int) * n = ((n * n : Nat) : Int) := by push_cast; rfl
  simp [D_law_sum, envS, sysD, and_assoc]
  refine mul_oneL (by omega) ?_
  try simp [and_assoc]
  refine ⟨cm_small (by omega), ?_⟩
  rw [cc]
  refine mul_oneL (by omega) ?_
  try simp [and_assoc]
  rw [zip_re]
  refine forW_map (fun q : Int × EqS => T [I q.1, eqD q.2]) (fun rest env => ∃ (a : Sum3) (z6 z7 z8 z9 z10 z11 : Option Val), env = [some (.d (sysD n es)), some (.d (TI r)), some (.d (.int n)), some (.d (.int a.1)), some (.own ((tab n a.2.1).map .int)), some (.own ((tab (n * n) a.2.2).map .int)), z6, z7, z8, z9, z10, z11] ∧ Bit3 a ∧ sumEq n rest a = eqsSum n es r ∧ ∀ q ∈ rest, q.2 ∈ es) ?_ ?_ (r.zip es) _ ⟨(0, (fun _ => 0), fun _ => 0), none, none, none, none, none, none, ?_, ⟨.inl rfl, fun _ => .inl rfl, fun _ => .inl rfl⟩, rfl, fun q hq => (List.of_mem_zip hq).2⟩
  · rintro env ⟨a, z6, z7, z8, z9, z10, z11, rfl, _, h1, _⟩
    have h1 : a = eqsSum n es r := h1
    simp [h1]
    exact hΦ
  · rintro ⟨b, e⟩ rest env ⟨a, z6, z7, z8, z9, z10, z11, rfl, hb3, h1, h2⟩ N hN
    have ho := he e (h2 (b, e) (List.mem_cons_self ..))
    have h3 : ∀ q ∈ rest, q.2 ∈ es := fun q hq => h2 q (List.mem_cons_of_mem _ hq)
    simp [-dSeq, and_assoc, eqD]
    rw [dSeq]
    simp [-dSeq, oEq_int]
    by_cases hb : b = 1
    · subst hb
      try simp [-dSeq]
      rw [dSeq]
      try simp [-dSeq]
      rw [xor_bit hb3.1 ho.c]
      rw [dSeq]
      try simp [-dSeq]
      refine forW_map (fun i : Nat => I i) (fun rest2 env => ∃ (f : Nat → Int) (z10 : Option Val), env = [some (.d (sysD n es)), some (.d (TI r)), some (.d (.int n)), some (.d (.int ((a.1 + e.1) % 2))), some (.own ((tab n f).map .int)), some (.own ((tab (n * n) a.2.2).map .int)), some (.d (I 1)), some (.d (I e.1)), some (.d (T (e.2.1.map fun (i : Nat) => I i))), some (.d (T (e.2.2.map fun q => T [I q.1, I q.2]))), z10, z11] ∧ (∀ j, f j = 0 ∨ f j = 1) ∧ togs rest2 f = togs e.2.1 a.2.1 ∧ ∀ i ∈ rest2, i < n) ?_ ?_ e.2.1 _ ⟨a.2.1, z10, rfl, hb3.2.1, rfl, ho.s⟩
      · rintro env ⟨f, z10, rfl, hf, h4, _⟩
        have h4 : f = togs e.2.1 a.2.1 := h4
        rw [togs_ind _ _ ho.sn hb3.2.1] at h4
        subst h4
        show dSeq _ _ _ _
        rw [dSeq]
        try simp [-dSeq]
        rw [dSeq]
        try simp [-dSeq]
        refine forW_map (fun q : Nat × Nat => T [I q.1, I q.2]) (fun rest2 env => ∃ (f : Nat → Int) (z10 z11 : Option Val), env = [some (.d (sysD n es)), some (.d (TI r)), some (.d (.int n)), some (.d (.int ((a.1 + e.1) % 2))), some (.own ((tab n fun i => (a.2.1 i + ind e.2.1 i) % 2).map .int)), some (.own ((tab (n * n) f).map .int)), some (.d (I 1)), some (.d (I e.1)), some (.d (T (e.2.1.map fun (i : Nat) => I i))), some (.d (T (e.2.2.map fun q => T [I q.1, I q.2]))), z10, z11] ∧ (∀ j, f j = 0 ∨ f j = 1) ∧ togs (rest2.map (pl n)) f = togs (e.2.2.map (pl n)) a.2.2 ∧ ∀ q ∈ rest2, q.1 < q.2 ∧ q.2 < n) ?_ ?_ e.2.2 _ ⟨a.2.2, z10, z11, rfl, hb3.2.2, rfl, ho.p⟩
        · rintro env ⟨f, z10, z11, rfl, hf, h4, _⟩
          have h4 : f = togs (e.2.2.map (pl n)) a.2.2 := h4
          rw [togs_ind _ _ (pls_nodup ho.pn ho.p) hb3.2.2] at h4
          subst h4
          try simp
          refine hN _ ⟨((a.1 + e.1) % 2, (fun i => (a.2.1 i + ind e.2.1 i) % 2), fun k => (a.2.2 k + ind (e.2.2.map (pl n)) k) % 2), _, _, _, _, _, _, rfl, ⟨by simp only; omega, fun i => by simp only; omega, fun i => by simp only; omega⟩, ?_, h3⟩
          rw [← h1]
          simp [sumEq]
        · rintro q rest2 env ⟨f, z10, z11, rfl, hf, h4, h5⟩ M hM
          have hq := h5 q (List.mem_cons_self ..)
          have lt := pl_lt (n := n) (q := q) (by omega) hq.2
          have ep : (q.1 : Int) * n + q.2 = ((pl n q : Nat) : Int) := by unfold pl; push_cast; rfl
          have c1 : CM (q.1 : Int) (n : Int) := cm_small (by omega)
          simp [and_assoc, ep, c1, stepped_get lt, tab_length, ix_nat lt]
          rw [tog_set _ (xor_bit (hf (pl n q)) (.inr rfl))]
          refine hM _ ⟨_, _, _, rfl, ?_, h4, fun r hr => h5 r (List.mem_cons_of_mem _ hr)⟩
          · intro j
            have := hf j
            split <;> omega
      · rintro i rest2 env ⟨f, z10, rfl, hf, h4, h5⟩ M hM
        have lt := h5 i (List.mem_cons_self ..)
        simp [and_assoc, stepped_get lt, tab_length, ix_nat lt]
        rw [tog_set _ (xor_bit (hf i) (.inr rfl))]
        refine hM _ ⟨_, _, rfl, ?_, h4, fun r hr => h5 r (List.mem_cons_of_mem _ hr)⟩
        · intro j
          have := hf j
          split <;> omega
    · simp [-dSeq, hb]
      refine hN _ ⟨a, _, _, _, _, _, _, rfl, hb3, ?_, h3⟩
      rw [← h1]
      simp [sumEq, hb]
  · simp [sysD, zerosT]
end Ev
set_option Elab.async false
set_option linter.all false
set_option maxRecDepth 100000
/-! V21: counts of what passes. -/
namespace Ev
open PySem PySem.Spec PyProof.Rows L2

/-! ### plain -/
theorem sumN_bound {c : Int} {f : Nat → Int} : ∀ {n : Nat}, (∀ i, i < n → -c ≤ f i ∧ f i ≤ c) → -(n * c) ≤ sumN n f ∧ sumN n f ≤ n * c
  | 0, _ => by simp [sumN]
  | n + 1, h => by
    have a := sumN_bound (n := n) fun i hi => h i (by omega)
    have b := h n (by omega)
    simp only [sumN]
    have : ((n + 1 : Nat) : Int) * c = n * c + c := by push_cast; rw [Int.add_mul, Int.one_mul]
    rw [this]
    omega
theorem xor_lt {n x d : Nat} (hx : x < 2 ^ n) (hd : d < 2 ^ n) : x ^^^ d < 2 ^ n := Nat.xor_lt_two_pow hx hd
theorem shifts_bound {n d : Nat} {t : Nat → Int} (ht : BitF (2 ^ n) t) (hd : d < 2 ^ n) : -((2 ^ n : Nat) : Int) ≤ shifts n t d ∧ shifts n t d ≤ ((2 ^ n : Nat) : Int) := by
  have := sumN_bound (n := 2 ^ n) (c := 1) (f := fun x => sg t x * sg t (x ^^^ d)) fun i hi => by
    have a := ht i hi
    have b := ht (i ^^^ d) (xor_lt hi hd)
    simp only [sg]
    rcases a with a | a <;> rcases b with b | b <;> rw [a, b] <;> decide
  simpa [shifts, conv] using this
theorem sumN_swap (f : Nat → Nat → Int) : ∀ n m, (sumN n fun i => sumN m fun j => f i j) = sumN m fun j => sumN n fun i => f i j
  | 0, m => by
    show (0 : Int) = sumN m fun _ => 0
    rw [sumN_const]; simp
  | n + 1, m => by
    simp only [sumN]
    rw [sumN_swap f n m, ← sumN_plus]
/-- the scalar product of two spectra -/
theorem hat_dot (n : Nat) (f g : Nat → Int) : (sumN (2 ^ n) fun s => hat n f s * hat n g s) = 2 ^ n * sumN (2 ^ n) fun x => f x * g x := by
  have h := hat_conv n f g 0 (Nat.two_pow_pos n)
  have e0 : hat n (fun s => hat n f s * hat n g s) 0 = sumN (2 ^ n) fun s => hat n f s * hat n g s := by
    rw [← hat_sum n 0 _ (Nat.two_pow_pos n)]
    refine sumN_congr fun x hx => ?_
    have : par n 0 x = 0 := by
      unfold par
      have : rowN n 0 = List.replicate n 0 := by
        rw [rowN_tab]; simp [List.map_const']
      rw [this, prodR_zero]
    rw [this]; omega
  rw [← e0, h]
  congr 1
  exact sumN_congr fun x _ => by rw [Nat.xor_zero]
def SPx (n : Nat) (t : Nat → Int) (x : Nat) : Int := (((2 ^ n : Nat) : Int) + (1 - 2 * t x) * shifts n t x) / 2
def SP (n : Nat) (t : Nat → Int) : Int := sumN (2 ^ n) (SPx n t)
theorem cubes_id (n : Nat) (t : Nat → Int) : (sumN (2 ^ n) fun s => spec n t s * spec n t s * spec n t s) = ((2 ^ n : Nat) : Int) * sumN (2 ^ n) fun x => sg t x * shifts n t x := by
  have e : (sumN (2 ^ n) fun s => spec n t s * spec n t s * spec n t s) = sumN (2 ^ n) fun s => hat n (sg t) s * hat n (shifts n t) s := by
    refine sumN_congr fun s hs => ?_
    have := hat_of_conv n (sg t) (sg t) s hs
    unfold shifts
    rw [this]
    show hat n (sg t) s * hat n (sg t) s * hat n (sg t) s = _
    rw [Int.mul_assoc]
  rw [e, hat_dot, two_cast]
theorem pm_even {N : Nat} {f : Nat → Int} (h : ∀ i, i < N → f i = 1 ∨ f i = -1) : (sumN N f - N) % 2 = 0 := by
  induction N with
  | zero => simp [sumN]
  | succ N ih =>
    have a := ih fun i hi => h i (by omega)
    have b := h N (by omega)
    simp only [sumN]
    push_cast
    omega
theorem shift_even {n d : Nat} {t : Nat → Int} (ht : BitF (2 ^ n) t) (hd : d < 2 ^ n) : (shifts n t d - ((2 ^ n : Nat) : Int)) % 2 = 0 := by
  refine pm_even fun i hi => ?_
  have a := ht i hi
  have b := ht (i ^^^ d) (xor_lt hi hd)
  simp only [sg]
  rcases a with a | a <;> rcases b with b | b <;> rw [a, b] <;> decide
theorem sumN_half {N : Nat} {f : Nat → Int} (h : ∀ i, i < N → f i % 2 = 0) : sumN N f = 2 * sumN N fun i => f i / 2 := by
  induction N with
  | zero => simp [sumN]
  | succ N ih =>
    have a := ih fun i hi => h i (by omega)
    have b := h N (by omega)
    simp only [sumN]
    rw [a]
    omega
theorem sums_eq {n : Nat} {t : Nat → Int} (ht : BitF (2 ^ n) t) : (((2 ^ n : Nat) : Int) * ((2 ^ n : Nat) : Int) + (sumN (2 ^ n) fun s => spec n t s * spec n t s * spec n t s) / ((2 ^ n : Nat) : Int)) / 2 = SP n t := by
  have p : ((2 ^ n : Nat) : Int) ≠ 0 := by have := Nat.two_pow_pos n; omega
  rw [cubes_id, Int.mul_ediv_cancel_left _ p]
  have e1 : ((2 ^ n : Nat) : Int) * ((2 ^ n : Nat) : Int) = sumN (2 ^ n) fun _ => ((2 ^ n : Nat) : Int) := by rw [sumN_const]
  rw [e1, ← sumN_plus, sumN_half]
  · rw [Int.mul_ediv_cancel_left _ (by decide)]
    rfl
  · intro i hi
    have a := shift_even ht hi
    rcases ht i hi with b | b <;> simp only [sg, b] <;> omega
/-- what is f and g both laid out -/
def outR (xs ys : List Int) : List Int := xs.flatMap fun a => ys.map fun b => a * b
theorem outR_length : ∀ (xs ys : List Int), (outR xs ys).length = xs.length * ys.length
  | [], ys => by simp [outR]
  | x :: xs, ys => by
    have ih := outR_length xs ys
    unfold outR at ih ⊢
    rw [List.flatMap_cons, List.length_append, ih]
    simp [Nat.add_mul, Nat.add_comm]
theorem outR_bits {xs ys : List Int} (h : Bits xs) (h' : Bits ys) : Bits (outR xs ys) := fun b hb => by
  obtain ⟨x, hx, hb⟩ := List.mem_flatMap.mp hb
  obtain ⟨y, hy, rfl⟩ := List.mem_map.mp hb
  rcases h x hx with e | e <;> rcases h' y hy with e' | e' <;> rw [e, e'] <;> decide
def plc (xs : List Int) : Nat := (placeF 0 xs).toNat
theorem plc_ok {xs : List Int} (h : Bits xs) : plc xs < 2 ^ xs.length ∧ xs = rowN xs.length (plc xs) ∧ placeF 0 xs = plc xs := by
  obtain ⟨p, hp, e⟩ := bits_rowN h
  have := place_rowN xs.length p hp
  unfold plc
  rw [← e] at this
  rw [this]
  exact ⟨hp, e, rfl⟩
theorem plc_tab (n : Nat) (f : Nat → Int) : plc (tab n f) = pfun n f := rfl
def outP (n a b : Nat) : Nat := plc (outR (rowN n a) (rowN n b))
theorem outP_ok (n a b : Nat) : outP n a b < 2 ^ (n * n) ∧ placeF 0 (outR (rowN n a) (rowN n b)) = outP n a b := by
  have h := plc_ok (outR_bits (rowN_bits n a) (rowN_bits n b))
  rw [outR_length, rowN_length, rowN_length] at h
  exact ⟨h.1, h.2.2⟩
def CPq (n : Nat) (f g : Nat → Int) (a b : Nat) : Int := (((2 ^ (n * n) : Nat) : Int) + (1 - 2 * (f a * f b)) * shifts (n * n) g (outP n a b)) / 2
def PP (n : Nat) (f g : Nat → Int) : Int := sumN (2 ^ n) fun a => sumN (2 ^ n) fun b => CPq n f g a b
def RP (n : Nat) (es : List EqS) (f g : Nat → Int) (r : List Int) : Int :=
  (((2 ^ n : Nat) : Int) * ((2 ^ (n * n) : Nat) : Int) + (1 - 2 * (eqsSum n es r).1) * (shifts n f (pfun n (eqsSum n es r).2.1) * shifts (n * n) g (pfun (n * n) (eqsSum n es r).2.2))) / 2
def EP (n : Nat) (es : List EqS) (f g : Nat → Int) : Int := sumN (2 ^ es.length) fun k => RP n es f g (rowN es.length k)
def prD (n m : Nat) (f g : Nat → Int) : PyData := T [TI (tab (2 ^ n) f), TI (tab (2 ^ m) g)]
theorem bit3_s {a : Sum3} (h : Bit3 a) (n : Nat) : BitF n a.2.1 := fun i _ => h.2.1 i
theorem bit3_l {a : Sum3} (h : Bit3 a) (n : Nat) : BitF n a.2.2 := fun i _ => h.2.2 i

/-! ### defs -/
def sp_value_at : FSpec := fun args Φ => ∃ (N p : Nat) (t : Nat → Int) (xs : List Int), args = [.d (TI (tab N t)), .d (TI xs)] ∧ placeF 0 xs = p ∧ p < N ∧ Φ (.d (.int (t p)))
def D_value_at : DS := (dSeq (dRet (dBin oIxS (dVar 0) (dCall 1 sp_row_place (dCons (dVar 1) dNil)))) dNext)
theorem v_value_at (args : List Val) (Φ : Val → Prop) (h : sp_value_at args Φ) : D_value_at (kRet Φ) (envS ["table", "row"] args) := by
  obtain ⟨N, p, t, xs, rfl, hp, hl, hΦ⟩ := h
  simp [D_value_at, envS]
  refine ⟨xs, rfl, ?_⟩
  simp [hp, stepped_get hl, hΦ]
def sp_both_shifts : FSpec := fun args Φ => ∃ (n m : Nat) (f g : Nat → Int), args = [.d (prD n m f g)] ∧ n ≤ 20 ∧ m ≤ 20 ∧ BitF (2 ^ n) f ∧ BitF (2 ^ m) g ∧ Φ (.d (prD n m (shifts n f) (shifts m g)))
def D_both_shifts : DS := (dSeq (dRet (dTup (dCons (dCall 1 sp_shift_sums (dCons (dBin oIxS (dVar 0) (dC (.int 0))) dNil)) (dCons (dCall 1 sp_shift_sums (dCons (dBin oIxS (dVar 0) (dC (.int 1))) dNil)) dNil)))) dNext)
theorem v_both_shifts (args : List Val) (Φ : Val → Prop) (h : sp_both_shifts args Φ) : D_both_shifts (kRet Φ) (envS ["proof"] args) := by
  obtain ⟨n, m, f, g, rfl, hn, hm, hf, hg, hΦ⟩ := h
  simp [D_both_shifts, envS, prD]
  refine ⟨n, f, rfl, hn, hf, ?_⟩
  simp
  refine ⟨m, g, rfl, hm, hg, ?_⟩
  simp
  exact hΦ
theorem cut_half {m k : Int} (h : k = 0 ∨ k = 1) {x : Int} : (if k = 1 then (m - x) / 2 else (m + x) / 2) = (m + (1 - 2 * k) * x) / 2 := by
  rcases h with rfl | rfl
  · simp
  · rw [if_pos rfl]
    congr 1
    omega
def sp_passed_by : FSpec := fun args Φ => ∃ (n : Nat) (es : List EqS) (f g : Nat → Int) (r : List Int), args = [.d (sysD n es), .d (prD n (n * n) (shifts n f) (shifts (n * n) g)), .d (TI r)] ∧ SysOk n es ∧ es.length ≤ 1000 ∧ n ≤ 4 ∧ BitF (2 ^ n) f ∧ BitF (2 ^ (n * n)) g ∧ Φ (.d (.int (RP n es f g r)))
def D_passed_by : DS := (dSeq (dAsg (tTup 3 (tCons (tName 3) (tCons (tName 4) (tCons (tName 5) tNil)))) (dCall 2 sp_equations_sum (dCons (dVar 0) (dCons (dVar 2) dNil)))) (dSeq (dPar2 6 7 (dBin oMul (dUn oLen (dBin oIxS (dVar 1) (dC (.int 0)))) (dUn oLen (dBin oIxS (dVar 1) (dC (.int 1))))) (dBin oMul (dBin oIxS (dBin oIxS (dVar 1) (dC (.int 0))) (dCall 1 sp_row_place (dCons (dVar 4) dNil))) (dBin oIxS (dBin oIxS (dVar 1) (dC (.int 1))) (dCall 1 sp_row_place (dCons (dVar 5) dNil))))) (dSeq (dRet (dIf (dTst (dBin oEq (dVar 3) (dC (.int 1)))) (dBin oDiv (dBin oSub (dVar 6) (dVar 7)) (dC (.int 2))) (dBin oDiv (dBin oAdd (dVar 6) (dVar 7)) (dC (.int 2))))) dNext)))
theorem v_passed_by (args : List Val) (Φ : Val → Prop) (h : sp_passed_by args Φ) : D_passed_by (kRet Φ) (envS ["system", "shifts", "r", "c", "s", "laid", "many", "moved"] args) := by
  obtain ⟨n, es, f, g, r, rfl, he, hl, hn, hf, hg, hΦ⟩ := h
  have nn : n * n ≤ 4 * 4 := Nat.mul_le_mul hn hn
  have p1 : 2 ^ n ≤ 2 ^ 4 := two_le hn
  have p2 : 2 ^ (n * n) ≤ 2 ^ 16 := two_le nn
  have b3 := eqsSum_bit n es r
  obtain ⟨l1, _, q1⟩ := pfun_ok (bit3_s b3 n)
  obtain ⟨l2, _, q2⟩ := pfun_ok (bit3_l b3 (n * n))
  have B1 := shifts_bound hf l1
  have B2 := shifts_bound hg l2
  rw [D_passed_by, dSeq]
  simp [-dSeq, envS]
  refine ⟨n, es, r, rfl, he, hl, by omega, ?_⟩
  simp [-dSeq, sum3D, and_assoc]
  rw [dSeq]
  simp [-dSeq, and_assoc, prD]
  refine ⟨cm_small (by rw [tab_length]; omega), _, rfl, ?_⟩
  rw [q1]
  simp [-dSeq, stepped_get l1]
  refine ⟨_, rfl, ?_⟩
  rw [q2]
  simp [-dSeq, stepped_get l2]
  refine ⟨cm_small (by omega), ?_⟩
  rw [dSeq]
  simp [-dSeq, oEq_int, tab_length]
  have ch := @cut_half (((2 ^ n : Nat) : Int) * ((2 ^ (n * n) : Nat) : Int)) _ b3.1 (shifts n f (pfun n (eqsSum n es r).2.1) * shifts (n * n) g (pfun (n * n) (eqsSum n es r).2.2))
  unfold RP at hΦ
  rw [← ch] at hΦ
  push_cast at hΦ
  by_cases c1 : (eqsSum n es r).1 = 1
  · rw [if_pos c1] at hΦ
    simp [c1]
    exact ⟨cdiv2, hΦ⟩
  · rw [if_neg c1] at hΦ
    simp [c1]
    exact ⟨cdiv2, hΦ⟩
end Ev
set_option Elab.async false
set_option linter.all false
set_option maxRecDepth 100000
/-! V22: counts of what passes, told. -/
namespace Ev
open PySem PySem.Spec PyProof.Rows L2

def sp_laid_product : FSpec := fun args Φ => ∃ xs ys : List Int, args = [.d (TI xs), .d (TI ys)] ∧ xs.length ≤ 1000 ∧ ys.length ≤ 1000 ∧ Bits xs ∧ Bits ys ∧ Φ (.d (TI (outR xs ys)))
theorem outR_app (xs : List Int) (x : Int) (ys : List Int) : outR (xs ++ [x]) ys = outR xs ys ++ ys.map fun b => x * b := by
  unfold outR
  rw [List.flatMap_append]; simp
def D_laid_product : DS := (dSeq (dSet 2 (dLst dNil)) (dSeq (dFor (dSeqI (dVar 0)) (tName 3) (dSeq (dExpr (dExt 2 (dLc [4] (dSeqI (dVar 1)) (tName 4) dYes (dBin oMul (dVar 3) (dVar 4))))) dNext)) (dSeq (dRet (dUn oTuple (dVar 2))) dNext)))
theorem v_laid_product (args : List Val) (Φ : Val → Prop) (h : sp_laid_product args Φ) : D_laid_product (kRet Φ) (envS ["one", "other", "found", "a", "b"] args) := by
  obtain ⟨xs, ys, rfl, hx, hy, bx, by', hΦ⟩ := h
  simp [D_laid_product, envS]
  refine forW_map PyData.int (fun r e => ∃ (dn : List Int) (z3 z4 : Option Val), e = [some (.d (TI xs)), some (.d (TI ys)), some (.own ((outR dn ys).map .int)), z3, none] ∧ dn ++ r = xs) ?_ ?_ xs _ ⟨[], none, none, rfl, rfl⟩
  · rintro e ⟨dn, z3, z4, rfl, h⟩
    rw [List.append_nil] at h
    subst h
    try simp
    exact hΦ
  · rintro x r e ⟨dn, z3, z4, rfl, h⟩ N hN
    have bb : x = 0 ∨ x = 1 := bx x (by rw [← h]; simp)
    have ld : dn.length ≤ 1000 := by have := congrArg List.length h; simp at this; omega
    have lo := outR_length dn ys
    have lm : dn.length * ys.length ≤ 1000 * 1000 := Nat.mul_le_mul ld hy
    try simp
    refine compW_all PyData.int (fun b => I (x * b)) ys (by omega) (fun b hb M hM => ?_) ?_
    · try simp
      exact ⟨cm_small (by omega), hM⟩
    · try simp
      refine ⟨by rw [lo]; omega, hN _ ⟨dn ++ [x], some (.d (I x)), none, ?_, by simpa using h⟩⟩
      rw [outR_app]
      try simp
def sp_law_outer : FSpec := sp_laid_product
def D_law_outer : DS := (dSeq (dSet 2 (dLst dNil)) (dSeq (dFor (dSeqI (dVar 0)) (tName 3) (dSeq (dExpr (dExt 2 (dLc [4] (dSeqI (dVar 1)) (tName 4) dYes (dBin oAnd (dVar 3) (dVar 4))))) dNext)) (dSeq (dRet (dUn oTuple (dVar 2))) dNext)))
theorem v_law_outer (args : List Val) (Φ : Val → Prop) (h : sp_law_outer args Φ) : D_law_outer (kRet Φ) (envS ["a", "b", "found", "bit", "own"] args) := by
  obtain ⟨xs, ys, rfl, hx, hy, bx, by', hΦ⟩ := h
  simp [D_law_outer, envS]
  refine forW_map PyData.int (fun r e => ∃ (dn : List Int) (z3 z4 : Option Val), e = [some (.d (TI xs)), some (.d (TI ys)), some (.own ((outR dn ys).map .int)), z3, none] ∧ dn ++ r = xs) ?_ ?_ xs _ ⟨[], none, none, rfl, rfl⟩
  · rintro e ⟨dn, z3, z4, rfl, h⟩
    rw [List.append_nil] at h
    subst h
    try simp
    exact hΦ
  · rintro x r e ⟨dn, z3, z4, rfl, h⟩ N hN
    have bb : x = 0 ∨ x = 1 := bx x (by rw [← h]; simp)
    have ld : dn.length ≤ 1000 := by have := congrArg List.length h; simp at this; omega
    have lo := outR_length dn ys
    have lm : dn.length * ys.length ≤ 1000 * 1000 := Nat.mul_le_mul ld hy
    try simp
    refine compW_all PyData.int (fun b => I (x * b)) ys (by omega) (fun b hb M hM => ?_) ?_
    · try simp
      rw [and_bit bb (by' b hb)]
      exact hM
    · try simp
      refine ⟨by rw [lo]; omega, hN _ ⟨dn ++ [x], some (.d (I x)), none, ?_, by simpa using h⟩⟩
      rw [outR_app]
      try simp
def sp_choices_by : FSpec := fun args Φ => ∃ (n a b : Nat) (f g : Nat → Int), args = [.d (prD n (n * n) f g), .d (TI (tab (2 ^ (n * n)) (shifts (n * n) g))), .d (TI (rowN n a)), .d (TI (rowN n b))] ∧ n ≤ 4 ∧ a < 2 ^ n ∧ b < 2 ^ n ∧ BitF (2 ^ n) f ∧ BitF (2 ^ (n * n)) g ∧ Φ (.d (.int (CPq n f g a b)))
def D_choices_by : DS := (dSeq (dAsg (tTup 2 (tCons (tName 4) (tCons (tName 5) tNil))) (dVar 0)) (dSeq (dPar2 6 7 (dBin oMul (dBin oIxS (dVar 4) (dCall 1 sp_row_place (dCons (dVar 2) dNil))) (dBin oIxS (dVar 4) (dCall 1 sp_row_place (dCons (dVar 3) dNil)))) (dBin oIxS (dVar 1) (dCall 1 sp_row_place (dCons (dCall 2 sp_laid_product (dCons (dVar 2) (dCons (dVar 3) dNil))) dNil)))) (dSeq (dRet (dIf (dTst (dBin oEq (dVar 6) (dC (.int 1)))) (dBin oDiv (dBin oSub (dUn oLen (dVar 5)) (dVar 7)) (dC (.int 2))) (dBin oDiv (dBin oAdd (dUn oLen (dVar 5)) (dVar 7)) (dC (.int 2))))) dNext)))
theorem v_choices_by (args : List Val) (Φ : Val → Prop) (h : sp_choices_by args Φ) : D_choices_by (kRet Φ) (envS ["proof", "shifts", "a", "b", "f", "g", "both", "moved"] args) := by
  obtain ⟨n, a, b, f, g, rfl, hn, ha, hb, hf, hg, hΦ⟩ := h
  obtain ⟨l1, q1⟩ := outP_ok n a b
  have fb : f a * f b = 0 ∨ f a * f b = 1 := by rcases hf a ha with e | e <;> rcases hf b hb with e' | e' <;> rw [e, e'] <;> simp
  have fa : -1 ≤ f a ∧ f a ≤ 1 := by rcases hf a ha with e | e <;> rw [e] <;> decide
  rw [D_choices_by, dSeq]
  simp [-dSeq, envS, prD, and_assoc]
  rw [dSeq]
  simp [-dSeq, and_assoc]
  refine ⟨_, rfl, ?_⟩
  rw [place_rowN n a ha]
  simp [-dSeq, stepped_get ha]
  refine ⟨_, rfl, ?_⟩
  rw [place_rowN n b hb]
  simp [-dSeq, stepped_get hb]
  refine ⟨cm_small (by omega), _, _, rfl, by rw [rowN_length]; omega, by rw [rowN_length]; omega, rowN_bits _ _, rowN_bits _ _, ?_⟩
  try simp [-dSeq]
  refine ⟨_, rfl, ?_⟩
  rw [q1]
  simp [-dSeq, stepped_get l1]
  rw [dSeq]
  simp [-dSeq, oEq_int, tab_length]
  have ch := @cut_half ((2 ^ (n * n) : Nat) : Int) _ fb (shifts (n * n) g (outP n a b))
  unfold CPq at hΦ
  rw [← ch] at hΦ
  push_cast at hΦ
  by_cases c1 : f a * f b = 1
  · rw [if_pos c1] at hΦ
    simp [c1]
    exact ⟨cdiv2, hΦ⟩
  · rw [if_neg c1] at hΦ
    simp [c1]
    exact ⟨cdiv2, hΦ⟩
theorem tab_sum' (n : Nat) (f : Nat → Int) : ((List.range n).map f).sum = sumN n f := sumN_list f n
def sp_products_passed : FSpec := fun args Φ => ∃ (n : Nat) (f g : Nat → Int), args = [.d (.int n), .d (prD n (n * n) f g)] ∧ n ≤ 4 ∧ BitF (2 ^ n) f ∧ BitF (2 ^ (n * n)) g ∧ Φ (.d (.int (PP n f g)))
def D_products_passed : DS := (dSeq (dPar2 2 3 (dCall 1 sp_shift_sums (dCons (dBin oIxS (dVar 1) (dC (.int 1))) dNil)) (dC (.int 0))) (dSeq (dFor (dSeqI (dCall 1 sp_all_rows (dCons (dVar 0) dNil))) (tName 4) (dSeq (dSet 3 (dBin oAdd (dVar 3) (dUn oSum (dLc [5] (dSeqI (dCall 1 sp_all_rows (dCons (dVar 0) dNil))) (tName 5) dYes (dCall 4 sp_choices_by (dCons (dVar 1) (dCons (dVar 2) (dCons (dVar 4) (dCons (dVar 5) dNil))))))))) dNext)) (dSeq (dRet (dVar 3)) dNext)))
theorem v_products_passed (args : List Val) (Φ : Val → Prop) (h : sp_products_passed args Φ) : D_products_passed (kRet Φ) (envS ["n", "proof", "shifts", "found", "a", "b"] args) := by
  obtain ⟨n, f, g, rfl, hn, hf, hg, hΦ⟩ := h
  have nn : n * n ≤ 4 * 4 := Nat.mul_le_mul hn hn
  have p4 : 2 ^ n ≤ 2 ^ 4 := two_le hn
  rw [D_products_passed, dSeq]
  simp [-dSeq, envS, prD, and_assoc]
  refine ⟨n * n, g, rfl, by omega, hg, ?_⟩
  try simp [-dSeq]
  rw [dSeq]
  try simp [-dSeq]
  refine ⟨n, rfl, by omega, ?_⟩
  try simp [-dSeq]
  rw [rows_items]
  refine forW_range _ (2 ^ n) (fun j e => ∃ z4, e = [some (.d (.int n)), some (.d (prD n (n * n) f g)), some (.d (TI (tab (2 ^ (n * n)) (shifts (n * n) g)))), some (.d (.int (sumN j fun a => sumN (2 ^ n) fun b => CPq n f g a b))), z4, none]) ?_ ?_ _ ⟨none, by simp [sumN, prD]⟩
  · rintro e ⟨z4, rfl⟩
    try simp
    exact hΦ
  · rintro j hj e ⟨z4, rfl⟩ N hN
    try simp
    refine ⟨n, rfl, by omega, ?_⟩
    try simp
    rw [rows_items]
    refine compW_tab _ (fun b => I (CPq n f g j b)) (by omega) (fun b hb M hM => ?_) ?_
    · try simp
      exact ⟨n, j, b, f, g, rfl, hn, hj, hb, hf, hg, by simpa using hM⟩
    · try simp
      refine sum_tab ?_
      try simp
      exact hN _ ⟨_, by simp [sumN]; rfl⟩
def sp_equations_passed : FSpec := fun args Φ => ∃ (n : Nat) (es : List EqS) (f g : Nat → Int), args = [.d (sysD n es), .d (prD n (n * n) f g)] ∧ SysOk n es ∧ es.length ≤ 12 ∧ n ≤ 4 ∧ BitF (2 ^ n) f ∧ BitF (2 ^ (n * n)) g ∧ Φ (.d (.int (EP n es f g)))
def D_equations_passed : DS := (dSeq (dSet 2 (dCall 1 sp_both_shifts (dCons (dVar 1) dNil))) (dSeq (dRet (dUn oSum (dLc [3] (dSeqI (dCall 1 sp_all_rows (dCons (dUn oLen (dBin oIxS (dVar 0) (dC (.int 1)))) dNil))) (tName 3) dYes (dCall 3 sp_passed_by (dCons (dVar 0) (dCons (dVar 2) (dCons (dVar 3) dNil))))))) dNext))
theorem v_equations_passed (args : List Val) (Φ : Val → Prop) (h : sp_equations_passed args Φ) : D_equations_passed (kRet Φ) (envS ["system", "proof", "shifts", "r"] args) := by
  obtain ⟨n, es, f, g, rfl, he, hl, hn, hf, hg, hΦ⟩ := h
  have nn : n * n ≤ 4 * 4 := Nat.mul_le_mul hn hn
  have p12 : 2 ^ es.length ≤ 2 ^ 12 := two_le hl
  rw [D_equations_passed, dSeq]
  simp [-dSeq, envS]
  refine ⟨n, n * n, f, g, rfl, by omega, by omega, hf, hg, ?_⟩
  try simp [-dSeq]
  rw [dSeq]
  simp [-dSeq, sysD]
  refine ⟨es.length, rfl, hl, ?_⟩
  try simp
  rw [rows_items]
  refine compW_tab _ (fun k => I (RP n es f g (rowN es.length k))) (by omega) (fun k hk M hM => ?_) ?_
  · try simp
    exact ⟨n, es, f, g, _, rfl, he, by omega, hn, hf, hg, by simpa using hM⟩
  · try simp
    refine sum_tab ?_
    exact hΦ
def sp_passed_of_spectrum : FSpec := fun args Φ => ∃ (n : Nat) (t : Nat → Int), args = [.d (TI (tab (2 ^ n) (spec n t)))] ∧ n ≤ 16 ∧ BitF (2 ^ n) t ∧ Φ (.d (.int (SP n t)))
def D_passed_of_spectrum : DS := (dSeq (dSet 1 (dUn oLen (dVar 0))) (dSeq (dRet (dBin oDiv (dBin oAdd (dBin oMul (dVar 1) (dVar 1)) (dBin oDiv (dCall 1 sp_cubes_sum (dCons (dVar 0) dNil)) (dVar 1))) (dC (.int 2)))) dNext))
theorem v_passed_of_spectrum (args : List Val) (Φ : Val → Prop) (h : sp_passed_of_spectrum args Φ) : D_passed_of_spectrum (kRet Φ) (envS ["value", "many"] args) := by
  obtain ⟨n, t, rfl, hn, ht, hΦ⟩ := h
  have p := two_le hn
  rw [← sums_eq ht] at hΦ
  have tl : ((tab (2 ^ n) (spec n t)).length : Int) = ((2 ^ n : Nat) : Int) := by rw [tab_length]
  have cd := cdivN (a := sumN (2 ^ n) fun s => spec n t s * spec n t s * spec n t s) (show n ≤ 20 by omega)
  have cc : ∀ Ψ : Val → Prop, Ψ (.d (.int (sumN (2 ^ n) fun s => spec n t s * spec n t s * spec n t s))) → sp_cubes_sum [.d (TI (tab (2 ^ n) (spec n t)))] Ψ := fun Ψ hΨ => ⟨2 ^ n, _, rfl, by omega, spec_lim (by omega) ht, hΨ⟩
  simp only [D_passed_of_spectrum, envS]
  generalize hN : ((2 ^ n : Nat) : Int) = N at *
  simp [tl]
  refine ⟨cm_small (by omega), ?_⟩
  refine cc _ ?_
  try simp
  exact ⟨cd, cdiv2, hΦ⟩
def sp_sums_passed : FSpec := fun args Φ => ∃ (n : Nat) (t : Nat → Int), args = [.d (TI (tab (2 ^ n) t))] ∧ n ≤ 16 ∧ BitF (2 ^ n) t ∧ Φ (.d (.int (SP n t)))
def D_sums_passed : DS := (dSeq (dRet (dCall 1 sp_passed_of_spectrum (dCons (dCall 1 sp_spectrum (dCons (dVar 0) dNil)) dNil))) dNext)
theorem v_sums_passed (args : List Val) (Φ : Val → Prop) (h : sp_sums_passed args Φ) : D_sums_passed (kRet Φ) (envS ["table"] args) := by
  obtain ⟨n, t, rfl, hn, ht, hΦ⟩ := h
  simp [D_sums_passed, envS]
  refine ⟨n, t, rfl, by omega, ?_⟩
  try simp
  exact ⟨n, t, rfl, hn, ht, by simpa using hΦ⟩
end Ev
set_option Elab.async false
set_option linter.all false
set_option maxRecDepth 100000
/-! V23: counts of what passes, by the law's own. -/
namespace Ev
open PySem PySem.Spec PyProof.Rows L2

/-! ### bounds -/
theorem half_bound {N c x : Int} (hN : 0 ≤ N) (hc : c = 0 ∨ c = 1) (hx : -N ≤ x ∧ x ≤ N) : 0 ≤ (N + (1 - 2 * c) * x) / 2 ∧ (N + (1 - 2 * c) * x) / 2 ≤ N := by
  rcases hc with rfl | rfl
  · rw [show N + (1 - 2 * 0) * x = N + x by omega]; omega
  · rw [show N + (1 - 2 * 1) * x = N - x by omega]; omega
theorem sumN_nn {c : Int} {f : Nat → Int} : ∀ {n : Nat}, (∀ i, i < n → 0 ≤ f i ∧ f i ≤ c) → 0 ≤ sumN n f ∧ sumN n f ≤ n * c
  | 0, _ => by simp [sumN]
  | n + 1, h => by
    have a := sumN_nn (n := n) fun i hi => h i (by omega)
    have b := h n (by omega)
    simp only [sumN]
    have : ((n + 1 : Nat) : Int) * c = n * c + c := by push_cast; rw [Int.add_mul, Int.one_mul]
    rw [this]
    omega
theorem SP_bound {n : Nat} {t : Nat → Int} (ht : BitF (2 ^ n) t) : 0 ≤ SP n t ∧ SP n t ≤ ((2 ^ n : Nat) : Int) * ((2 ^ n : Nat) : Int) :=
  sumN_nn fun i hi => half_bound (Int.natCast_nonneg _) (ht i hi) (shifts_bound ht hi)
theorem CPq_bound {n a b : Nat} {f g : Nat → Int} (ha : a < 2 ^ n) (hb : b < 2 ^ n) (hf : BitF (2 ^ n) f) (hg : BitF (2 ^ (n * n)) g) : 0 ≤ CPq n f g a b ∧ CPq n f g a b ≤ ((2 ^ (n * n) : Nat) : Int) := by
  have fb : f a * f b = 0 ∨ f a * f b = 1 := by rcases hf a ha with e | e <;> rcases hf b hb with e' | e' <;> rw [e, e'] <;> simp
  exact half_bound (Int.natCast_nonneg _) fb (shifts_bound hg (outP_ok n a b).1)
theorem PP_bound {n : Nat} {f g : Nat → Int} (hf : BitF (2 ^ n) f) (hg : BitF (2 ^ (n * n)) g) : 0 ≤ PP n f g ∧ PP n f g ≤ ((2 ^ n : Nat) : Int) * (((2 ^ n : Nat) : Int) * ((2 ^ (n * n) : Nat) : Int)) :=
  sumN_nn fun a ha => sumN_nn fun b hb => CPq_bound ha hb hf hg
theorem mul_bound {a b x y : Int} (hx : -a ≤ x ∧ x ≤ a) (hy : -b ≤ y ∧ y ≤ b) : -(a * b) ≤ x * y ∧ x * y ≤ a * b := by
  have h1 : 0 ≤ (a - x) * (b + y) := Int.mul_nonneg (by omega) (by omega)
  have h2 : 0 ≤ (a + x) * (b - y) := Int.mul_nonneg (by omega) (by omega)
  have h3 : 0 ≤ (a - x) * (b - y) := Int.mul_nonneg (by omega) (by omega)
  have h4 : 0 ≤ (a + x) * (b + y) := Int.mul_nonneg (by omega) (by omega)
  constructor
  · grind
  · grind
theorem RP_bound {n : Nat} {es : List EqS} {f g : Nat → Int} {r : List Int} (hf : BitF (2 ^ n) f) (hg : BitF (2 ^ (n * n)) g) : 0 ≤ RP n es f g r ∧ RP n es f g r ≤ ((2 ^ n : Nat) : Int) * ((2 ^ (n * n) : Nat) : Int) := by
  have b3 := eqsSum_bit n es r
  exact half_bound (Int.mul_nonneg (Int.natCast_nonneg _) (Int.natCast_nonneg _)) b3.1 (mul_bound (shifts_bound hf (pfun_ok (bit3_s b3 n)).1) (shifts_bound hg (pfun_ok (bit3_l b3 (n * n))).1))
theorem EP_bound {n : Nat} {es : List EqS} {f g : Nat → Int} (hf : BitF (2 ^ n) f) (hg : BitF (2 ^ (n * n)) g) : 0 ≤ EP n es f g ∧ EP n es f g ≤ ((2 ^ es.length : Nat) : Int) * (((2 ^ n : Nat) : Int) * ((2 ^ (n * n) : Nat) : Int)) :=
  sumN_nn fun k hk => RP_bound hf hg

/-! ### all four -/
def countsD (n : Nat) (es : List EqS) (f g : Nat → Int) : PyData :=
  T [I (SP n f * ((2 ^ (2 * n * n + es.length) : Nat) : Int)), I (SP (n * n) g * ((2 ^ (2 * n + es.length) : Nat) : Int)), I (PP n f g * ((2 ^ (n * n + es.length) : Nat) : Int)), I (EP n es f g * ((2 ^ (n + n * n) : Nat) : Int))]
theorem p2_lt {k : Nat} (h : k ≤ 60) : -(2 ^ 64) < ((2 ^ k : Nat) : Int) ∧ ((2 ^ k : Nat) : Int) < 2 ^ 64 := by
  have h1 : ((2 ^ k : Nat) : Int) ≤ ((2 ^ 60 : Nat) : Int) := Int.ofNat_le.mpr (two_le h)
  have h2 : 0 ≤ ((2 ^ k : Nat) : Int) := Int.natCast_nonneg _
  generalize ((2 ^ k : Nat) : Int) = a at *
  omega
def sp_passed_counts : FSpec := fun args Φ => ∃ (n : Nat) (es : List EqS) (f g : Nat → Int), args = [.d (sysD n es), .d (prD n (n * n) f g)] ∧ SysOk n es ∧ es.length ≤ 12 ∧ n ≤ 4 ∧ BitF (2 ^ n) f ∧ BitF (2 ^ (n * n)) g ∧ Φ (.d (countsD n es f g))
def D_passed_counts : DS := (dSeq (dPar2 2 3 (dBin oIxS (dVar 0) (dC (.int 0))) (dUn oLen (dBin oIxS (dVar 0) (dC (.int 1))))) (dSeq (dSet 4 (dBin oMul (dCall 1 sp_sums_passed (dCons (dBin oIxS (dVar 1) (dC (.int 0))) dNil)) (dCall 1 sp_power_of_two (dCons (dBin oAdd (dBin oMul (dBin oMul (dC (.int 2)) (dVar 2)) (dVar 2)) (dVar 3)) dNil)))) (dSeq (dSet 5 (dBin oMul (dCall 1 sp_sums_passed (dCons (dBin oIxS (dVar 1) (dC (.int 1))) dNil)) (dCall 1 sp_power_of_two (dCons (dBin oAdd (dBin oMul (dC (.int 2)) (dVar 2)) (dVar 3)) dNil)))) (dSeq (dSet 6 (dBin oMul (dCall 2 sp_products_passed (dCons (dVar 2) (dCons (dVar 1) dNil))) (dCall 1 sp_power_of_two (dCons (dBin oAdd (dBin oMul (dVar 2) (dVar 2)) (dVar 3)) dNil)))) (dSeq (dRet (dTup (dCons (dVar 4) (dCons (dVar 5) (dCons (dVar 6) (dCons (dBin oMul (dCall 2 sp_equations_passed (dCons (dVar 0) (dCons (dVar 1) dNil))) (dCall 1 sp_power_of_two (dCons (dBin oAdd (dVar 2) (dBin oMul (dVar 2) (dVar 2))) dNil))) dNil)))))) dNext)))))
theorem v_passed_counts (args : List Val) (Φ : Val → Prop) (h : sp_passed_counts args Φ) : D_passed_counts (kRet Φ) (envS ["system", "proof", "n", "m", "sums", "matrices", "products"] args) := by
  obtain ⟨n, es, f, g, rfl, he, hl, hn, hf, hg, hΦ⟩ := h
  have nn : n * n ≤ 4 * 4 := Nat.mul_le_mul hn hn
  have e1 : 2 * (n : Int) * n + es.length = ((2 * n * n + es.length : Nat) : Int) := by push_cast; rfl
  have e2 : 2 * (n : Int) + es.length = ((2 * n + es.length : Nat) : Int) := by push_cast; rfl
  have e3 : (n : Int) * n + es.length = ((n * n + es.length : Nat) : Int) := by push_cast; rfl
  have e4 : (n : Int) + n * n = ((n + n * n : Nat) : Int) := by push_cast; rfl
  have m2 : 2 * n * n ≤ 2 * 16 := by rw [Nat.mul_assoc]; omega
  have k1 : ∀ Ψ : Val → Prop, Ψ (.d (.int (SP n f))) → sp_sums_passed [.d (TI (tab (2 ^ n) f))] Ψ := fun Ψ h => ⟨n, f, rfl, by omega, hf, h⟩
  have k2 : ∀ Ψ : Val → Prop, Ψ (.d (.int (SP (n * n) g))) → sp_sums_passed [.d (TI (tab (2 ^ (n * n)) g))] Ψ := fun Ψ h => ⟨n * n, g, rfl, by omega, hg, h⟩
  have k3 : ∀ Ψ : Val → Prop, Ψ (.d (.int (PP n f g))) → sp_products_passed [.d (.int n), .d (prD n (n * n) f g)] Ψ := fun Ψ h => ⟨n, f, g, rfl, hn, hf, hg, h⟩
  have k4 : ∀ Ψ : Val → Prop, Ψ (.d (.int (EP n es f g))) → sp_equations_passed [.d (sysD n es), .d (prD n (n * n) f g)] Ψ := fun Ψ h => ⟨n, es, f, g, rfl, he, hl, hn, hf, hg, h⟩
  have w1 : ∀ Ψ : Val → Prop, Ψ (.d (.int ((2 ^ (2 * n * n + es.length) : Nat) : Int))) → sp_power_of_two [.d (.int (2 * (n : Int) * n + es.length))] Ψ := fun Ψ h => ⟨_, by rw [e1], by omega, h⟩
  have w2 : ∀ Ψ : Val → Prop, Ψ (.d (.int ((2 ^ (2 * n + es.length) : Nat) : Int))) → sp_power_of_two [.d (.int (2 * (n : Int) + es.length))] Ψ := fun Ψ h => ⟨_, by rw [e2], by omega, h⟩
  have w3 : ∀ Ψ : Val → Prop, Ψ (.d (.int ((2 ^ (n * n + es.length) : Nat) : Int))) → sp_power_of_two [.d (.int ((n : Int) * n + es.length))] Ψ := fun Ψ h => ⟨_, by rw [e3], by omega, h⟩
  have w4 : ∀ Ψ : Val → Prop, Ψ (.d (.int ((2 ^ (n + n * n) : Nat) : Int))) → sp_power_of_two [.d (.int ((n : Int) + n * n))] Ψ := fun Ψ h => ⟨_, by rw [e4], by omega, h⟩
  have b1 := p2_lt (k := 2 * n * n + es.length) (by omega)
  have b2 := p2_lt (k := 2 * n + es.length) (by omega)
  have b3 := p2_lt (k := n * n + es.length) (by omega)
  have b4 := p2_lt (k := n + n * n) (by omega)
  have c1 : CM 2 (n : Int) := cm_small (by omega)
  have c2 : CM (2 * (n : Int)) n := cm_small (by omega)
  have c3 : CM (n : Int) n := cm_small (by omega)
  unfold countsD at hΦ
  generalize ((2 ^ (2 * n * n + es.length) : Nat) : Int) = P1 at *
  generalize ((2 ^ (2 * n + es.length) : Nat) : Int) = P2 at *
  generalize ((2 ^ (n * n + es.length) : Nat) : Int) = P3 at *
  generalize ((2 ^ (n + n * n) : Nat) : Int) = P4 at *
  rw [D_passed_counts, dSeq]
  try simp [-dSeq, envS, sysD]
  rw [dSeq]
  try simp [-dSeq, prD, and_assoc, c1, c2, c3]
  refine k1 _ ?_
  try simp [-dSeq, c1, c2, c3]
  refine w1 _ ?_
  try simp [-dSeq]
  refine ⟨cm_small' b1, ?_⟩
  rw [dSeq]
  try simp [-dSeq, c1, c2, c3]
  refine k2 _ ?_
  try simp [-dSeq, c1, c2, c3]
  refine w2 _ ?_
  try simp [-dSeq]
  refine ⟨cm_small' b2, ?_⟩
  rw [dSeq]
  try simp [-dSeq, c1, c2, c3]
  refine k3 _ ?_
  try simp [-dSeq, c1, c2, c3]
  refine w3 _ ?_
  try simp [-dSeq]
  refine ⟨cm_small' b3, ?_⟩
  rw [dSeq]
  try simp [-dSeq, c1, c2, c3]
  refine k4 _ ?_
  try simp [-dSeq, c1, c2, c3]
  refine w4 _ ?_
  try simp [-dSeq]
  exact ⟨cm_small' b4, hΦ⟩
end Ev
set_option Elab.async false
set_option linter.all false
set_option maxRecDepth 100000
/-! V24: the law's own counts. -/
namespace Ev
open PySem PySem.Spec PyProof.Rows L2

def sp_law_sums_passed : FSpec := sp_sums_passed
def D_law_sums_passed : DS := (dSeq (dPar2 1 2 (dC (.int 0)) (dUn oLen (dVar 0))) (dSeq (dFor (dEnum (dCons (dVar 0) dNil)) (tTup 2 (tCons (tName 3) (tCons (tName 4) tNil))) (dSeq (dSet 1 (dBin oAdd (dVar 1) (dBin oDiv (dBin oAdd (dVar 2) (dBin oMul (dBin oSub (dC (.int 1)) (dBin oMul (dC (.int 2)) (dVar 4))) (dCall 2 sp_law_shift (dCons (dVar 0) (dCons (dVar 3) dNil))))) (dC (.int 2))))) dNext)) (dSeq (dRet (dVar 1)) dNext)))
theorem v_law_sums_passed (args : List Val) (Φ : Val → Prop) (h : sp_law_sums_passed args Φ) : D_law_sums_passed (kRet Φ) (envS ["table", "found", "size", "x", "bit"] args) := by
  obtain ⟨n, t, rfl, hn, ht, hΦ⟩ := h
  have p := two_le hn
  rw [D_law_sums_passed, dSeq]
  try simp [-dSeq, and_assoc, envS]
  rw [dSeq]
  try simp [-dSeq, and_assoc, enum_tab]
  refine forW_range _ (2 ^ n) (fun j e => ∃ z3 z4, e = [some (.d (TI (tab (2 ^ n) t))), some (.d (.int (sumN j (SPx n t)))), some (.d (.int ((2 ^ n : Nat) : Int))), z3, z4]) ?_ ?_ _ ⟨none, none, by simp [sumN, tab_length]⟩
  · rintro e ⟨z3, z4, rfl⟩
    generalize ((2 ^ n : Nat) : Int) = N at *
    simp
    exact hΦ
  · rintro j hj e ⟨z3, z4, rfl⟩ N hN
    have sh : ∀ Ψ : Val → Prop, Ψ (.d (.int (shifts n t j))) → sp_law_shift [.d (TI (tab (2 ^ n) t)), .d (.int j)] Ψ := fun Ψ h => ⟨n, j, t, rfl, by omega, hj, ht, h⟩
    have c1 : CM 2 (t j) := cm_small (by omega)
    have c2 : CM (1 - 2 * t j) (shifts n t j) := by rcases ht j hj with e | e <;> rw [e] <;> exact cm_small (by omega)
    have eq1 : sumN (j + 1) (SPx n t) = sumN j (SPx n t) + (((2 ^ n : Nat) : Int) + (1 - 2 * t j) * shifts n t j) / 2 := rfl
    generalize ((2 ^ n : Nat) : Int) = NN at *
    try simp [-dSeq, and_assoc]
    rw [dSeq]
    try simp [-dSeq, and_assoc, c1]
    refine sh _ ?_
    try simp [-dSeq, and_assoc, c2]
    refine ⟨cdiv2, ?_⟩
    rw [← eq1]
    exact hN _ ⟨_, _, rfl⟩
theorem enum_range (N : Nat) (f : Nat → PyData) : enumD ((List.range N).map f) = (List.range N).map fun i => PyData.tuple [.int (i : Nat), f i] := by
  unfold enumD
  rw [List.length_map, List.length_range]
  refine List.map_congr_left fun i hi => ?_
  have hi := List.mem_range.mp hi
  simp [List.getD, List.getElem?_map, List.getElem?_range hi]
theorem rows_of {v : Val} {n : Nat} (h : toL v = some ((rowsN n).map TI)) {env : Env} {Φ : Val → Env → Prop} : shR (.v v) env Φ = Φ (.d (.list ((List.range (2 ^ n)).map fun i => TI (rowN n i)))) env := by
  rw [sh_L h, rows_items]
def sp_law_products_passed : FSpec := sp_products_passed
def D_law_products_passed : DS := (dSeq (dAsg (tTup 2 (tCons (tName 2) (tCons (tName 3) tNil))) (dVar 1)) (dSeq (dSet 4 (dC (.int 0))) (dSeq (dFor (dEnum (dCons (dCall 1 sp_law_rows (dCons (dVar 0) dNil)) dNil)) (tTup 2 (tCons (tName 5) (tCons (tName 6) tNil))) (dSeq (dFor (dEnum (dCons (dCall 1 sp_law_rows (dCons (dVar 0) dNil)) dNil)) (tTup 2 (tCons (tName 7) (tCons (tName 8) tNil))) (dSeq (dSet 9 (dBin oSub (dC (.int 1)) (dBin oMul (dC (.int 2)) (dBin oAnd (dBin oIxS (dVar 2) (dVar 5)) (dBin oIxS (dVar 2) (dVar 7)))))) (dSeq (dSet 4 (dBin oAdd (dVar 4) (dBin oDiv (dBin oAdd (dUn oLen (dVar 3)) (dBin oMul (dVar 9) (dCall 2 sp_law_shift (dCons (dVar 3) (dCons (dCall 1 sp_row_place (dCons (dCall 2 sp_law_outer (dCons (dVar 6) (dCons (dVar 8) dNil))) dNil)) dNil))))) (dC (.int 2))))) dNext))) dNext)) (dSeq (dRet (dVar 4)) dNext))))
theorem v_law_products_passed (args : List Val) (Φ : Val → Prop) (h : sp_law_products_passed args Φ) : D_law_products_passed (kRet Φ) (envS ["n", "proof", "f", "g", "found", "i", "a", "j", "b", "sign"] args) := by
  obtain ⟨n, f, g, rfl, hn, hf, hg, hΦ⟩ := h
  have nn : n * n ≤ 4 * 4 := Nat.mul_le_mul hn hn
  have p4 : 2 ^ n ≤ 2 ^ 4 := two_le hn
  have rws : ∀ Ψ : Val → Prop, (∀ v, toL v = some ((rowsN n).map TI) → Ψ v) → sp_law_rows [.d (.int n)] Ψ := fun Ψ h => ⟨n, rfl, by omega, h⟩
  rw [D_law_products_passed, dSeq]
  try simp [-dSeq, and_assoc, envS, prD]
  rw [dSeq]
  try simp [-dSeq, and_assoc]
  rw [dSeq]
  try simp [-dSeq, and_assoc]
  refine rws _ fun v hv => ?_
  show shR (.v v) _ _
  rw [rows_of hv]
  try simp [-dSeq, and_assoc, enum_range]
  refine forW_range _ (2 ^ n) (fun j e => ∃ z5 z6 z7 z8 z9, e = [some (.d (.int n)), some (.d (prD n (n * n) f g)), some (.d (TI (tab (2 ^ n) f))), some (.d (TI (tab (2 ^ (n * n)) g))), some (.d (.int (sumN j fun a => sumN (2 ^ n) fun b => CPq n f g a b))), z5, z6, z7, z8, z9]) ?_ ?_ _ ⟨none, none, none, none, none, by simp [sumN, prD]⟩
  · rintro e ⟨z5, z6, z7, z8, z9, rfl⟩
    simp
    exact hΦ
  · rintro a ha e ⟨z5, z6, z7, z8, z9, rfl⟩ N hN
    try simp [-dSeq, and_assoc]
    rw [dSeq]
    try simp [-dSeq, and_assoc]
    refine rws _ fun v hv => ?_
    show shR (.v v) _ _
    rw [rows_of hv]
    try simp [-dSeq, and_assoc, enum_range]
    refine forW_range _ (2 ^ n) (fun j e => ∃ z7 z8 z9, e = [some (.d (.int n)), some (.d (prD n (n * n) f g)), some (.d (TI (tab (2 ^ n) f))), some (.d (TI (tab (2 ^ (n * n)) g))), some (.d (.int ((sumN a fun a => sumN (2 ^ n) fun b => CPq n f g a b) + sumN j fun b => CPq n f g a b))), some (.d (.int a)), some (.d (TI (rowN n a))), z7, z8, z9]) ?_ ?_ _ ⟨z7, z8, z9, by simp [sumN, prD]⟩
    · rintro e ⟨z7, z8, z9, rfl⟩
      try simp
      exact hN _ ⟨_, _, _, _, _, rfl⟩
    · rintro b hb e ⟨z7, z8, z9, rfl⟩ M hM
      obtain ⟨l1, q1⟩ := outP_ok n a b
      have ou : ∀ Ψ : Val → Prop, Ψ (.d (TI (outR (rowN n a) (rowN n b)))) → sp_law_outer [.d (TI (rowN n a)), .d (TI (rowN n b))] Ψ := fun Ψ h => ⟨_, _, rfl, by rw [rowN_length]; omega, by rw [rowN_length]; omega, rowN_bits _ _, rowN_bits _ _, h⟩
      have sh : ∀ Ψ : Val → Prop, Ψ (.d (.int (shifts (n * n) g (outP n a b)))) → sp_law_shift [.d (TI (tab (2 ^ (n * n)) g)), .d (.int (outP n a b))] Ψ := fun Ψ h => ⟨n * n, outP n a b, g, rfl, by omega, l1, hg, h⟩
      have fb : f a * f b = 0 ∨ f a * f b = 1 := by rcases hf a ha with e | e <;> rcases hf b hb with e' | e' <;> rw [e, e'] <;> simp
      have c1 : CM 2 (f a * f b) := cm_small (by omega)
      have c2 : CM (1 - 2 * (f a * f b)) (shifts (n * n) g (outP n a b)) := by rcases fb with e | e <;> rw [e] <;> exact cm_small (by omega)
      have eq1 : ∀ s : Int, s + sumN (b + 1) (fun b => CPq n f g a b) = s + sumN b (fun b => CPq n f g a b) + (((2 ^ (n * n) : Nat) : Int) + (1 - 2 * (f a * f b)) * shifts (n * n) g (outP n a b)) / 2 := fun s => by
        simp only [sumN, CPq]; omega
      try simp [-dSeq, and_assoc]
      rw [dSeq]
      try simp [-dSeq, and_assoc, stepped_get ha, stepped_get hb]
      rw [and_bit (hf a ha) (hf b hb)]
      try simp [-dSeq, and_assoc, c1]
      rw [dSeq]
      try simp [-dSeq, and_assoc, tab_length]
      refine ou _ ?_
      try simp [-dSeq, and_assoc]
      refine ⟨_, rfl, ?_⟩
      rw [q1]
      try simp [-dSeq, and_assoc]
      refine sh _ ?_
      try simp [-dSeq, and_assoc, c2]
      refine ⟨cdiv2, ?_⟩
      have hM2 := fun z7 z8 z9 => hM _ ⟨z7, z8, z9, rfl⟩
      simp only [eq1] at hM2
      push_cast at hM2
      exact hM2 _ _ _
def sp_law_row_passed : FSpec := fun args Φ => ∃ (n : Nat) (es : List EqS) (f g : Nat → Int) (r : List Int), args = [.d (sysD n es), .d (prD n (n * n) f g), .d (TI r)] ∧ SysOk n es ∧ es.length ≤ 1000 ∧ n ≤ 4 ∧ BitF (2 ^ n) f ∧ BitF (2 ^ (n * n)) g ∧ Φ (.d (.int (RP n es f g r)))
def D_law_row_passed : DS := (dSeq (dAsg (tTup 2 (tCons (tName 3) (tCons (tName 4) tNil))) (dVar 1)) (dSeq (dAsg (tTup 3 (tCons (tName 5) (tCons (tName 6) (tCons (tName 7) tNil)))) (dCall 2 sp_law_sum (dCons (dVar 0) (dCons (dVar 2) dNil)))) (dSeq (dSet 8 (dBin oMul (dCall 2 sp_law_shift (dCons (dVar 3) (dCons (dCall 1 sp_row_place (dCons (dVar 6) dNil)) dNil))) (dCall 2 sp_law_shift (dCons (dVar 4) (dCons (dCall 1 sp_row_place (dCons (dVar 7) dNil)) dNil))))) (dSeq (dRet (dBin oDiv (dBin oAdd (dBin oMul (dUn oLen (dVar 3)) (dUn oLen (dVar 4))) (dBin oMul (dBin oSub (dC (.int 1)) (dBin oMul (dC (.int 2)) (dVar 5))) (dVar 8))) (dC (.int 2)))) dNext))))
theorem v_law_row_passed (args : List Val) (Φ : Val → Prop) (h : sp_law_row_passed args Φ) : D_law_row_passed (kRet Φ) (envS ["system", "proof", "r", "f", "g", "c", "s", "laid", "both"] args) := by
  obtain ⟨n, es, f, g, r, rfl, he, hl, hn, hf, hg, hΦ⟩ := h
  have nn : n * n ≤ 4 * 4 := Nat.mul_le_mul hn hn
  have p1 : 2 ^ n ≤ 2 ^ 4 := two_le hn
  have p2 : 2 ^ (n * n) ≤ 2 ^ 16 := two_le nn
  have b3 := eqsSum_bit n es r
  obtain ⟨l1, _, q1⟩ := pfun_ok (bit3_s b3 n)
  obtain ⟨l2, _, q2⟩ := pfun_ok (bit3_l b3 (n * n))
  have B1 := shifts_bound hf l1
  have B2 := shifts_bound hg l2
  have su : ∀ Ψ : Val → Prop, Ψ (.d (sum3D n (eqsSum n es r))) → sp_law_sum [.d (sysD n es), .d (TI r)] Ψ := fun Ψ h => ⟨n, es, r, rfl, he, hl, by omega, h⟩
  have s1 : ∀ Ψ : Val → Prop, Ψ (.d (.int (shifts n f (pfun n (eqsSum n es r).2.1)))) → sp_law_shift [.d (TI (tab (2 ^ n) f)), .d (.int (pfun n (eqsSum n es r).2.1))] Ψ := fun Ψ h => ⟨n, _, f, rfl, by omega, l1, hf, h⟩
  have s2 : ∀ Ψ : Val → Prop, Ψ (.d (.int (shifts (n * n) g (pfun (n * n) (eqsSum n es r).2.2)))) → sp_law_shift [.d (TI (tab (2 ^ (n * n)) g)), .d (.int (pfun (n * n) (eqsSum n es r).2.2))] Ψ := fun Ψ h => ⟨n * n, _, g, rfl, by omega, l2, hg, h⟩
  unfold RP at hΦ
  unfold sum3D at su
  generalize eqsSum n es r = a at *
  generalize shifts n f (pfun n a.2.1) = S1 at *
  generalize shifts (n * n) g (pfun (n * n) a.2.2) = S2 at *
  have c0 : CM S1 S2 := cm_small (by omega)
  have c1 : CM ((2 ^ n : Nat) : Int) ((2 ^ (n * n) : Nat) : Int) := cm_small (by omega)
  have c2 : CM 2 a.1 := cm_small (by decide)
  have c3 : CM (1 - 2 * a.1) (S1 * S2) := by rcases b3.1 with e | e <;> rw [e] <;> exact cm_small (by decide)
  have t1 : ((tab (2 ^ n) f).length : Int) = ((2 ^ n : Nat) : Int) := by rw [tab_length]
  have t2 : ((tab (2 ^ (n * n)) g).length : Int) = ((2 ^ (n * n) : Nat) : Int) := by rw [tab_length]
  generalize ((2 ^ n : Nat) : Int) = N1 at *
  generalize ((2 ^ (n * n) : Nat) : Int) = N2 at *
  rw [D_law_row_passed, dSeq]
  try simp [-dSeq, and_assoc, envS, prD]
  rw [dSeq]
  try simp [-dSeq, and_assoc]
  refine su _ ?_
  try simp [-dSeq, and_assoc]
  rw [dSeq]
  try simp [-dSeq, and_assoc]
  refine ⟨_, rfl, ?_⟩
  rw [q1]
  try simp [-dSeq, and_assoc]
  refine s1 _ ?_
  try simp [-dSeq, and_assoc]
  refine ⟨_, rfl, ?_⟩
  rw [q2]
  try simp [-dSeq, and_assoc]
  refine s2 _ ?_
  try simp [-dSeq, and_assoc, c0]
  rw [dSeq]
  try simp [-dSeq, and_assoc, c1, c2, c3, t1, t2]
  exact ⟨cdiv2, hΦ⟩
def sp_law_equations_passed : FSpec := sp_equations_passed
def D_law_equations_passed : DS := (dSeq (dRet (dUn oSum (dLc [2] (dSeqI (dCall 1 sp_law_rows (dCons (dUn oLen (dBin oIxS (dVar 0) (dC (.int 1)))) dNil))) (tName 2) dYes (dCall 3 sp_law_row_passed (dCons (dVar 0) (dCons (dVar 1) (dCons (dVar 2) dNil))))))) dNext)
theorem v_law_equations_passed (args : List Val) (Φ : Val → Prop) (h : sp_law_equations_passed args Φ) : D_law_equations_passed (kRet Φ) (envS ["system", "proof", "r"] args) := by
  obtain ⟨n, es, f, g, rfl, he, hl, hn, hf, hg, hΦ⟩ := h
  have nn : n * n ≤ 4 * 4 := Nat.mul_le_mul hn hn
  have p12 : 2 ^ es.length ≤ 2 ^ 12 := two_le hl
  have rws : ∀ Ψ : Val → Prop, (∀ v, toL v = some ((rowsN es.length).map TI) → Ψ v) → sp_law_rows [.d (.int es.length)] Ψ := fun Ψ h => ⟨es.length, rfl, by omega, h⟩
  rw [D_law_equations_passed, dSeq]
  try simp [-dSeq, and_assoc, envS, sysD]
  refine rws _ fun v hv => ?_
  show shR (.v v) _ _
  rw [rows_of hv]
  try simp [-dSeq, and_assoc]
  refine compW_tab _ (fun k => I (RP n es f g (rowN es.length k))) (by omega) (fun k hk M hM => ?_) ?_
  · try simp
    exact ⟨n, es, f, g, _, rfl, he, by omega, hn, hf, hg, by simpa using hM⟩
  · try simp
    refine sum_tab ?_
    exact hΦ
theorem shl_nat (a : Int) (k : Nat) : a * 2 ^ ((k : Nat) : Int).toNat = a * ((2 ^ k : Nat) : Int) := by rw [Int.toNat_natCast, two_cast]
def sp_law_counts : FSpec := sp_passed_counts
def D_law_counts : DS := (dSeq (dPar2 2 3 (dBin oIxS (dVar 0) (dC (.int 0))) (dUn oLen (dBin oIxS (dVar 0) (dC (.int 1))))) (dSeq (dSet 4 (dBin oShl (dCall 1 sp_law_sums_passed (dCons (dBin oIxS (dVar 1) (dC (.int 0))) dNil)) (dBin oAdd (dBin oMul (dBin oMul (dC (.int 2)) (dVar 2)) (dVar 2)) (dVar 3)))) (dSeq (dSet 5 (dBin oShl (dCall 1 sp_law_sums_passed (dCons (dBin oIxS (dVar 1) (dC (.int 1))) dNil)) (dBin oAdd (dBin oMul (dC (.int 2)) (dVar 2)) (dVar 3)))) (dSeq (dSet 6 (dBin oShl (dCall 2 sp_law_products_passed (dCons (dVar 2) (dCons (dVar 1) dNil))) (dBin oAdd (dBin oMul (dVar 2) (dVar 2)) (dVar 3)))) (dSeq (dRet (dTup (dCons (dVar 4) (dCons (dVar 5) (dCons (dVar 6) (dCons (dBin oShl (dCall 2 sp_law_equations_passed (dCons (dVar 0) (dCons (dVar 1) dNil))) (dBin oAdd (dVar 2) (dBin oMul (dVar 2) (dVar 2)))) dNil)))))) dNext)))))
theorem v_law_counts (args : List Val) (Φ : Val → Prop) (h : sp_law_counts args Φ) : D_law_counts (kRet Φ) (envS ["system", "proof", "n", "m", "first", "second", "third"] args) := by
  obtain ⟨n, es, f, g, rfl, he, hl, hn, hf, hg, hΦ⟩ := h
  have nn : n * n ≤ 4 * 4 := Nat.mul_le_mul hn hn
  have e1 : 2 * (n : Int) * n + es.length = ((2 * n * n + es.length : Nat) : Int) := by push_cast; rfl
  have e2 : 2 * (n : Int) + es.length = ((2 * n + es.length : Nat) : Int) := by push_cast; rfl
  have e3 : (n : Int) * n + es.length = ((n * n + es.length : Nat) : Int) := by push_cast; rfl
  have e4 : (n : Int) + n * n = ((n + n * n : Nat) : Int) := by push_cast; rfl
  have m2 : 2 * n * n ≤ 2 * 16 := by rw [Nat.mul_assoc]; omega
  have k1 : ∀ Ψ : Val → Prop, Ψ (.d (.int (SP n f))) → sp_law_sums_passed [.d (TI (tab (2 ^ n) f))] Ψ := fun Ψ h => ⟨n, f, rfl, by omega, hf, h⟩
  have k2 : ∀ Ψ : Val → Prop, Ψ (.d (.int (SP (n * n) g))) → sp_law_sums_passed [.d (TI (tab (2 ^ (n * n)) g))] Ψ := fun Ψ h => ⟨n * n, g, rfl, by omega, hg, h⟩
  have k3 : ∀ Ψ : Val → Prop, Ψ (.d (.int (PP n f g))) → sp_law_products_passed [.d (.int n), .d (prD n (n * n) f g)] Ψ := fun Ψ h => ⟨n, f, g, rfl, hn, hf, hg, h⟩
  have k4 : ∀ Ψ : Val → Prop, Ψ (.d (.int (EP n es f g))) → sp_law_equations_passed [.d (sysD n es), .d (prD n (n * n) f g)] Ψ := fun Ψ h => ⟨n, es, f, g, rfl, he, hl, hn, hf, hg, h⟩
  have pb : ∀ a b c : Nat, a ≤ 16 → b ≤ 16 → c ≤ 16 → ((2 ^ a : Nat) : Int) * (((2 ^ b : Nat) : Int) * ((2 ^ c : Nat) : Int)) ≤ ((2 ^ 48 : Nat) : Int) := fun a b c ha hb hc => by
    have : 2 ^ a * (2 ^ b * 2 ^ c) ≤ 2 ^ 48 := by
      rw [← Nat.pow_add, ← Nat.pow_add]
      exact two_le (by omega)
    rw [← Int.natCast_mul, ← Int.natCast_mul]
    exact Int.ofNat_le.mpr this
  have pb2 : ∀ a b : Nat, a ≤ 16 → b ≤ 16 → ((2 ^ a : Nat) : Int) * ((2 ^ b : Nat) : Int) ≤ ((2 ^ 48 : Nat) : Int) := fun a b ha hb => by
    have : 2 ^ a * 2 ^ b ≤ 2 ^ 48 := by
      rw [← Nat.pow_add]
      exact two_le (by omega)
    rw [← Int.natCast_mul]
    exact Int.ofNat_le.mpr this
  have s1 := SP_bound hf
  have s2 := SP_bound hg
  have s3 := PP_bound hf hg
  have s4 := EP_bound (es := es) hf hg
  have b1 : (SP n f).natAbs < 2 ^ 64 := by
    have := pb2 n n (by omega) (by omega)
    omega
  have b2 : (SP (n * n) g).natAbs < 2 ^ 64 := by
    have := pb2 (n * n) (n * n) (by omega) (by omega)
    omega
  have b3 : (PP n f g).natAbs < 2 ^ 64 := by
    have := pb n n (n * n) (by omega) (by omega) (by omega)
    omega
  have b4 : (EP n es f g).natAbs < 2 ^ 64 := by
    have := pb es.length n (n * n) (by omega) (by omega) (by omega)
    omega
  have c1 : CM 2 (n : Int) := cm_small (by omega)
  have c2 : CM (2 * (n : Int)) n := cm_small (by omega)
  have c3 : CM (n : Int) n := cm_small (by omega)
  clear s1 s2 s3 s4 pb pb2
  unfold countsD at hΦ
  rw [← shl_nat, ← shl_nat, ← shl_nat, ← shl_nat, ← e1, ← e2, ← e3, ← e4] at hΦ
  generalize SP n f = S1 at *
  generalize SP (n * n) g = S2 at *
  generalize PP n f g = S3 at *
  generalize EP n es f g = S4 at *
  have d1 : CPow S1 (2 * (n : Int) * n + es.length) := ⟨by omega, by omega, b1⟩
  have d2 : CPow S2 (2 * (n : Int) + es.length) := ⟨by omega, by omega, b2⟩
  have d3 : CPow S3 ((n : Int) * n + es.length) := ⟨by omega, by omega, b3⟩
  have d4 : CPow S4 ((n : Int) + n * n) := ⟨by omega, by omega, b4⟩
  rw [D_law_counts, dSeq]
  try simp [-dSeq, and_assoc, envS, sysD]
  rw [dSeq]
  try simp [-dSeq, and_assoc, prD, c1, c2, c3]
  refine k1 _ ?_
  try simp [-dSeq, and_assoc, c1, c2, c3, d1]
  rw [dSeq]
  try simp [-dSeq, and_assoc, c1, c2, c3]
  refine k2 _ ?_
  try simp [-dSeq, and_assoc, c1, c2, c3, d2]
  rw [dSeq]
  try simp [-dSeq, and_assoc, c1, c2, c3]
  refine k3 _ ?_
  try simp [-dSeq, and_assoc, c1, c2, c3, d3]
  rw [dSeq]
  try simp [-dSeq, and_assoc, c1, c2, c3]
  refine k4 _ ?_
  try simp [-dSeq, and_assoc, c1, c2, c3, d4]
  exact hΦ
end Ev
set_option Elab.async false
set_option linter.all false
set_option maxRecDepth 100000
/-! V25: sum tables, proofs of rows. -/
namespace Ev
open PySem PySem.Spec PyProof.Rows L2

/-! ### plain -/
theorem tab_add (a b : Nat) (f : Nat → Int) : tab (a + b) f = tab a f ++ tab b fun i => f (a + i) := by
  unfold tab
  rw [List.range_add, List.map_append, List.map_map]
  rfl
/-- the sum table of a row -/
def stab (xs : List Int) : List Int := tab (2 ^ xs.length) (par xs.length (plc xs))
theorem par_plc {xs : List Int} (h : Bits xs) (x : Nat) : par xs.length (plc xs) x = prodR xs (rowN xs.length x) := by
  unfold par
  rw [← (plc_ok h).2.1]
theorem stab_cons {b : Int} {ys : List Int} (h : Bits (b :: ys)) : stab (b :: ys) = stab ys ++ (stab ys).map fun i => (i + b) % 2 := by
  unfold stab
  rw [List.length_cons, Nat.pow_succ, show 2 ^ ys.length * 2 = 2 ^ ys.length + 2 ^ ys.length by omega, tab_add, tab_map]
  congr 1
  · refine tab_congr fun x hx => ?_
    have e := par_plc h x
    rw [List.length_cons] at e
    rw [e, par_plc h.tail, rowN_lo hx, prodR_cons]
    rcases prodR_bit ys (rowN ys.length x) with q | q <;> rw [q] <;> omega
  · refine tab_congr fun x hx => ?_
    have e := par_plc h (2 ^ ys.length + x)
    rw [List.length_cons] at e
    rw [e, par_plc h.tail, Nat.add_comm (2 ^ ys.length) x, rowN_hi hx, prodR_cons]
    congr 1
    omega
theorem stab_row {n p : Nat} (hp : p < 2 ^ n) : stab (rowN n p) = tab (2 ^ n) (par n p) := by
  unfold stab plc
  rw [rowN_length, place_rowN n p hp]; rfl
theorem plc_row {n p : Nat} (hp : p < 2 ^ n) : plc (rowN n p) = p := by
  unfold plc; rw [place_rowN n p hp]; rfl
theorem stab_bit (xs : List Int) : BitF (2 ^ xs.length) (par xs.length (plc xs)) := fun i _ => prodR_bit _ _
theorem rowN_nought (n : Nat) : rowN n 0 = List.replicate n 0 := by
  rw [rowN_tab]; simp [List.map_const']
theorem par_unit : ∀ {n p i : Nat}, i < n → par n p (2 ^ (n - 1 - i)) = ((p / 2 ^ (n - 1 - i) % 2 : Nat) : Int)
  | 0, _, _, h => by omega
  | n + 1, p, 0, _ => by
    have e : 2 ^ (n + 1 - 1 - 0) = 0 + 2 ^ n := by simp
    unfold par
    rw [e, rowN_hi (Nat.two_pow_pos n), rowN_cons, prodR_cons, rowN_nought, prodR_comm, prodR_zero]
    simp
  | n + 1, p, i + 1, h => by
    have e : n + 1 - 1 - (i + 1) = n - 1 - i := by omega
    have lt : 2 ^ (n - 1 - i) < 2 ^ n := Nat.pow_lt_pow_right (by decide) (by omega)
    have ih := @par_unit n p i (by omega)
    unfold par at ih ⊢
    rw [e, rowN_lo lt, rowN_cons, prodR_cons, ih]
    omega
theorem units_row {n p : Nat} : tab n (fun i => par n p (2 ^ (n - 1 - i))) = rowN n p := by
  rw [rowN_tab]
  unfold tab
  refine List.map_congr_left fun i hi => ?_
  exact par_unit (List.mem_range.mp hi)
theorem units_stab {xs : List Int} (h : Bits xs) : tab xs.length (fun i => par xs.length (plc xs) (2 ^ (xs.length - 1 - i))) = xs := by
  rw [units_row]; exact (plc_ok h).2.1.symm
def proofD (xs : List Int) : PyData := T [TI (stab xs), TI (stab (outR xs xs))]
theorem stab_outR {xs : List Int} {n : Nat} (hl : xs.length = n) : stab (outR xs xs) = tab (2 ^ (n * n)) (par (n * n) (plc (outR xs xs))) := by
  unfold stab; rw [outR_length, hl]
theorem proofD_eq {xs : List Int} {n : Nat} (hl : xs.length = n) : proofD xs = prD n (n * n) (par n (plc xs)) (par (n * n) (plc (outR xs xs))) := by
  unfold proofD prD
  rw [stab_outR hl]
  subst hl
  rfl
theorem lay_proofD (xs : List Int) : Lay 2 (proofD xs) := lay_t fun x hx => by
  simp at hx
  rcases hx with rfl | rfl <;> exact lay_TI _

/-! ### defs -/
def sp_sum_table : FSpec := fun args Φ => ∃ xs : List Int, args = [.d (TI xs)] ∧ Bits xs ∧ xs.length ≤ 16 ∧ Φ (.d (TI (stab xs)))
def D_sum_table : DS := (dSeq (dSet 1 (dLst (dCons (dC (.int 0)) dNil))) (dSeq (dFor (dSeqI (dUn oRev (dVar 0))) (tName 2) (dSeq (dSet 1 (dBin oAdd (dVar 1) (dLc [3] (dSeqI (dVar 1)) (tName 3) dYes (dBin oMod (dBin oAdd (dVar 3) (dVar 2)) (dC (.int 2)))))) dNext)) (dSeq (dRet (dUn oTuple (dVar 1))) dNext)))
theorem v_sum_table (args : List Val) (Φ : Val → Prop) (h : sp_sum_table args Φ) : D_sum_table (kRet Φ) (envS ["s", "found", "bit", "item"] args) := by
  obtain ⟨xs, rfl, hb, hl, hΦ⟩ := h
  simp [D_sum_table, envS, ← List.map_reverse]
  refine forW_map PyData.int (fun r e => ∃ (v : Val) (ys : List Int) (z2 : Option Val), e = [some (.d (TI xs)), some v, z2, none] ∧ (v = .own ((stab ys).map .int) ∨ v = .d (.list ((stab ys).map .int))) ∧ r.reverse ++ ys = xs) ?_ ?_ xs.reverse _ ⟨_, [], none, rfl, .inl ?_, by simp⟩
  · rintro e ⟨v, ys, z2, rfl, hv, h⟩
    have h : ys = xs := by simpa using h
    subst h
    rcases hv with rfl | rfl
    · simp; exact hΦ
    · simp; exact hΦ
  · rintro x r e ⟨v, ys, z2, rfl, hv, h⟩ N hN
    have hc : r.reverse ++ (x :: ys) = xs := by simpa using h
    have bb : Bits (x :: ys) := fun b hb' => hb b (by rw [← hc]; exact List.mem_append_right _ hb')
    have ly : (x :: ys).length ≤ 16 := by have := congrArg List.length hc; simp at this; simp; omega
    have sl : (stab ys).length ≤ 65536 := by
      have : 2 ^ ys.length ≤ 2 ^ 16 := two_le (by simp at ly; omega)
      unfold stab; rw [tab_length]; exact this
    have cw : ∀ (e0 e1 : Val) (Ψ : List PyData → Env → Prop), Ψ (((stab ys).map fun i => (i + x) % 2).map .int) [some e0, some e1, some (.d (I x)), none] → compW (tName 3) dYes (dBin oMod (dBin oAdd (dVar 3) (dVar 2)) (dC (.int 2))) [3] ((stab ys).map .int) [some e0, some e1, some (.d (I x)), none] [] Ψ := fun e0 e1 Ψ h => by
      refine compW_all PyData.int (fun i => I ((i + x) % 2)) _ (by omega) (fun i hi M hM => ?_) ?_
      · simpa using hM
      · rw [List.map_map] at h; exact h
    rcases hv with rfl | rfl
    · simp [-List.map_map]
      refine cw _ _ _ ?_
      simp [-List.map_map]
      refine ⟨by omega, hN _ ⟨_, x :: ys, _, rfl, .inl ?_, hc⟩⟩
      rw [stab_cons bb]
      simp
    · simp [-List.map_map]
      refine cw _ _ _ ?_
      simp [-List.map_map]
      refine ⟨by omega, hN _ ⟨_, x :: ys, _, rfl, .inl ?_, hc⟩⟩
      rw [stab_cons bb]
      simp
  · rfl
def sp_unit_rows : FSpec := fun args Φ => ∃ (n : Nat) (t : Nat → Int), args = [.d (TI (tab (2 ^ n) t))] ∧ n ≤ 16 ∧ Φ (.d (TI (tab n fun i => t (2 ^ (n - 1 - i)))))
def D_unit_rows : DS := (dSeq (dSet 1 (dCall 1 sp_table_letters (dCons (dVar 0) dNil))) (dSeq (dRet (dUn oTuple (dLc [2] (dRng1 (dCons (dVar 1) dNil)) (tName 2) dYes (dBin oIxS (dVar 0) (dBin oShl (dC (.int 1)) (dBin oSub (dBin oSub (dVar 1) (dC (.int 1))) (dVar 2))))))) dNext))
theorem v_unit_rows (args : List Val) (Φ : Val → Prop) (h : sp_unit_rows args Φ) : D_unit_rows (kRet Φ) (envS ["table", "n", "i"] args) := by
  obtain ⟨n, t, rfl, hn, hΦ⟩ := h
  rw [D_unit_rows, dSeq]
  try simp [-dSeq, and_assoc, envS]
  refine ⟨n, t, rfl, by omega, ?_⟩
  try simp [-dSeq, and_assoc]
  rw [dSeq]
  try simp [-dSeq, and_assoc]
  refine ⟨by omega, ?_⟩
  refine compW_tab _ (fun i => I (t (2 ^ (n - 1 - i)))) (by omega) (fun i hi M hM => ?_) ?_
  · have e : (1 : Int) * 2 ^ (n - 1 - i) = ((2 ^ (n - 1 - i) : Nat) : Int) := by rw [Int.one_mul, two_cast]
    have lt : 2 ^ (n - 1 - i) < 2 ^ n := Nat.pow_lt_pow_right (by decide) (by omega)
    simp [and_assoc, -Int.one_mul]
    refine ⟨⟨by omega, by omega, by decide⟩, ?_⟩
    rw [e, stepped_get (f := t) lt]
    exact ⟨_, rfl, hM⟩
  · rw [ints_tab]
    exact hΦ
def sp_sum_row : FSpec := fun args Φ => ∃ xs : List Int, args = [.d (TI (stab xs))] ∧ Bits xs ∧ xs.length ≤ 16 ∧ Φ (.d (TI xs))
def D_sum_row : DS := (dSeq (dSet 1 (dCall 1 sp_unit_rows (dCons (dVar 0) dNil))) (dSeq (dRet (dIf (dTst (dBin oEq (dCall 1 sp_sum_table (dCons (dVar 1) dNil)) (dVar 0))) (dVar 1) (dC .none))) dNext))
theorem v_sum_row (args : List Val) (Φ : Val → Prop) (h : sp_sum_row args Φ) : D_sum_row (kRet Φ) (envS ["table", "found"] args) := by
  obtain ⟨xs, rfl, hb, hl, hΦ⟩ := h
  rw [D_sum_row, dSeq]
  try simp [-dSeq, and_assoc, envS]
  refine ⟨xs.length, _, rfl, by omega, ?_⟩
  rw [units_stab hb]
  try simp [-dSeq, and_assoc]
  rw [dSeq]
  try simp [-dSeq, and_assoc]
  refine ⟨xs, rfl, hb, hl, ?_⟩
  simp [eq_same (lay_TI (stab xs)) (by decide)]
  exact hΦ
def sp_proof_of : FSpec := fun args Φ => ∃ (n : Int) (xs : List Int), args = [.d (.int n), .d (TI xs)] ∧ Bits xs ∧ xs.length ≤ 4 ∧ Φ (.d (proofD xs))
def D_proof_of : DS := (dSeq (dRet (dTup (dCons (dCall 1 sp_sum_table (dCons (dVar 1) dNil)) (dCons (dCall 1 sp_sum_table (dCons (dCall 2 sp_laid_product (dCons (dVar 1) (dCons (dVar 1) dNil))) dNil)) dNil)))) dNext)
theorem v_proof_of (args : List Val) (Φ : Val → Prop) (h : sp_proof_of args Φ) : D_proof_of (kRet Φ) (envS ["n", "u"] args) := by
  obtain ⟨n, xs, rfl, hb, hl, hΦ⟩ := h
  have ll : xs.length * xs.length ≤ 4 * 4 := Nat.mul_le_mul hl hl
  simp [D_proof_of, envS]
  refine ⟨xs, rfl, hb, by omega, ?_⟩
  simp
  refine ⟨xs, xs, rfl, by omega, by omega, hb, hb, ?_⟩
  simp
  refine ⟨_, rfl, outR_bits hb hb, by rw [outR_length]; omega, ?_⟩
  simp
  exact hΦ
def sp_proof_row : FSpec := fun args Φ => ∃ xs : List Int, args = [.d (proofD xs)] ∧ Bits xs ∧ xs.length ≤ 4 ∧ Φ (.d (TI xs))
def D_proof_row : DS := (dSeq (dSet 1 (dCall 1 sp_sum_row (dCons (dBin oIxS (dVar 0) (dC (.int 0))) dNil))) (dSeq (dRet (dIf (dAndT (dTst (dBin oIsNot (dVar 1) (dC .none))) (dTst (dBin oEq (dCall 2 sp_proof_of (dCons (dCall 1 sp_table_letters (dCons (dBin oIxS (dVar 0) (dC (.int 0))) dNil)) (dCons (dVar 1) dNil))) (dVar 0)))) (dVar 1) (dC .none))) dNext))
theorem v_proof_row (args : List Val) (Φ : Val → Prop) (h : sp_proof_row args Φ) : D_proof_row (kRet Φ) (envS ["proof", "u"] args) := by
  obtain ⟨xs, rfl, hb, hl, hΦ⟩ := h
  rw [D_proof_row, dSeq]
  try simp [-dSeq, and_assoc, envS, proofD]
  refine ⟨xs, rfl, hb, by omega, ?_⟩
  try simp [-dSeq, and_assoc]
  rw [dSeq]
  try simp [-dSeq, and_assoc]
  refine ⟨xs.length, _, rfl, by omega, ?_⟩
  try simp [-dSeq, and_assoc]
  refine ⟨_, xs, rfl, hb, hl, ?_⟩
  have := lay_proofD xs
  unfold proofD at this
  simp [proofD, eq_same this (by decide)]
  exact hΦ
def sp_is_bit : FSpec := fun args Φ => ∃ b : Int, args = [.d (.int b)] ∧ (b = 0 ∨ b = 1) ∧ Φ (.d (.bool true))
def D_is_bit : DS := (dSeq (dRet (dAndV (dUn (oIsi "int") (dVar 0)) (dAndV (dNotV (dUn (oIsi "bool") (dVar 0))) (dBin (oInG false) (dVar 0) (dTup (dCons (dC (.int 0)) (dCons (dC (.int 1)) dNil))))))) dNext)
theorem v_is_bit (args : List Val) (Φ : Val → Prop) (h : sp_is_bit args Φ) : D_is_bit (kRet Φ) (envS ["value"] args) := by
  obtain ⟨b, rfl, hb, hΦ⟩ := h
  have e : oInG false (.d (.int b)) (.d (T [I 0, I 1])) fun z => Φ z := by
    refine .inr ⟨.int b, _, rfl, rfl, rfl, rfl, ?_⟩
    rcases hb with rfl | rfl
    · simpa [PyData.eqv] using hΦ
    · simpa [PyData.eqv] using hΦ
  simp [D_is_bit, envS, oIsi, isi_i, isi_ib]
  exact e
def sp_table_error : FSpec := fun args Φ => ∃ (n : Nat) (t : Nat → Int), args = [.d (.int n), .d (TI (tab (2 ^ n) t))] ∧ n ≤ 16 ∧ BitF (2 ^ n) t ∧ Φ (.d .none)
def D_table_error : DS := (dSeq (dIfS (dOrT (dNotT (dTru (dUn (oIsi "tuple") (dVar 1)))) (dTst (dBin oNe (dUn oLen (dVar 1)) (dBin oShl (dC (.int 1)) (dVar 0))))) (dSeq (dRet (dC (.str "form"))) dNext) dNext) (dSeq (dFor (dEnum (dCons (dVar 1) dNil)) (tTup 2 (tCons (tName 2) (tCons (tName 3) tNil))) (dSeq (dIfS (dNotT (dTru (dCall 1 sp_is_bit (dCons (dVar 3) dNil)))) (dSeq (dRet (dTup (dCons (dC (.str "bit")) (dCons (dVar 2) dNil)))) dNext) dNext) dNext)) (dSeq (dRet (dC .none)) dNext)))
theorem v_table_error (args : List Val) (Φ : Val → Prop) (h : sp_table_error args Φ) : D_table_error (kRet Φ) (envS ["n", "value", "place", "item"] args) := by
  obtain ⟨n, t, rfl, hn, ht, hΦ⟩ := h
  have tl : ((tab (2 ^ n) t).length : Int) = ((2 ^ n : Nat) : Int) := by rw [tab_length]
  have e : (1 : Int) * 2 ^ ((n : Int)).toNat = ((2 ^ n : Nat) : Int) := by rw [Int.one_mul, Int.toNat_natCast, two_cast]
  rw [D_table_error, dSeq]
  try simp [-dSeq, and_assoc, envS, oIsi, isi_t]
  refine ⟨⟨by omega, by omega, by decide⟩, ?_⟩
  rw [← two_cast, tl]
  try simp [-dSeq, and_assoc, oNe_int]
  rw [dSeq]
  try simp [-dSeq, and_assoc, enum_tab]
  refine forW_range _ (2 ^ n) (fun j e => ∃ z2 z3, e = [some (.d (.int n)), some (.d (TI (tab (2 ^ n) t))), z2, z3]) ?_ ?_ _ ⟨none, none, rfl⟩
  · rintro e ⟨z2, z3, rfl⟩
    simp
    exact hΦ
  · rintro j hj e ⟨z2, z3, rfl⟩ N hN
    simp
    refine ⟨_, _, ⟨rfl, rfl⟩, _, _, rfl, rfl, t j, rfl, ht j hj, ?_⟩
    simp
    exact hN _ ⟨_, _, rfl⟩
def sp_proof_error : FSpec := fun args Φ => ∃ (n : Nat) (f g : Nat → Int), args = [.d (.int n), .d (prD n (n * n) f g)] ∧ n ≤ 4 ∧ BitF (2 ^ n) f ∧ BitF (2 ^ (n * n)) g ∧ Φ (.d .none)
def D_proof_error : DS := (dSeq (dIfS (dOrT (dNotT (dTru (dUn (oIsi "tuple") (dVar 1)))) (dTst (dBin oNe (dUn oLen (dVar 1)) (dC (.int 2))))) (dSeq (dRet (dC (.str "form"))) dNext) dNext) (dSeq (dSet 2 (dCall 2 sp_table_error (dCons (dVar 0) (dCons (dBin oIxS (dVar 1) (dC (.int 0))) dNil)))) (dSeq (dIfS (dTst (dBin oIsNot (dVar 2) (dC .none))) (dSeq (dRet (dTup (dCons (dC (.str "f")) (dCons (dVar 2) dNil)))) dNext) dNext) (dSeq (dSet 2 (dCall 2 sp_table_error (dCons (dBin oMul (dVar 0) (dVar 0)) (dCons (dBin oIxS (dVar 1) (dC (.int 1))) dNil)))) (dSeq (dRet (dIf (dTst (dBin oIsNot (dVar 2) (dC .none))) (dTup (dCons (dC (.str "g")) (dCons (dVar 2) dNil))) (dC .none))) dNext)))))
theorem v_proof_error (args : List Val) (Φ : Val → Prop) (h : sp_proof_error args Φ) : D_proof_error (kRet Φ) (envS ["n", "value", "error"] args) := by
  obtain ⟨n, f, g, rfl, hn, hf, hg, hΦ⟩ := h
  have nn : n * n ≤ 4 * 4 := Nat.mul_le_mul hn hn
  have cc : (n : Int) * n = ((n * n : Nat) : Int) := by push_cast; rfl
  rw [D_proof_error, dSeq]
  try simp [-dSeq, and_assoc, envS, oIsi, isi_t, prD, oNe_int]
  rw [dSeq]
  try simp [-dSeq, and_assoc]
  refine ⟨n, f, rfl, by omega, hf, ?_⟩
  try simp [-dSeq, and_assoc]
  rw [dSeq]
  try simp [-dSeq, and_assoc]
  rw [dSeq]
  try simp [-dSeq, and_assoc]
  refine ⟨cm_small (by omega), ?_⟩
  rw [cc]
  refine ⟨n * n, g, rfl, by omega, hg, ?_⟩
  try simp [-dSeq, and_assoc]
  rw [dSeq]
  simp
  exact hΦ
def sp_first_unlike_k82 : FSpec := fun args Φ => ∃ xs : List Int, args = [.d (TI xs), .d (TI xs)] ∧ Φ (.d .none)
def D_first_unlike_k82 : DS := (dSeq (dFor (dEnum (dCons (dVar 0) dNil)) (tTup 2 (tCons (tName 2) (tCons (tName 3) tNil))) (dSeq (dIfS (dTst (dBin oNe (dBin oIxS (dVar 1) (dVar 2)) (dVar 3))) (dSeq (dRet (dVar 2)) dNext) dNext) dNext)) (dSeq (dRet (dC .none)) dNext))
theorem v_first_unlike_k82 (args : List Val) (Φ : Val → Prop) (h : sp_first_unlike_k82 args Φ) : D_first_unlike_k82 (kRet Φ) (envS ["one", "other", "place", "item"] args) := by
  obtain ⟨xs, rfl, hΦ⟩ := h
  obtain ⟨N, t, rfl⟩ : ∃ N t, xs = tab N t := ⟨_, _, tab_of xs⟩
  simp [D_first_unlike_k82, envS, enum_tab]
  refine forW_range _ N (fun j e => ∃ z2 z3, e = [some (.d (TI (tab N t))), some (.d (TI (tab N t))), z2, z3]) ?_ ?_ _ ⟨none, none, rfl⟩
  · rintro e ⟨z2, z3, rfl⟩
    simp
    exact hΦ
  · rintro j hj e ⟨z2, z3, rfl⟩ M hM
    simp [and_assoc, stepped_get hj, oNe_int]
    exact hM _ ⟨_, _, rfl⟩
end Ev
set_option Elab.async false
set_option linter.all false
set_option maxRecDepth 100000
/-! V26: the fault of a proof, answers, drawn systems. -/
namespace Ev
open PySem PySem.Spec PyProof.Rows L2

/-- a comprehension that takes some of its items -/
theorem compW_pick {α : Type} {dt : DT} {dc : DB} {de : DO} {vs : List Nat} {Φ : List PyData → Env → Prop} {env : Env} (f g : α → PyData) :
    ∀ (l : List α) (acc : List PyData), acc.length + l.length ≤ 16777216 →
    (∀ x ∈ l, ∀ (N : PyData → Env → Prop) (S : Env → Prop), N (g x) env → S env →
      dt (f x) env fun e1 => dc e1 fun k e2 => (k = true → de e2 fun r e3 => shR r e3 fun v e4 => ∃ d, v = .d d ∧ N d (wipeE e4 vs)) ∧ (k = false → S (wipeE e2 vs))) →
    (∀ l' : List α, l'.Sublist l → Φ (acc ++ l'.map g) env) → compW dt dc de vs (l.map f) env acc Φ
  | [], acc, _, _, h => by simpa [compW] using h [] (List.Sublist.refl _)
  | x :: xs, acc, hl, hs, h => by
    have hl' : acc.length + (xs.length + 1) ≤ 16777216 := by simpa using hl
    have := hs x (List.mem_cons_self ..) (fun d e => acc.length < 16777216 ∧ compW dt dc de vs (xs.map f) e (acc ++ [d]) Φ) (fun e => compW dt dc de vs (xs.map f) e acc Φ)
      ⟨by omega, compW_pick f g xs (acc ++ [g x]) (by simp; omega) (fun y hy => hs y (List.mem_cons_of_mem _ hy)) fun l' h' => by simpa using h (x :: l') (h'.cons₂ x)⟩
      (compW_pick f g xs acc (by omega) (fun y hy => hs y (List.mem_cons_of_mem _ hy)) fun l' h' => h l' (h'.cons x))
    simpa [compW] using this
/-- enumerate of a list of known items -/
theorem forW_enum {α : Type} {dt : DT} {b : DS} {K : KE} (f : α → PyData) (J : Nat → List α → Env → Prop) (hnil : ∀ k env, J k [] env → K.nx env)
    (hstep : ∀ k x xs env, J k (x :: xs) env → ∀ N : Env → Prop, (∀ e, J (k + 1) xs e → N e) → dt (.tuple [.int (k : Nat), f x]) env fun e1 => b { nx := N, ct := N, bk := K.nx, rt := K.rt } e1)
    (l : List α) (env : Env) (h : J 0 l env) : forW dt b K (enumD (l.map f)) env := by
  unfold enumD
  rw [List.length_map]
  refine forW_range _ l.length (fun i e => J i (l.drop i) e) (fun env h => ?_) (fun i hi env h N hN => ?_) env (by simpa using h)
  · rw [List.drop_length] at h; exact hnil _ _ h
  · rw [List.drop_eq_getElem_cons hi] at h
    have e : (l.map f).getD i PyData.none = f l[i] := by simp [List.getD, hi]
    simp only [e]
    exact hstep i _ _ env h N hN
/-! ### what surely gives one value, and leaves the slots -/
def GV (d : DO) (env : Env) (z : PyData) : Prop := ∀ Ψ : Val → Env → Prop, Ψ (.d z) env → d env fun r e => shR r e Ψ
def GA (ds : DA) (env : Env) (zs : List PyData) : Prop := ∀ Ψ : List Val → Env → Prop, Ψ (zs.map .d) env → ds env Ψ
theorem gv_var {env : Env} {i : Nat} {z : PyData} (h : env[i]? = some (some (.d z))) : GV (dVar i) env z := fun Ψ k => by
  simpa [shR, h] using k
theorem gv_c {env : Env} {z : PyData} : GV (dC z) env z := fun Ψ k => by simpa [shR] using k
theorem ga_nil {env : Env} : GA dNil env [] := fun Ψ k => by simpa using k
theorem ga_cons {env : Env} {d : DO} {ds : DA} {z : PyData} {zs : List PyData} (h : GV d env z) (hs : GA ds env zs) : GA (dCons d ds) env (z :: zs) := fun Ψ k => h _ (hs _ k)
theorem gv_call {env : Env} {n : Nat} {sp : FSpec} {ds : DA} {zs : List PyData} {r : PyData} (h : GA ds env zs) (hn : zs.length = n) (k : ∀ Φ : Val → Prop, Φ (.d r) → sp (zs.map .d) Φ) : GV (dCall n sp ds) env r := fun Ψ q =>
  h _ ⟨by rw [List.length_map, hn], k _ q⟩
theorem datas_map : ∀ zs : List PyData, datas (zs.map .d) = some zs
  | [] => rfl
  | z :: zs => by simp [datas, datas_map zs]
theorem gv_tup {env : Env} {ds : DA} {zs : List PyData} (h : GA ds env zs) (hl : zs.length ≤ 16777216) : GV (dTup ds) env (.tuple zs) := fun Ψ k =>
  h _ ⟨zs, datas_map zs, hl, k⟩
theorem seqI_of {env : Env} {d : DO} {x : PyData} {xs : List PyData} {Φ : List PyData → Env → Prop} (h : GV d env x) (hx : seqD x = some xs) (k : Φ xs env) : dSeqI d env Φ := h _ ⟨x, rfl, xs, hx, k⟩
def ansR (n : Nat) (es : List EqS) : List (List Int) := (rowsN n).filter fun u => es.all fun e => decide (eqV e u = 0)
theorem ansR_mem {n : Nat} {es : List EqS} {u : List Int} : u ∈ ansR n es ↔ u ∈ rowsN n ∧ ∀ e ∈ es, eqV e u = 0 := by
  simp [ansR]
theorem ansR_len (n : Nat) (es : List EqS) : (ansR n es).length ≤ 2 ^ n := by
  unfold ansR
  rw [← rowsN_length n]
  exact List.length_filter_le ..

def sp_proof_fault : FSpec := fun args Φ => ∃ (n : Nat) (es : List EqS) (w : List Int), args = [.d (sysD n es), .d (proofD w)] ∧ SysOk n es ∧ es.length ≤ 1000 ∧ w.length = n ∧ n ≤ 4 ∧ Bits w ∧ ((∀ e ∈ es, eqV e w = 0) → Φ (.d .none)) ∧ ∀ k : Int, (¬ ∀ e ∈ es, eqV e w = 0) → Φ (.d (T [.str (Str.ofString "equation"), I k]))
def D_proof_fault : DS := (dSeq (dAsg (tTup 2 (tCons (tName 2) (tCons (tName 3) tNil))) (dVar 0)) (dSeq (dIfS (dTst (dBin oIsNot (dCall 2 sp_proof_error (dCons (dVar 2) (dCons (dVar 1) dNil))) (dC .none))) (dSeq (dRet (dC (.str "form"))) dNext) dNext) (dSeq (dAsg (tTup 2 (tCons (tName 4) (tCons (tName 5) tNil))) (dVar 1)) (dSeq (dSet 6 (dCall 1 sp_unit_rows (dCons (dVar 4) dNil))) (dSeq (dFor (dSeqI (dTup (dCons (dTup (dCons (dC (.str "f")) (dCons (dVar 4) (dCons (dCall 1 sp_sum_table (dCons (dVar 6) dNil)) dNil)))) (dCons (dTup (dCons (dC (.str "g")) (dCons (dVar 5) (dCons (dCall 1 sp_sum_table (dCons (dCall 2 sp_laid_product (dCons (dVar 6) (dCons (dVar 6) dNil))) dNil)) dNil)))) dNil)))) (tTup 3 (tCons (tName 7) (tCons (tName 8) (tCons (tName 9) tNil)))) (dSeq (dSet 10 (dCall 2 sp_first_unlike_k82 (dCons (dVar 8) (dCons (dVar 9) dNil)))) (dSeq (dIfS (dTst (dBin oIsNot (dVar 10) (dC .none))) (dSeq (dRet (dTup (dCons (dVar 7) (dCons (dVar 10) dNil)))) dNext) dNext) dNext))) (dSeq (dFor (dEnum (dCons (dVar 3) dNil)) (tTup 2 (tCons (tName 11) (tCons (tName 12) tNil))) (dSeq (dIfS (dTst (dBin oEq (dCall 2 sp_equation_value (dCons (dVar 12) (dCons (dVar 6) dNil))) (dC (.int 1)))) (dSeq (dRet (dTup (dCons (dC (.str "equation")) (dCons (dVar 11) dNil)))) dNext) dNext) dNext)) (dSeq (dRet (dC .none)) dNext)))))))
theorem v_proof_fault (args : List Val) (Φ : Val → Prop) (h : sp_proof_fault args Φ) : D_proof_fault (kRet Φ) (envS ["system", "value", "n", "equations", "f", "g", "u", "word", "table", "due", "place", "k", "equation"] args) := by
  obtain ⟨n, es, w, rfl, he, hl, hw, hn, hb, h1, h2⟩ := h
  have nn : n * n ≤ 4 * 4 := Nat.mul_le_mul hn hn
  rw [D_proof_fault, dSeq]
  try simp [-dSeq, and_assoc, envS, sysD]
  rw [dSeq]
  try simp [-dSeq, and_assoc]
  refine ⟨n, par n (plc w), par (n * n) (plc (outR w w)), by rw [proofD_eq hw], hn, ?_, ?_, ?_⟩
  · rw [← hw]; exact stab_bit w
  · have := stab_bit (outR w w); rwa [outR_length, hw] at this
  try simp [-dSeq, and_assoc]
  rw [dSeq]
  try simp [-dSeq, and_assoc, proofD]
  rw [dSeq]
  try simp [-dSeq, and_assoc]
  refine ⟨w.length, _, rfl, by omega, ?_⟩
  rw [units_stab hb]
  try simp [-dSeq, and_assoc]
  have k1 : ∀ Φ : Val → Prop, Φ (.d (TI (stab w))) → sp_sum_table [.d (TI w)] Φ := fun Φ h => ⟨w, rfl, hb, by omega, h⟩
  have k2 : ∀ Φ : Val → Prop, Φ (.d (TI (outR w w))) → sp_laid_product [.d (TI w), .d (TI w)] Φ := fun Φ h => ⟨w, w, rfl, by omega, by omega, hb, hb, h⟩
  have k3 : ∀ Φ : Val → Prop, Φ (.d (TI (stab (outR w w)))) → sp_sum_table [.d (TI (outR w w))] Φ := fun Φ h => ⟨_, rfl, outR_bits hb hb, by rw [outR_length, hw]; omega, h⟩
  rw [dSeq]
  rw [dFor]
  refine seqI_of (gv_tup (ga_cons (gv_tup (ga_cons gv_c (ga_cons (gv_var rfl) (ga_cons (gv_call (ga_cons (gv_var rfl) ga_nil) rfl k1) ga_nil))) (by simp)) (ga_cons (gv_tup (ga_cons gv_c (ga_cons (gv_var rfl) (ga_cons (gv_call (ga_cons (gv_call (ga_cons (gv_var rfl) (ga_cons (gv_var rfl) ga_nil)) rfl k2) ga_nil) rfl k3) ga_nil))) (by simp)) ga_nil)) (by simp)) rfl ?_
  refine forW_map (fun q : Str × List Int => PyData.tuple [.str q.1, TI q.2, TI q.2]) (fun _ e => ∃ z7 z8 z9 z10, e = [some (.d (T [I n, T (es.map eqD)])), some (.d (proofD w)), some (.d (I n)), some (.d (T (es.map eqD))), some (.d (TI (stab w))), some (.d (TI (stab (outR w w)))), some (.d (TI w)), z7, z8, z9, z10, none, none]) ?_ ?_ [(Str.ofString "f", stab w), (Str.ofString "g", stab (outR w w))] _ ⟨none, none, none, none, rfl⟩
  · rintro e ⟨z7, z8, z9, z10, rfl⟩
    simp [-dSeq]
    rw [dSeq]
    simp [-dSeq]
    refine forW_enum eqD (fun k l e => ∃ z11 z12 pre, e = [some (.d (T [I n, T (es.map eqD)])), some (.d (proofD w)), some (.d (I n)), some (.d (T (es.map eqD))), some (.d (TI (stab w))), some (.d (TI (stab (outR w w)))), some (.d (TI w)), z7, z8, z9, z10, z11, z12] ∧ es = pre ++ l ∧ ∀ e ∈ pre, eqV e w = 0) ?_ ?_ es _ ⟨none, none, [], rfl, rfl, fun e h => by cases h⟩
    · rintro k e ⟨z11, z12, pre, rfl, ep, h0⟩
      simp
      refine h1 fun e he => h0 e ?_
      rw [ep] at he
      simpa using he
    · rintro k x xs e ⟨z11, z12, pre, rfl, ep, h0⟩ N hN
      have hx : x ∈ es := by rw [ep]; simp
      simp [-dSeq, and_assoc]
      try simp
      refine ⟨n, x, w, rfl, he x hx, hw, by omega, hb, ?_⟩
      simp [oEq_int]
      rcases eqV_bit x w with h | h
      · simp [h]
        refine hN _ ⟨_, _, pre ++ [x], rfl, by rw [ep]; simp, fun e h' => ?_⟩
        rcases List.mem_append.mp h' with h' | h'
        · exact h0 e h'
        · have : e = x := by simpa using h'
          rw [this]; exact h
      · simp [h]
        refine h2 k fun h' => ?_
        have := h' x hx
        omega
  · rintro ⟨s, xs⟩ r e ⟨z7, z8, z9, z10, rfl⟩ N hN
    simp [-dSeq, and_assoc]
    rw [dSeq]
    simp [-dSeq]
    refine ⟨xs, rfl, ?_⟩
    simp
    exact hN _ ⟨_, _, _, _, rfl⟩
def sp_answers_list : FSpec := fun args Φ => ∃ (n : Nat) (es : List EqS), args = [.d (sysD n es)] ∧ SysOk n es ∧ es.length ≤ 1000 ∧ n ≤ 12 ∧ Φ (.own ((ansR n es).map TI))
theorem ans_step {n : Nat} {es : List EqS} {u : List Int} : (es.map fun e => PyData.int (eqV e u)).any (fun z => PyData.eqv z (I 1)) = !(es.all fun e => decide (eqV e u = 0)) := by
  induction es with
  | nil => rfl
  | cons e es ih =>
    rw [List.map_cons, List.any_cons, ih, List.all_cons]
    rcases eqV_bit e u with h | h <;> simp [PyData.eqv, h]
def D_answers_list : DS := (dSeq (dRet (dLc [1] (dSeqI (dCall 1 sp_all_rows (dCons (dBin oIxS (dVar 0) (dC (.int 0))) dNil))) (tName 1) (dTst (dBin (oInG true) (dC (.int 1)) (dCall 2 sp_values_row (dCons (dVar 0) (dCons (dVar 1) dNil))))) (dVar 1))) dNext)
theorem v_answers_list (args : List Val) (Φ : Val → Prop) (h : sp_answers_list args Φ) : D_answers_list (kRet Φ) (envS ["system", "u"] args) := by
  obtain ⟨n, es, rfl, he, hl, hn, hΦ⟩ := h
  have two : 2 ^ n ≤ 2 ^ 12 := two_le hn
  rw [D_answers_list, dSeq]
  try simp [-dSeq, and_assoc, envS, sysD]
  refine ⟨n, rfl, hn, ?_⟩
  try simp [-dSeq, and_assoc]
  refine compW_map TI (fun u => es.all fun e => decide (eqV e u = 0)) TI (rowsN n) [] (by simp [rowsN_length]; omega) (fun u hu N S hN hS => ?_) ?_
  · have ur := rowsN_row hu
    try simp [-dSeq, and_assoc]
    refine ⟨n, es, u, rfl, he, hl, ur.1, by omega, ur.2, ?_⟩
    refine .inr ⟨.int 1, _, rfl, rfl, rfl, by simp [flatD], ?_⟩
    rw [List.map_map, Function.comp_def, @ans_step n es u]
    cases hq : es.all fun e => decide (eqV e u = 0)
    · simp [toB, hS hq]
    · simp [toB, hN hq]
  · exact hΦ
def sp_all_answers : FSpec := fun args Φ => ∃ (n : Nat) (es : List EqS), args = [.d (sysD n es)] ∧ SysOk n es ∧ es.length ≤ 1000 ∧ n ≤ 8 ∧ Φ (.d (T ((ansR n es).map TI)))
def D_all_answers : DS := (dSeq (dSet 1 (dCall 1 sp_answers_list (dCons (dVar 0) dNil))) (dSeq (dIfS (dTst (dBin oGt (dUn oLen (dVar 1)) (dC (.int 500)))) (dSeq dNever dNext) dNext) (dSeq (dRet (dUn oTuple (dVar 1))) dNext)))
theorem v_all_answers (args : List Val) (Φ : Val → Prop) (h : sp_all_answers args Φ) : D_all_answers (kRet Φ) (envS ["system", "found"] args) := by
  obtain ⟨n, es, rfl, he, hl, hn, hΦ⟩ := h
  have two : 2 ^ n ≤ 2 ^ 8 := two_le hn
  have al := ansR_len n es
  rw [D_all_answers, dSeq]
  try simp [-dSeq, and_assoc, envS]
  refine ⟨n, es, rfl, he, hl, by omega, ?_⟩
  have : ¬ (500 : Int) < (ansR n es).length := by omega
  try simp [this]
  exact ⟨by omega, hΦ⟩
theorem tru_ints (es : List EqS) (u : List Int) : truIs (es.map fun e => I (eqV e u)) = some (es.map fun e => decide (eqV e u ≠ 0)) := by
  induction es with
  | nil => rfl
  | cons e es ih =>
    have : (eqV e u != 0) = decide (eqV e u ≠ 0) := by rcases eqV_bit e u with h | h <;> simp [h]
    simp only [List.map_cons, truIs, truI, Option.bind_some, ih, Option.map_some, this]
theorem any_ne (es : List EqS) (u : List Int) : (es.map fun e => decide (eqV e u ≠ 0)).any id = !(es.all fun e => decide (eqV e u = 0)) := by
  induction es with
  | nil => rfl
  | cons e es ih =>
    rw [List.map_cons, List.any_cons, ih, List.all_cons]
    simp
def sp_law_answers : FSpec := sp_answers_list
def D_law_answers : DS := (dSeq (dRet (dLc [1] (dSeqI (dCall 1 sp_law_rows (dCons (dBin oIxS (dVar 0) (dC (.int 0))) dNil))) (tName 1) (dNotT (dTru (dUn oAny (dLc [2] (dSeqI (dBin oIxS (dVar 0) (dC (.int 1)))) (tName 2) dYes (dCall 2 sp_law_value (dCons (dVar 2) (dCons (dVar 1) dNil))))))) (dVar 1))) dNext)
theorem v_law_answers (args : List Val) (Φ : Val → Prop) (h : sp_law_answers args Φ) : D_law_answers (kRet Φ) (envS ["system", "u", "own"] args) := by
  obtain ⟨n, es, rfl, he, hl, hn, hΦ⟩ := h
  have two : 2 ^ n ≤ 2 ^ 12 := two_le hn
  rw [D_law_answers, dSeq]
  try simp [-dSeq, and_assoc, envS, sysD]
  refine ⟨n, rfl, hn, fun v hv => ?_⟩
  have go : compW (tName 1) (dNotT (dTru (dUn oAny (dLc [2] (dSeqI (dBin oIxS (dVar 0) (dC (PyData.int 1)))) (tName 2) dYes (dCall 2 sp_law_value (dCons (dVar 2) (dCons (dVar 1) dNil))))))) (dVar 1) [1] ((rowsN n).map TI) [some (.d (T [I n, T (es.map eqD)])), none, none] [] fun ds env2 => Φ (Val.own ds) := by
    refine compW_map TI (fun u => es.all fun e => decide (eqV e u = 0)) TI (rowsN n) [] (by simp [rowsN_length]; omega) (fun u hu N S hN hS => ?_) hΦ
    have ur := rowsN_row hu
    simp [and_assoc]
    refine compW_all eqD (fun e => I (eqV e u)) es (by omega) (fun e h1 M hM => ?_) ?_
    · simp
      exact ⟨n, e, u, rfl, he e h1, ur.1, by omega, ur.2, by simpa using hM⟩
    · refine ⟨_, es.map fun e => decide (eqV e u ≠ 0), rfl, tru_ints _ _, ?_⟩
      rw [any_ne]
      cases hq : es.all fun e => decide (eqV e u = 0)
      · simp [truth, hS hq]
      · simp [truth, hN hq]
  obtain h | h : v = .own ((rowsN n).map TI) ∨ v = .d (.list ((rowsN n).map TI)) := by
    unfold toL at hv
    split at hv <;> first | (cases hv; simp) | cases hv
  · subst h; simpa using go
  · subst h; simpa using go
def sp_law_proof : FSpec := fun args Φ => ∃ xs : List Int, args = [.d (TI xs)] ∧ Bits xs ∧ xs.length ≤ 3 ∧ Φ (.d (proofD xs))
theorem stab_law {xs : List Int} (h : Bits xs) (hl : xs.length ≤ 12) {Φ : Val → Prop} (hΦ : Φ (.d (TI (stab xs)))) : sp_law_sum_table [.d (TI xs)] Φ := by
  refine ⟨xs.length, plc xs, ?_, hl, hΦ⟩
  rw [← (plc_ok h).2.1]
def D_law_proof : DS := (dSeq (dRet (dTup (dCons (dCall 1 sp_law_sum_table (dCons (dVar 0) dNil)) (dCons (dCall 1 sp_law_sum_table (dCons (dCall 2 sp_law_outer (dCons (dVar 0) (dCons (dVar 0) dNil))) dNil)) dNil)))) dNext)
theorem v_law_proof (args : List Val) (Φ : Val → Prop) (h : sp_law_proof args Φ) : D_law_proof (kRet Φ) (envS ["u"] args) := by
  obtain ⟨xs, rfl, hb, hl, hΦ⟩ := h
  have ll : xs.length * xs.length ≤ 3 * 3 := Nat.mul_le_mul hl hl
  simp [D_law_proof, envS]
  refine stab_law hb (by omega) ?_
  simp
  refine ⟨xs, xs, rfl, by omega, by omega, hb, hb, ?_⟩
  simp
  refine stab_law (outR_bits hb hb) (by rw [outR_length]; omega) ?_
  simp
  exact hΦ
end Ev
set_option Elab.async false
set_option linter.all false
set_option maxRecDepth 100000
/-! V27: spoilt proofs, places, drawn systems. -/
namespace Ev
open PySem PySem.Spec PyProof.Rows L2

theorem tab_getD {n : Nat} {xs : List Int} (h : xs.length = n) : tab n (fun i => xs.getD i 0) = xs := by
  subst h; exact (tab_of xs).symm
theorem bitF_getD {xs : List Int} (h : Bits xs) (n : Nat) : BitF n fun i => xs.getD i 0 := fun i _ => getD_bit h i
def sp_law_spoilt : FSpec := fun args Φ => ∃ (n : Nat) (f g : Nat → Int) (ps : List Int), args = [.d (prD n (n * n) f g), .d (TI ps)] ∧ n ≤ 4 ∧ BitF (2 ^ n) f ∧ BitF (2 ^ (n * n)) g ∧ (∀ p ∈ ps, 0 ≤ p ∧ p < ((2 ^ n + 2 ^ (n * n) : Nat) : Int)) ∧ ∀ f' g', BitF (2 ^ n) f' → BitF (2 ^ (n * n)) g' → Φ (.d (prD n (n * n) f' g'))
def D_law_spoilt : DS := (dSeq (dPar2 2 3 (dUn oList (dBin oAdd (dBin oIxS (dVar 0) (dC (.int 0))) (dBin oIxS (dVar 0) (dC (.int 1))))) (dUn oLen (dBin oIxS (dVar 0) (dC (.int 0))))) (dSeq (dFor (dSeqI (dVar 1)) (tName 4) (dSeq (dAsg (tSub 2 (dVar 4)) (dBin oSub (dC (.int 1)) (dBin oIxS (dVar 2) (dVar 4)))) dNext)) (dSeq (dRet (dTup (dCons (dUn oTuple (dSl (dVar 2) dNoP (dSomeP (dVar 3)))) (dCons (dUn oTuple (dSl (dVar 2) (dSomeP (dVar 3)) dNoP)) dNil)))) dNext)))
theorem v_law_spoilt (args : List Val) (Φ : Val → Prop) (h : sp_law_spoilt args Φ) : D_law_spoilt (kRet Φ) (envS ["proof", "places", "bits", "size", "place"] args) := by
  obtain ⟨n, f, g, ps, rfl, hn, hf, hg, hp, hΦ⟩ := h
  have nn : n * n ≤ 4 * 4 := Nat.mul_le_mul hn hn
  have t1 : 2 ^ n ≤ 2 ^ 4 := two_le hn
  have t2 : 2 ^ (n * n) ≤ 2 ^ 16 := two_le (by omega)
  have l1 : (tab (2 ^ n) f).length = 2 ^ n := tab_length ..
  have l2 : (tab (2 ^ (n * n)) g).length = 2 ^ (n * n) := tab_length ..
  have b1 : Bits (tab (2 ^ n) f ++ tab (2 ^ (n * n)) g) := (bits_tab' hf).app (bits_tab' hg)
  have l3 : (tab (2 ^ n) f ++ tab (2 ^ (n * n)) g).length = 2 ^ n + 2 ^ (n * n) := by rw [List.length_append, l1, l2]
  unfold prD at hΦ
  rw [D_law_spoilt, dSeq]
  try simp [-dSeq, and_assoc, envS, prD, l1, l2, -List.map_map]
  rw [← List.map_append, ← two_cast]
  generalize tab (2 ^ n) f ++ tab (2 ^ (n * n)) g = bs at *
  generalize 2 ^ n = A at *
  generalize 2 ^ (n * n) = B at *
  refine ⟨by omega, ?_⟩
  rw [dSeq]
  try simp [-dSeq, and_assoc]
  refine forW_map PyData.int (fun r e => ∃ (cs : List Int) (z4 : Option Val), e = [some (.d (T [TI (tab A f), TI (tab B g)])), some (.d (TI ps)), some (.own (cs.map .int)), some (.d (I A)), z4] ∧ cs.length = A + B ∧ Bits cs ∧ ∀ p ∈ r, p ∈ ps) ?_ ?_ ps _ ⟨bs, none, rfl, l3, b1, fun p h => h⟩
  · rintro e ⟨cs, z4, rfl, hl, hb, _⟩
    simp [-dSeq]
    rw [dSeq]
    have c1 : cutD (cs.map PyData.int) none (some (A : Int)) = (cs.map PyData.int).take A := cut_to (by simp; omega)
    have c2 : cutD (cs.map PyData.int) (some (A : Int)) none = (cs.map PyData.int).drop A := cut_from (by simp; omega)
    simp [c1, c2, ← List.map_take, ← List.map_drop]
    have := hΦ (fun i => (cs.take A).getD i 0) (fun i => (cs.drop A).getD i 0) (bitF_getD (fun b h => hb b (List.mem_of_mem_take h)) _) (bitF_getD (fun b h => hb b (List.mem_of_mem_drop h)) _)
    rw [tab_getD (by rw [List.length_take]; omega), tab_getD (by rw [List.length_drop]; omega)] at this
    exact this
  · rintro p r e ⟨cs, z4, rfl, hl, hb, hr⟩ N hN
    obtain ⟨p1, p2⟩ := hp p (hr p (List.mem_cons_self ..))
    obtain ⟨i, rfl⟩ : ∃ i : Nat, p = i := ⟨p.toNat, by omega⟩
    have hi : i < cs.length := by omega
    simp [and_assoc]
    refine ⟨_, at_int hi, _, rfl, i, ix_nat hi, hN _ ⟨cs.set i (1 - cs.getD i 0), some (.d (I i)), ?_, ?_, ?_, fun q hq => hr q (List.mem_cons_of_mem _ hq)⟩⟩
    · rw [List.map_set]
    · rw [List.length_set, hl]
    · intro b hb'
      rcases List.mem_or_eq_of_mem_set hb' with h | rfl
      · exact hb b h
      · rcases getD_bit hb i with h | h <;> rw [h] <;> omega
def sp_law_places : FSpec := fun args Φ => ∃ (size many : Nat), args = [.pot, .d (.int size), .d (.int many)] ∧ size ≤ 1000 ∧ many ≤ size ∧ ∀ ps : List Int, (∀ p ∈ ps, 0 ≤ p ∧ p < (size : Int)) → ps.length = many → Φ (.d (TI ps))
def D_law_places : DS := (dSeq (dRet (dUn oTuple (dUn oSorted (dSl (dCall 2 sp_law_mixed (dCons (dVar 0) (dCons (dListR1 (dVar 1)) dNil))) dNoP (dSomeP (dVar 2)))))) dNext)
theorem v_law_places (args : List Val) (Φ : Val → Prop) (h : sp_law_places args Φ) : D_law_places (kRet Φ) (envS ["pot", "size", "many"] args) := by
  obtain ⟨size, many, rfl, hs, hm, hΦ⟩ := h
  have e : rngD 0 (size : Int) = ((List.range size).map fun (i : Nat) => (i : Int)).map PyData.int := by
    unfold rngD
    simp [List.map_map, Function.comp_def]
  have k1 : ∀ Ψ : Val → Prop, (∀ ms : List Int, ms.Perm ((List.range size).map fun (i : Nat) => (i : Int)) → Ψ (.own (ms.map .int))) → sp_law_mixed [.pot, .d (.list (((List.range size).map fun (i : Nat) => (i : Int)).map .int))] Ψ := fun Ψ h => ⟨_, rfl, by simp; omega, h⟩
  generalize hg : ((List.range size).map fun (i : Nat) => (i : Int)) = ns at *
  rw [D_law_places, dSeq]
  try simp [-dSeq, and_assoc, envS, e]
  refine ⟨by unfold RgOk; omega, k1 _ fun ms h1 => ?_⟩
  have ml : ms.length = size := by rw [h1.length_eq, ← hg]; simp
  have c1 : cutD (ms.map PyData.int) none (some (many : Int)) = (ms.map PyData.int).take many := cut_to (by simp; omega)
  simp [c1, ← List.map_take]
  refine .inl ⟨_, rfl, fun qs q1 q2 => ⟨_, rfl, hΦ qs (fun p hp => ?_) ?_⟩⟩
  · have h2 : p ∈ ns := h1.mem_iff.mp (List.mem_of_mem_take (q1.mem_iff.mp hp))
    rw [← hg] at h2
    simp at h2
    omega
  · rw [q1.length_eq, List.length_take]; omega
theorem rng2_map (a n : Nat) : ((List.range ((n : Int) - (a : Int)).toNat).map fun (k : Nat) => PyData.int ((a : Int) + (k : Int))) = (List.range (n - a)).map fun (i : Nat) => I ((a + i : Nat) : Int) := by
  rw [show ((n : Int) - (a : Int)).toNat = n - a by omega]
  refine List.map_congr_left fun i hi => ?_
  simp
/-- some of the pairs that begin with i -/
theorem pairs_more {n i : Nat} {qs : List (Nat × Nat)} {js : List Nat} (hq : ∀ q ∈ qs, q.1 < i ∧ q.1 < q.2 ∧ q.2 < n) (hn : qs.Nodup) (hj : js.Sublist ((List.range (n - (i + 1))).map fun j => i + 1 + j)) :
    (∀ q ∈ qs ++ js.map (fun j => (i, j)), q.1 < i + 1 ∧ q.1 < q.2 ∧ q.2 < n) ∧ (qs ++ js.map fun j => (i, j)).Nodup := by
  have jr : ∀ j ∈ js, i < j ∧ j < n := fun j h => by
    have := hj.subset h
    simp at this
    obtain ⟨a, h1, h2⟩ := this
    omega
  have jn : js.Nodup := hj.nodup (by
    refine List.Pairwise.map _ (fun a b h => ?_) List.nodup_range
    omega)
  refine ⟨fun q h => ?_, List.nodup_append.mpr ⟨hn, List.Pairwise.map _ (fun a b h => ?_) jn, fun a ha b hb => ?_⟩⟩
  · rcases List.mem_append.mp h with h | h
    · have := hq q h; omega
    · obtain ⟨j, h1, rfl⟩ := List.mem_map.mp h
      have := jr j h1
      simp only; omega
  · intro e
    injection e with _ e
    exact h e
  · obtain ⟨j, h1, rfl⟩ := List.mem_map.mp hb
    have := hq a ha
    intro e
    rw [e] at this
    simp only at this
    omega
def pD (q : Nat × Nat) : PyData := T [I q.1, I q.2]
theorem eqD_eq (c : Int) (ss : List Nat) (qs : List (Nat × Nat)) : eqD (c, ss, qs) = T [I c, T (ss.map fun (i : Nat) => I i), T (qs.map pD)] := rfl
def sp_law_system : FSpec := fun args Φ => ∃ n m : Nat, args = [.pot, .d (.int n), .d (.int m)] ∧ n ≤ 4 ∧ m ≤ 100 ∧ ∀ es, SysOk n es → es.length = m → Φ (.d (sysD n es))
def D_law_system : DS := (dSeq (dPar3 3 4 5 (dUn oTuple (dLc [9] (dRng1 (dCons (dVar 1) dNil)) (tName 9) dYes (dCall 2 sp_law_draw (dCons (dVar 0) (dCons (dC (.int 2)) dNil))))) (dLst dNil) (dBin oGt (dCall 2 sp_law_draw (dCons (dVar 0) (dCons (dC (.int 3)) dNil))) (dC (.int 0)))) (dSeq (dFor (dRng1 (dCons (dVar 2) dNil)) (tName 6) (dSeq (dSet 7 (dUn oTuple (dLc [9] (dRng1 (dCons (dVar 1) dNil)) (tName 9) (dTst (dBin oEq (dCall 2 sp_law_draw (dCons (dVar 0) (dCons (dC (.int 2)) dNil))) (dC (.int 0)))) (dVar 9)))) (dSeq (dSet 8 (dLst dNil)) (dSeq (dFor (dRng1 (dCons (dVar 1) dNil)) (tName 9) (dSeq (dExpr (dExt 8 (dLc [12] (dRng2 (dCons (dBin oAdd (dVar 9) (dC (.int 1))) (dCons (dVar 1) dNil))) (tName 12) (dTst (dBin oEq (dCall 2 sp_law_draw (dCons (dVar 0) (dCons (dC (.int 2)) dNil))) (dC (.int 0)))) (dTup (dCons (dVar 9) (dCons (dVar 12) dNil)))))) dNext)) (dSeq (dSet 10 (dTup (dCons (dC (.int 0)) (dCons (dVar 7) (dCons (dUn oTuple (dVar 8)) dNil))))) (dSeq (dSet 11 (dIf (dTru (dVar 5)) (dCall 2 sp_law_value (dCons (dVar 10) (dCons (dVar 3) dNil))) (dCall 2 sp_law_draw (dCons (dVar 0) (dCons (dC (.int 2)) dNil))))) (dSeq (dExpr (dApp 4 (dTup (dCons (dVar 11) (dCons (dVar 7) (dCons (dUn oTuple (dVar 8)) dNil)))))) dNext))))))) (dSeq (dRet (dTup (dCons (dVar 1) (dCons (dUn oTuple (dVar 4)) dNil)))) dNext)))
theorem v_law_system (args : List Val) (Φ : Val → Prop) (h : sp_law_system args Φ) : D_law_system (kRet Φ) (envS ["pot", "n", "m", "u", "found", "is_answered", "k", "singles", "pairs", "i", "equation", "constant", "j"] args) := by
  obtain ⟨n, m, rfl, hn, hm, hΦ⟩ := h
  have dr : ∀ (k : Nat) (Ψ : Val → Prop), 0 < k → k < 4 → (∀ r : Nat, r < k → Ψ (.d (.int r))) → sp_law_draw [.pot, .d (.int (k : Nat))] Ψ := fun k Ψ h1 h2 h3 => ⟨k, rfl, h1, by omega, h3⟩
  rw [D_law_system, dSeq]
  try simp [-dSeq, and_assoc, envS]
  refine ⟨by omega, ?_⟩
  refine compW_any (fun i : Nat => PyData.int i) (fun d => ∃ r : Nat, r < 2 ∧ d = .int r) (List.range n) [] (by simp; omega) (fun i hi M hM => ?_) (fun us ul hu => ?_)
  · simp [-dSeq]
    exact dr 2 _ (by decide) (by decide) fun r hr => by simp; exact hM _ ⟨r, hr, rfl⟩
  obtain ⟨u, rfl, ub⟩ := bits_of hu
  have ul : u.length = n := by simpa using ul
  simp [-dSeq, and_assoc]
  refine dr 3 _ (by decide) (by decide) fun r hr => ?_
  simp [-dSeq, and_assoc]
  rw [dSeq]
  simp [-dSeq, and_assoc]
  refine ⟨by omega, ?_⟩
  refine forW_range _ m (fun k e => ∃ (es : List EqS) (z6 z7 z8 : Option Val) (z9 : Option PyData) (z10 z11 : Option Val), e = [some .pot, some (.d (I n)), some (.d (I m)), some (.d (TI u)), some (.own (es.map eqD)), some (.d (.bool (decide (0 < r)))), z6, z7, z8, z9.map Val.d, z10, z11, none] ∧ es.length = k ∧ SysOk n es) ?_ ?_ _ ⟨[], none, none, none, none, none, none, rfl, rfl, fun e h => by cases h⟩
  · rintro e ⟨es, z6, z7, z8, z09, z10, z11, rfl, el, eo⟩
    simp
    exact hΦ es eo el
  · rintro k hk e ⟨es, z6, z7, z8, z09, z10, z11, rfl, el, eo⟩ N hN
    obtain ⟨zz, ez⟩ : ∃ zz, zz = z09 := ⟨_, rfl⟩
    rcases z09 with _ | z09
    all_goals
      simp [-dSeq]
      rw [dSeq]
      simp [-dSeq, and_assoc]
      refine ⟨by omega, ?_⟩
      refine compW_pick (fun i : Nat => I i) (fun i : Nat => I i) (List.range n) [] (by simp; omega) (fun i hi M S hM hS => ?_) fun ss hs => ?_
      · simp [-dSeq, and_assoc]
        refine dr 2 _ (by decide) (by decide) fun r hr => ?_
        simp [oEq_int, hM, hS]
        omega
      have sr : ∀ i ∈ ss, i < n := fun i h => List.mem_range.mp (hs.subset h)
      have sn : ss.Nodup := hs.nodup List.nodup_range
      simp [-dSeq, and_assoc]
      rw [dSeq]
      simp [-dSeq, and_assoc]
      rw [dSeq]
      simp [-dSeq, and_assoc]
      refine ⟨by omega, ?_⟩
      refine forW_range _ n (fun i e => ∃ (qs : List (Nat × Nat)) (z9 : Option PyData), e = [some .pot, some (.d (I n)), some (.d (I m)), some (.d (TI u)), some (.own (es.map eqD)), some (.d (.bool (decide (0 < r)))), some (.d (I k)), some (.d (T (ss.map fun (i : Nat) => I i))), some (.own (qs.map pD)), z9.map Val.d, z10, z11, none] ∧ (∀ q ∈ qs, q.1 < i ∧ q.1 < q.2 ∧ q.2 < n) ∧ qs.Nodup) ?_ ?_ _ ⟨[], zz, by rw [ez]; rfl, by simp, by simp⟩
      · rintro e ⟨qs, z9, rfl, q1, q2⟩
        simp [-dSeq]
        rw [dSeq]
        simp [-dSeq, and_assoc]
        have ok : ∀ c : Int, c = 0 ∨ c = 1 → EqOk n (c, ss, qs) := fun c h => ⟨h, sr, sn, fun q h => (q1 q h).2, q2⟩
        have lp := (ok 0 (.inl rfl)).lp
        have nn : n * n ≤ 4 * 4 := Nat.mul_le_mul hn hn
        have fin : ∀ c : Int, c = 0 ∨ c = 1 → N [some .pot, some (.d (I n)), some (.d (I m)), some (.d (TI u)), some (.own (es.map eqD ++ [T [I c, T (ss.map fun (i : Nat) => I i), T (qs.map pD)]])), some (.d (.bool (decide (0 < r)))), some (.d (I k)), some (.d (T (ss.map fun (i : Nat) => I i))), some (.own (qs.map pD)), z9.map Val.d, some (.d (T [I 0, T (ss.map fun (i : Nat) => I i), T (qs.map pD)])), some (.d (I c)), none] := fun c hc => by
          refine hN _ ⟨es ++ [(c, ss, qs)], some (.d (I k)), some (.d (T (ss.map fun (i : Nat) => I i))), some (.own (qs.map pD)), z9, some (.d (T [I 0, T (ss.map fun (i : Nat) => I i), T (qs.map pD)])), some (.d (I c)), ?_, by simp [el], fun e he => ?_⟩
          · rw [List.map_append]; rfl
          · rcases List.mem_append.mp he with h | h
            · exact eo e h
            · have : e = (c, ss, qs) := by simpa using h
              rw [this]; exact ok c hc
        rw [dSeq]
        simp [-dSeq, and_assoc]
        rcases Nat.eq_zero_or_pos r with h0 | h0
        · refine .inl ⟨h0, dr 2 _ (by decide) (by decide) fun c hc => ?_⟩
          simp
          exact ⟨by omega, fin c (by omega)⟩
        · refine .inr ⟨h0, n, (0, ss, qs), u, rfl, ok 0 (.inl rfl), ul, by omega, ub, ?_⟩
          simp
          exact ⟨by omega, fin _ (eqV_bit _ _)⟩
      · rintro i hi e ⟨qs, z9, rfl, q1, q2⟩ N' hN'
        simp [and_assoc]
        rw [show ((i : Int) + 1) = ((i + 1 : Nat) : Int) by omega, rng2_map]
        refine ⟨by omega, by omega, by omega, ?_⟩
        refine compW_pick (fun j : Nat => I ((i + 1 + j : Nat) : Int)) (fun j : Nat => pD (i, i + 1 + j)) (List.range (n - (i + 1))) [] (by simp; omega) (fun j hj M S hM hS => ?_) fun js hs' => ?_
        · simp [-dSeq, and_assoc]
          refine dr 2 _ (by decide) (by decide) fun r hr => ?_
          simp [oEq_int, pD] at hM ⊢
          rcases Nat.eq_zero_or_pos r with h0 | h0
          · exact .inr ⟨h0, hM⟩
          · exact .inl ⟨by omega, hS⟩
        · simp [and_assoc]
          have pm := pairs_more q1 q2 (hs'.map fun j => i + 1 + j)
          have lp := (show EqOk n (0, ss, qs) from ⟨.inl rfl, sr, sn, fun q h => (q1 q h).2, q2⟩).lp
          have nn : n * n ≤ 4 * 4 := Nat.mul_le_mul hn hn
          have jl := hs'.length_le
          rw [List.length_range] at jl
          have e : qs.map pD ++ js.map (fun j => pD (i, i + 1 + j)) = (qs ++ (js.map fun j => i + 1 + j).map fun j => (i, j)).map pD := by
            rw [List.map_append, List.map_map, List.map_map]; rfl
          rw [e]
          refine ⟨by simp only at lp; omega, hN' _ ⟨_, some (I i), rfl, pm⟩⟩
end Ev
set_option Elab.async false
set_option linter.all false
set_option maxRecDepth 100000
/-! V28: systems beside one another. -/
namespace Ev
open PySem PySem.Spec PyProof.Rows L2

def movE (k : Nat) (e : EqS) : EqS := (e.1, e.2.1.map (· + k), e.2.2.map fun q => (q.1 + k, q.2 + k))
theorem EqOk.mov {m : Nat} {e : EqS} (h : EqOk m e) (k : Nat) : EqOk (k + m) (movE k e) where
  c := h.c
  s := fun i hi => by
    simp [movE] at hi
    obtain ⟨j, hj, rfl⟩ := hi
    have := h.s j hj
    omega
  sn := List.Pairwise.map _ (fun a b h => by omega) h.sn
  p := fun q hq => by
    simp [movE] at hq
    obtain ⟨a, b, hab, rfl⟩ := hq
    have := h.p (a, b) hab
    simp only at this ⊢
    omega
  pn := List.Pairwise.map _ (fun a b h e => h (by
    injection e with e1 e2
    exact Prod.ext (by omega) (by omega))) h.pn
theorem EqOk.mono {n m : Nat} {e : EqS} (h : EqOk n e) (hl : n ≤ m) : EqOk m e where
  c := h.c
  s := fun i hi => by have := h.s i hi; omega
  sn := h.sn
  p := fun q hq => by have := h.p q hq; omega
  pn := h.pn
def besS (n : Nat) (es fs : List EqS) : List EqS := es ++ fs.map (movE n)
theorem besS_ok {n m : Nat} {es fs : List EqS} (h1 : SysOk n es) (h2 : SysOk m fs) : SysOk (n + m) (besS n es fs) := fun e he => by
  rcases List.mem_append.mp he with h | h
  · exact (h1 e h).mono (by omega)
  · obtain ⟨f, hf, rfl⟩ := List.mem_map.mp h
    exact (h2 f hf).mov n
def sp_told_system : FSpec := fun args Φ => ∃ (n : Nat) (es : List EqS), args = [.d (.int n), .d (.list (es.map eqD))] ∧ es.length ≤ 12 ∧ Φ (.d (sysD n es))
def D_told_system : DS := (dSeq (dIfS (dTst (dBin oGt (dUn oLen (dVar 1)) (dC (.int 12)))) (dSeq dNever dNext) dNext) (dSeq (dRet (dTup (dCons (dVar 0) (dCons (dUn oTuple (dVar 1)) dNil)))) dNext))
theorem v_told_system (args : List Val) (Φ : Val → Prop) (h : sp_told_system args Φ) : D_told_system (kRet Φ) (envS ["n", "equations"] args) := by
  obtain ⟨n, es, rfl, hl, hΦ⟩ := h
  simp [D_told_system, envS]
  exact .inl ⟨by omega, hΦ⟩
def sp_law_moved : FSpec := fun args Φ => ∃ (k m : Nat) (e : EqS), args = [.d (eqD e), .d (.int k)] ∧ EqOk m e ∧ m ≤ 1000 ∧ Φ (.d (eqD (movE k e)))
theorem mov_eqD (k : Nat) (e : EqS) : eqD (movE k e) = T [I e.1, T (e.2.1.map fun (i : Nat) => I ((i : Int) + k)), T (e.2.2.map fun q => T [I ((q.1 : Int) + k), I ((q.2 : Int) + k)])] := by
  simp [eqD, movE, List.map_map, Function.comp_def]
def D_law_moved : DS := (dSeq (dAsg (tTup 3 (tCons (tName 2) (tCons (tName 3) (tCons (tName 4) tNil)))) (dVar 0)) (dSeq (dRet (dTup (dCons (dVar 2) (dCons (dUn oTuple (dLc [5] (dSeqI (dVar 3)) (tName 5) dYes (dBin oAdd (dVar 5) (dVar 1)))) (dCons (dUn oTuple (dLc [5, 6] (dSeqI (dVar 4)) (tTup 2 (tCons (tName 5) (tCons (tName 6) tNil))) dYes (dTup (dCons (dBin oAdd (dVar 5) (dVar 1)) (dCons (dBin oAdd (dVar 6) (dVar 1)) dNil))))) dNil))))) dNext))
theorem v_law_moved (args : List Val) (Φ : Val → Prop) (h : sp_law_moved args Φ) : D_law_moved (kRet Φ) (envS ["equation", "more", "constant", "singles", "pairs", "i", "j"] args) := by
  obtain ⟨k, m, e, rfl, he, hm, hΦ⟩ := h
  have l1 := he.ls
  have l2 := he.lp
  have mm : m * m ≤ 1000 * 1000 := Nat.mul_le_mul hm hm
  rw [mov_eqD] at hΦ
  simp [D_law_moved, envS, eqD, and_assoc]
  refine compW_all (fun i : Nat => I i) (fun i : Nat => I ((i : Int) + k)) e.2.1 (by omega) (fun i hi M hM => by simpa using hM) ?_
  simp [and_assoc]
  refine compW_all (fun q : Nat × Nat => T [I q.1, I q.2]) (fun q => T [I ((q.1 : Int) + k), I ((q.2 : Int) + k)]) e.2.2 (by omega) (fun q hq M hM => by simpa [and_assoc] using hM) ?_
  exact hΦ
def sp_joined_equations : FSpec := fun args Φ => ∃ (n : Nat) (es fs : List EqS), args = [.d (sysD n es), .d (sysD n fs)] ∧ es.length + fs.length ≤ 12 ∧ Φ (.d (sysD n (es ++ fs)))
def D_joined_equations : DS := (dSeq (dIfS (dTst (dBin oNe (dBin oIxS (dVar 0) (dC (.int 0))) (dBin oIxS (dVar 1) (dC (.int 0))))) (dSeq dNever dNext) dNext) (dSeq (dRet (dCall 2 sp_told_system (dCons (dBin oIxS (dVar 0) (dC (.int 0))) (dCons (dBin oAdd (dUn oList (dBin oIxS (dVar 0) (dC (.int 1)))) (dUn oList (dBin oIxS (dVar 1) (dC (.int 1))))) dNil)))) dNext))
theorem v_joined_equations (args : List Val) (Φ : Val → Prop) (h : sp_joined_equations args Φ) : D_joined_equations (kRet Φ) (envS ["one", "other"] args) := by
  obtain ⟨n, es, fs, rfl, hl, hΦ⟩ := h
  rw [D_joined_equations, dSeq]
  simp [-dSeq, envS, sysD, oNe_int]
  rw [dSeq]
  simp [-dSeq]
  refine ⟨by omega, n, es ++ fs, by rw [List.map_append], by rw [List.length_append]; omega, hΦ⟩
def sp_beside_systems : FSpec := fun args Φ => ∃ (n m : Nat) (es fs : List EqS), args = [.d (sysD n es), .d (sysD m fs)] ∧ SysOk m fs ∧ n + m ≤ 12 ∧ es.length + fs.length ≤ 12 ∧ Φ (.d (sysD (n + m) (besS n es fs)))
def D_beside_systems : DS := (dSeq (dPar2 2 3 (dBin oIxS (dVar 0) (dC (.int 0))) (dUn oList (dBin oIxS (dVar 0) (dC (.int 1))))) (dSeq (dIfS (dTst (dBin oGt (dBin oAdd (dVar 2) (dBin oIxS (dVar 1) (dC (.int 0)))) (dC (.int 12)))) (dSeq dNever dNext) dNext) (dSeq (dFor (dSeqI (dBin oIxS (dVar 1) (dC (.int 1)))) (tTup 3 (tCons (tName 4) (tCons (tName 5) (tCons (tName 6) tNil)))) (dSeq (dSet 7 (dUn oTuple (dLc [8, 9] (dSeqI (dVar 6)) (tTup 2 (tCons (tName 8) (tCons (tName 9) tNil))) dYes (dTup (dCons (dBin oAdd (dVar 8) (dVar 2)) (dCons (dBin oAdd (dVar 9) (dVar 2)) dNil)))))) (dSeq (dExpr (dApp 3 (dTup (dCons (dVar 4) (dCons (dUn oTuple (dLc [8] (dSeqI (dVar 5)) (tName 8) dYes (dBin oAdd (dVar 8) (dVar 2)))) (dCons (dVar 7) dNil)))))) dNext))) (dSeq (dRet (dCall 2 sp_told_system (dCons (dBin oAdd (dVar 2) (dBin oIxS (dVar 1) (dC (.int 0)))) (dCons (dVar 3) dNil)))) dNext))))
theorem v_beside_systems (args : List Val) (Φ : Val → Prop) (h : sp_beside_systems args Φ) : D_beside_systems (kRet Φ) (envS ["one", "other", "n", "found", "constant", "singles", "pairs", "moved", "i", "j"] args) := by
  obtain ⟨n, m, es, fs, rfl, hf, hn, hl, hΦ⟩ := h
  have gt : ¬ (12 : Int) < (n : Int) + m := by omega
  rw [D_beside_systems, dSeq]
  try simp [-dSeq, and_assoc, envS, sysD]
  rw [dSeq]
  try simp [-dSeq, and_assoc]
  refine .inl ⟨by omega, ?_⟩
  rw [dSeq]
  try simp [-dSeq, and_assoc]
  refine forW_map eqD (fun r e => ∃ (gs : List EqS) (z4 z5 z6 z7 : Option Val), e = [some (.d (T [I n, T (es.map eqD)])), some (.d (T [I m, T (fs.map eqD)])), some (.d (I n)), some (.own ((es ++ gs.map (movE n)).map eqD)), z4, z5, z6, z7, none, none] ∧ gs ++ r = fs) ?_ ?_ fs _ ⟨[], none, none, none, none, by simp, rfl⟩
  · rintro e ⟨gs, z4, z5, z6, z7, rfl, h⟩
    have h : gs = fs := by simpa using h
    subst h
    simp [-dSeq, and_assoc]
    rw [dSeq]
    simp [-dSeq, and_assoc]
    refine ⟨n + m, besS n es gs, by simp [besS], by simp [besS]; omega, ?_⟩
    exact hΦ
  · rintro x r e ⟨gs, z4, z5, z6, z7, rfl, h⟩ N hN
    have hx : x ∈ fs := by rw [← h]; simp
    have ox := hf x hx
    have l1 := ox.ls
    have l2 := ox.lp
    have mm : m * m ≤ 12 * 12 := Nat.mul_le_mul (by omega) (by omega)
    have gl : gs.length ≤ fs.length := by rw [← h]; simp
    simp [-dSeq, and_assoc, eqD]
    rw [dSeq]
    simp [-dSeq, and_assoc]
    refine compW_all (fun q : Nat × Nat => T [I q.1, I q.2]) (fun q => T [I ((q.1 : Int) + n), I ((q.2 : Int) + n)]) x.2.2 (by omega) (fun q hq M hM => by simpa [and_assoc] using hM) ?_
    simp [-dSeq, and_assoc]
    rw [dSeq]
    simp [-dSeq, and_assoc]
    refine compW_all (fun i : Nat => I i) (fun i : Nat => I ((i : Int) + n)) x.2.1 (by omega) (fun i hi M hM => by simpa using hM) ?_
    simp [-dSeq, and_assoc]
    refine ⟨by omega, hN _ ⟨gs ++ [x], some (.d (I x.1)), some (.d (T (x.2.1.map fun (i : Nat) => I i))), some (.d (T (x.2.2.map fun q => T [I q.1, I q.2]))), some (.d (.tuple (x.2.2.map fun q => T [I ((q.1 : Int) + n), I ((q.2 : Int) + n)]))), ?_, by rw [← h]; simp⟩⟩
    simp [mov_eqD]
end Ev
set_option Elab.async false
set_option linter.all false
set_option maxRecDepth 100000
/-! V29: proofs beside one another. -/
namespace Ev
open PySem PySem.Spec PyProof.Rows L2

/-! ### plain -/
def mat (k : Nat) (xs : List Int) (i j : Nat) : Int := xs.getD (i * k + j) 0
theorem mat_bit {k : Nat} {xs : List Int} (h : Bits xs) (i j : Nat) : mat k xs i j = 0 ∨ mat k xs i j = 1 := getD_bit h _
theorem mat_cut {k : Nat} {xs : List Int} {i : Nat} (hl : xs.length = k * k) (hi : i < k) : cutD (xs.map .int) (some ((i : Int) * k)) (some ((i : Int) * k + k)) = (tab k (mat k xs i)).map .int := by
  have h1 : (i + 1) * k ≤ k * k := Nat.mul_le_mul_right k hi
  rw [Nat.add_mul] at h1
  have e : (i : Int) * k = ((i * k : Nat) : Int) := by push_cast; rfl
  rw [e, cut_nat (by simp; omega)]
  rw [← List.map_drop, ← List.map_take]
  congr 1
  refine List.ext_getElem (by simp [tab_length]; omega) fun j h2 h3 => ?_
  simp [tab_length] at h3
  simp [tab, mat, List.getD, List.getElem?_eq_getElem (show i * k + j < xs.length by omega)]
def matD (k : Nat) (M : Nat → Nat → Int) : List PyData := (List.range k).map fun i => TI (tab k (M i))
def sq (a n : Nat) (M : Nat → Nat → Int) : List Int := (List.range n).flatMap fun i => tab n fun j => M (a + i) (a + j)
def mixR (n m : Nat) (M : Nat → Nat → Int) (i : Nat) : List Int := tab m fun j => (M i (n + j) + M (n + j) i) % 2
def crs (n m : Nat) (f p : Nat → Int) (M : Nat → Nat → Int) : Int := sumN n fun i => f (2 ^ (n - 1 - i)) * p (plc (mixR n m M i))
def besF (n m : Nat) (f p : Nat → Int) (x : Nat) : Int := (f (plc ((rowN (n + m) x).take n)) + p (plc ((rowN (n + m) x).drop n))) % 2
def besG (n m : Nat) (f g p q : Nat → Int) (y : Nat) : Int :=
  let M := mat (n + m) (rowN ((n + m) * (n + m)) y)
  (g (plc (sq 0 n M)) + q (plc (sq n m M)) + crs n m f p M) % 2
theorem sq_len (a n : Nat) (M : Nat → Nat → Int) : (sq a n M).length = n * n := by
  unfold sq
  have : ∀ l : List Nat, (l.flatMap fun i => tab n fun j => M (a + i) (a + j)).length = l.length * n := fun l => by
    induction l with
    | nil => simp
    | cons x l ih => rw [List.flatMap_cons, List.length_append, tab_length, ih, List.length_cons, Nat.add_mul]; omega
  rw [this, List.length_range]
theorem sq_bits {M : Nat → Nat → Int} (h : ∀ i j, M i j = 0 ∨ M i j = 1) (a n : Nat) : Bits (sq a n M) := fun b hb => by
  simp only [sq, List.mem_flatMap, tab, List.mem_map, List.mem_range] at hb
  obtain ⟨i, _, j, _, rfl⟩ := hb
  exact h _ _
theorem mixR_bits (n m : Nat) (M : Nat → Nat → Int) (i : Nat) : Bits (mixR n m M i) := bits_tab' fun j _ => by omega
theorem mixR_len (n m : Nat) (M : Nat → Nat → Int) (i : Nat) : (mixR n m M i).length = m := tab_length ..
theorem unit_place : ∀ n, n ≤ 4 → ∀ i, i < n → placeF 0 (tab n (ind [i])) = ((2 ^ (n - 1 - i) : Nat) : Int) := by decide +kernel
theorem val_at {n : Nat} {t : Nat → Int} {xs : List Int} (hb : Bits xs) (hl : xs.length = n) {Φ : Val → Prop} (h : Φ (.d (.int (t (plc xs))))) : sp_value_at [.d (TI (tab (2 ^ n) t)), .d (TI xs)] Φ := by
  subst hl
  exact ⟨2 ^ xs.length, plc xs, t, xs, rfl, (plc_ok hb).2.2, (plc_ok hb).1, h⟩
theorem take_bits {xs : List Int} (h : Bits xs) (n : Nat) : Bits (xs.take n) := fun b hb => h b (List.mem_of_mem_take hb)
theorem drop_bits {xs : List Int} (h : Bits xs) (n : Nat) : Bits (xs.drop n) := fun b hb => h b (List.mem_of_mem_drop hb)
theorem besF_bit (n m : Nat) (f p : Nat → Int) (N : Nat) : BitF N (besF n m f p) := fun i _ => by unfold besF; omega
theorem besG_bit (n m : Nat) (f g p q : Nat → Int) (N : Nat) : BitF N (besG n m f g p q) := fun i _ => by simp only [besG]; omega

/-! ### defs -/
def sp_matrix_of : FSpec := fun args Φ => ∃ (k : Nat) (xs : List Int), args = [.d (.int k), .d (TI xs)] ∧ xs.length = k * k ∧ k ≤ 100 ∧ Φ (.d (T (matD k (mat k xs))))
def D_matrix_of : DS := (dSeq (dRet (dUn oTuple (dLc [2] (dRng1 (dCons (dVar 0) dNil)) (tName 2) dYes (dSl (dVar 1) (dSomeP (dBin oMul (dVar 2) (dVar 0))) (dSomeP (dBin oAdd (dBin oMul (dVar 2) (dVar 0)) (dVar 0))))))) dNext)
theorem v_matrix_of (args : List Val) (Φ : Val → Prop) (h : sp_matrix_of args Φ) : D_matrix_of (kRet Φ) (envS ["n", "laid", "i"] args) := by
  obtain ⟨k, xs, rfl, hl, hk, hΦ⟩ := h
  have kk : k * k ≤ 100 * 100 := Nat.mul_le_mul hk hk
  simp [D_matrix_of, envS]
  refine ⟨by omega, ?_⟩
  refine compW_all (fun i : Nat => I i) (fun i => TI (tab k (mat k xs i))) (List.range k) (by simp; omega) (fun i hi M hM => ?_) hΦ
  have hi := List.mem_range.mp hi
  have ik : i * k ≤ 100 * 100 := Nat.mul_le_mul (by omega) hk
  have e : (i : Int) * k = ((i * k : Nat) : Int) := by push_cast; rfl
  simp [and_assoc]
  rw [mat_cut hl hi]
  exact ⟨cm_small (by omega), hM⟩
def sp_part_of : FSpec := fun args Φ => ∃ (k a n : Nat) (M : Nat → Nat → Int), args = [.d (T (matD k M)), .d (.list ((List.range n).map fun i => I ((a + i : Nat) : Int)))] ∧ a + n ≤ k ∧ k ≤ 100 ∧ Φ (.d (TI (sq a n M)))
theorem mat_at {k : Nat} {M : Nat → Nat → Int} {i : Nat} (h : i < k) : atI (matD k M) (i : Int) = some (TI (tab k (M i))) := at_nat (by simp [matD, h])
theorem mat_at2 {k : Nat} {f : Nat → Int} {i : Nat} (h : i < k) : atI ((tab k f).map PyData.int) (i : Int) = some (I (f i)) := at_nat (by simp [tab, h])
theorem mat_atP {k : Nat} {M : Nat → Nat → Int} {a i : Nat} (h : a + i < k) : atI (matD k M) ((a : Int) + (i : Int)) = some (TI (tab k (M (a + i)))) := by
  rw [show (a : Int) + (i : Int) = ((a + i : Nat) : Int) by omega]; exact mat_at h
theorem mat_at2P {k : Nat} {f : Nat → Int} {a i : Nat} (h : a + i < k) : atI ((tab k f).map PyData.int) ((a : Int) + (i : Int)) = some (I (f (a + i))) := by
  rw [show (a : Int) + (i : Int) = ((a + i : Nat) : Int) by omega]; exact mat_at2 h
def D_part_of : DS := (dSeq (dSet 2 (dLst dNil)) (dSeq (dFor (dSeqI (dVar 1)) (tName 3) (dSeq (dExpr (dExt 2 (dLc [4] (dSeqI (dVar 1)) (tName 4) dYes (dBin oIxS (dBin oIxS (dVar 0) (dVar 3)) (dVar 4))))) dNext)) (dSeq (dRet (dUn oTuple (dVar 2))) dNext)))
theorem v_part_of (args : List Val) (Φ : Val → Prop) (h : sp_part_of args Φ) : D_part_of (kRet Φ) (envS ["matrix", "places", "found", "i", "j"] args) := by
  obtain ⟨k, a, n, M, rfl, hn, hk, hΦ⟩ := h
  have kk : n * n ≤ 100 * 100 := Nat.mul_le_mul (by omega) (by omega)
  simp [D_part_of, envS]
  refine forW_range _ n (fun t e => ∃ z3, e = [some (.d (T (matD k M))), some (.d (.list ((List.range n).map fun (i : Nat) => I ((a : Int) + (i : Int))))), some (.own (((List.range t).flatMap fun i => tab n fun j => M (a + i) (a + j)).map .int)), z3, none]) ?_ ?_ _ ⟨none, rfl⟩
  · rintro e ⟨z3, rfl⟩
    simp
    exact hΦ
  · rintro i hi e ⟨z3, rfl⟩ N hN
    simp [and_assoc]
    refine compW_all (fun j : Nat => I ((a : Int) + (j : Int))) (fun j => I (M (a + i) (a + j))) (List.range n) (by simp; omega) (fun j hj S hS => ?_) ?_
    · have hj := List.mem_range.mp hj
      simp [and_assoc]
      rw [mat_atP (by omega)]
      refine ⟨_, rfl, _, rfl, ?_⟩
      rw [mat_at2P (by omega)]
      exact ⟨_, rfl, hS⟩
    · have e1 : ((List.range i).flatMap fun i => tab n fun j => M (a + i) (a + j)).length ≤ n * n := by
        have : ∀ l : List Nat, (l.flatMap fun i => tab n fun j => M (a + i) (a + j)).length = l.length * n := fun l => by
          induction l with
          | nil => simp
          | cons x l ih => rw [List.flatMap_cons, List.length_append, tab_length, ih, List.length_cons, Nat.add_mul]; omega
        rw [this, List.length_range]
        exact Nat.mul_le_mul_right n (by omega)
      have e2 : ((List.range i).flatMap fun i => tab n fun j => M (a + i) (a + j)).map PyData.int ++ (List.range n).map (fun j => I (M (a + i) (a + j))) = ((List.range (i + 1)).flatMap fun i => tab n fun j => M (a + i) (a + j)).map .int := by
        rw [List.range_succ, List.flatMap_append, List.map_append, ints_tab]
        simp
      refine ⟨_, rfl, by rw [List.length_map, List.length_map, List.length_range]; omega, ?_⟩
      rw [e2]
      exact hN _ ⟨_, rfl⟩
def sp_crossed : FSpec := fun args Φ => ∃ (n m : Nat) (f g p q : Nat → Int) (M : Nat → Nat → Int), args = [.d (prD n (n * n) f g), .d (prD m (m * m) p q), .d (.int n), .d (.int m), .d (T (matD (n + m) M))] ∧ n + m ≤ 4 ∧ BitF (2 ^ n) f ∧ BitF (2 ^ m) p ∧ Φ (.d (.int (crs n m f p M)))
def D_crossed : DS := (dSeq (dSet 5 (dC (.int 0))) (dSeq (dFor (dRng1 (dCons (dVar 2) dNil)) (tName 6) (dSeq (dSet 7 (dUn oTuple (dLc [8] (dRng1 (dCons (dVar 3) dNil)) (tName 8) dYes (dBin oMod (dBin oAdd (dBin oIxS (dBin oIxS (dVar 4) (dVar 6)) (dBin oAdd (dVar 2) (dVar 8))) (dBin oIxS (dBin oIxS (dVar 4) (dBin oAdd (dVar 2) (dVar 8))) (dVar 6))) (dC (.int 2)))))) (dSeq (dSet 5 (dBin oAdd (dVar 5) (dBin oMul (dCall 2 sp_value_at (dCons (dBin oIxS (dVar 0) (dC (.int 0))) (dCons (dCall 2 sp_lot_row (dCons (dVar 2) (dCons (dTup (dCons (dVar 6) dNil)) dNil))) dNil))) (dCall 2 sp_value_at (dCons (dBin oIxS (dVar 1) (dC (.int 0))) (dCons (dVar 7) dNil)))))) dNext))) (dSeq (dRet (dVar 5)) dNext)))
theorem v_crossed (args : List Val) (Φ : Val → Prop) (h : sp_crossed args Φ) : D_crossed (kRet Φ) (envS ["one", "other", "n", "m", "matrix", "found", "i", "row", "j"] args) := by
  obtain ⟨n, m, f, g, p, q, M, rfl, hn, hf, hp, hΦ⟩ := h
  rw [D_crossed, dSeq]
  simp [-dSeq, envS, prD]
  rw [dSeq]
  simp [-dSeq]
  refine ⟨by omega, ?_⟩
  refine forW_range _ n (fun i e => ∃ z6 z7, e = [some (.d (prD n (n * n) f g)), some (.d (prD m (m * m) p q)), some (.d (I n)), some (.d (I m)), some (.d (T (matD (n + m) M))), some (.d (I (sumN i fun i => f (2 ^ (n - 1 - i)) * p (plc (mixR n m M i))))), z6, z7, none]) ?_ ?_ _ ⟨none, none, rfl⟩
  · rintro e ⟨z6, z7, rfl⟩
    simp
    exact hΦ
  · rintro i hi e ⟨z6, z7, rfl⟩ N hN
    simp [-dSeq]
    rw [dSeq]
    simp [-dSeq, and_assoc]
    refine ⟨by omega, ?_⟩
    refine compW_tab (fun j => PyData.int j) (fun j => I ((M i (n + j) + M (n + j) i) % 2)) (by omega) (fun j hj S hS => ?_) ?_
    · simp [and_assoc]
      rw [mat_at (show i < n + m by omega), mat_atP (by omega)]
      refine ⟨_, rfl, _, rfl, ?_⟩
      rw [mat_at2P (by omega)]
      refine ⟨_, rfl, _, rfl, _, rfl, ?_⟩
      rw [mat_at2 (show i < n + m by omega)]
      refine ⟨_, rfl, ?_⟩
      simpa using hS
    · simp [-dSeq, and_assoc]
      rw [dSeq]
      simp [-dSeq, and_assoc]
      refine ⟨_, rfl, _, at0, n, _, [i], rfl, rfl, by omega, by simp, ?_⟩
      have hi4 := unit_place n (by omega) i hi
      have lt : 2 ^ (n - 1 - i) < 2 ^ n := Nat.pow_lt_pow_right (by decide) (by omega)
      refine ⟨2 ^ n, 2 ^ (n - 1 - i), f, _, rfl, hi4, lt, ?_⟩
      have mx : PyData.tuple ((List.range m).map fun j => I ((M i (n + j) + M (n + j) i) % 2)) = TI (mixR n m M i) := by rw [ints_tab]; rfl
      rw [mx]
      have vp := hp _ (show plc (mixR n m M i) < 2 ^ m from by have := (plc_ok (mixR_bits n m M i)).1; rwa [mixR_len] at this)
      have vf := hf _ lt
      simp [and_assoc]
      refine ⟨_, rfl, _, at0, ?_⟩
      refine val_at (mixR_bits n m M i) (mixR_len n m M i) ?_
      simp
      refine ⟨cm_small (by rcases vf with h | h <;> rw [h] <;> omega), ?_⟩
      exact hN _ ⟨_, _, rfl⟩
theorem rng_0 (n : Nat) : rngD 0 (n : Int) = (List.range n).map fun (i : Nat) => I ((0 + i : Nat) : Int) := by
  unfold rngD
  rw [show ((n : Int) - 0).toNat = n by omega]
  refine List.map_congr_left fun i hi => ?_
  simp
theorem rng_a (a m : Nat) : rngD (a : Int) ((a : Int) + (m : Int)) = (List.range m).map fun (i : Nat) => I ((a + i : Nat) : Int) := by
  unfold rngD
  rw [show ((a : Int) + (m : Int) - (a : Int)).toNat = m by omega]
  refine List.map_congr_left fun i hi => ?_
  simp
theorem tab_push {i : Nat} {F : Nat → Int} {x : Int} (h : x = F i) : (tab i F).map PyData.int ++ [PyData.int x] = (tab (i + 1) F).map .int := by
  subst h
  simp [tab, List.range_succ]
def sp_beside_proof : FSpec := fun args Φ => ∃ (n m : Nat) (f g p q : Nat → Int), args = [.d (prD n (n * n) f g), .d (prD m (m * m) p q)] ∧ n + m ≤ 3 ∧ BitF (2 ^ n) f ∧ BitF (2 ^ m) p ∧ Φ (.d (prD (n + m) ((n + m) * (n + m)) (besF n m f p) (besG n m f g p q)))
def D_beside_proof : DS := (dSeq (dPar2 2 3 (dCall 1 sp_table_letters (dCons (dBin oIxS (dVar 0) (dC (.int 0))) dNil)) (dCall 1 sp_table_letters (dCons (dBin oIxS (dVar 1) (dC (.int 0))) dNil))) (dSeq (dIfS (dTst (dBin oGt (dBin oAdd (dVar 2) (dVar 3)) (dC (.int 3)))) (dSeq dNever dNext) dNext) (dSeq (dSet 4 (dLc [11] (dSeqI (dCall 1 sp_all_rows (dCons (dBin oAdd (dVar 2) (dVar 3)) dNil))) (tName 11) dYes (dBin oMod (dBin oAdd (dCall 2 sp_value_at (dCons (dBin oIxS (dVar 0) (dC (.int 0))) (dCons (dSl (dVar 11) dNoP (dSomeP (dVar 2))) dNil))) (dCall 2 sp_value_at (dCons (dBin oIxS (dVar 1) (dC (.int 0))) (dCons (dSl (dVar 11) (dSomeP (dVar 2)) dNoP) dNil)))) (dC (.int 2))))) (dSeq (dPar2 5 6 (dLst dNil) (dBin oMul (dBin oAdd (dVar 2) (dVar 3)) (dBin oAdd (dVar 2) (dVar 3)))) (dSeq (dFor (dRng1 (dCons (dBin oShl (dC (.int 1)) (dVar 6)) dNil)) (tName 7) (dSeq (dSet 8 (dCall 2 sp_matrix_of (dCons (dBin oAdd (dVar 2) (dVar 3)) (dCons (dCall 2 sp_row_at (dCons (dVar 6) (dCons (dVar 7) dNil))) dNil)))) (dSeq (dSet 9 (dCall 2 sp_value_at (dCons (dBin oIxS (dVar 0) (dC (.int 1))) (dCons (dCall 2 sp_part_of (dCons (dVar 8) (dCons (dListR1 (dVar 2)) dNil))) dNil)))) (dSeq (dSet 10 (dCall 2 sp_value_at (dCons (dBin oIxS (dVar 1) (dC (.int 1))) (dCons (dCall 2 sp_part_of (dCons (dVar 8) (dCons (dListR2 (dVar 2) (dBin oAdd (dVar 2) (dVar 3))) dNil))) dNil)))) (dSeq (dExpr (dApp 5 (dBin oMod (dBin oAdd (dBin oAdd (dVar 9) (dVar 10)) (dCall 5 sp_crossed (dCons (dVar 0) (dCons (dVar 1) (dCons (dVar 2) (dCons (dVar 3) (dCons (dVar 8) dNil))))))) (dC (.int 2))))) dNext))))) (dSeq (dRet (dTup (dCons (dUn oTuple (dVar 4)) (dCons (dUn oTuple (dVar 5)) dNil)))) dNext))))))
theorem v_beside_proof (args : List Val) (Φ : Val → Prop) (h : sp_beside_proof args Φ) : D_beside_proof (kRet Φ) (envS ["one", "other", "n", "m", "f", "g", "size", "place", "matrix", "first", "second", "row"] args) := by
  obtain ⟨n, m, f, g, p, q, rfl, hn, hf, hp, hΦ⟩ := h
  have nn : (n + m) * (n + m) ≤ 3 * 3 := Nat.mul_le_mul hn hn
  have two : 2 ^ (n + m) ≤ 2 ^ 3 := two_le hn
  have two2 : 2 ^ ((n + m) * (n + m)) ≤ 2 ^ 9 := two_le nn
  have cc : ((n : Int) + m) * ((n : Int) + m) = (((n + m) * (n + m) : Nat) : Int) := by push_cast; rfl
  have c1 : ∀ xs : List Int, xs.length = n + m → cutD (xs.map PyData.int) none (some (n : Int)) = (xs.map PyData.int).take n := fun xs h => cut_to (by simp; omega)
  have c2 : ∀ xs : List Int, xs.length = n + m → cutD (xs.map PyData.int) (some (n : Int)) none = (xs.map PyData.int).drop n := fun xs h => cut_from (by simp; omega)
  rw [D_beside_proof, dSeq]
  simp [-dSeq, envS, prD, and_assoc]
  refine ⟨n, f, rfl, by omega, ?_⟩
  simp [-dSeq, and_assoc]
  refine ⟨m, p, rfl, by omega, ?_⟩
  simp [-dSeq, and_assoc]
  rw [dSeq]
  simp [-dSeq, and_assoc]
  refine .inl ⟨by omega, ?_⟩
  rw [dSeq]
  simp [-dSeq, and_assoc]
  refine ⟨n + m, by simp, by omega, ?_⟩
  simp [-dSeq, and_assoc]
  rw [rowsN_tab, List.map_map]
  refine compW_tab (fun x => TI (rowN (n + m) x)) (fun x => I (besF n m f p x)) (by omega) (fun x hx S hS => ?_) ?_
  · have rl := rowN_length (n + m) x
    have rb := rowN_bits (n + m) x
    simp [and_assoc, c1 _ rl, c2 _ rl, ← List.map_take, ← List.map_drop]
    refine val_at (take_bits rb n) (by rw [List.length_take]; omega) ?_
    simp [and_assoc]
    rw [← List.map_drop]
    refine val_at (drop_bits rb n) (by rw [List.length_drop]; omega) ?_
    simpa [besF] using hS
  · simp [-dSeq, and_assoc]
    rw [dSeq]
    simp [-dSeq, and_assoc]
    refine ⟨cm_small (by omega), ?_⟩
    rw [cc, ints_tab]
    generalize hK : (n + m) * (n + m) = K at *
    rw [dSeq]
    simp [-dSeq, and_assoc, two_cast]
    refine ⟨⟨by omega, by omega, by decide⟩, ?_⟩
    rw [← two_cast]
    have n0 := Int.natCast_nonneg (2 ^ K)
    refine ⟨by omega, by omega, ?_⟩
    rw [Int.toNat_natCast]
    refine forW_range _ (2 ^ K) (fun i e => ∃ z7 z8 z9 z10, e = [some (.d (T [TI (tab (2 ^ n) f), TI (tab (2 ^ (n * n)) g)])), some (.d (T [TI (tab (2 ^ m) p), TI (tab (2 ^ (m * m)) q)])), some (.d (I n)), some (.d (I m)), some (.own ((tab (2 ^ (n + m)) (besF n m f p)).map .int)), some (.own ((tab i (besG n m f g p q)).map .int)), some (.d (I K)), z7, z8, z9, z10, none]) ?_ ?_ _ ⟨none, none, none, none, rfl⟩
    · rintro e ⟨z7, z8, z9, z10, rfl⟩
      simp
      exact hΦ
    · rintro i hi e ⟨z7, z8, z9, z10, rfl⟩ N hN
      simp [-dSeq]
      rw [dSeq]
      simp [-dSeq]
      refine ⟨K, i, rfl, by omega, ?_⟩
      have rl := rowN_length K i
      have rb := rowN_bits K i
      simp [-dSeq]
      refine ⟨n + m, rowN K i, rfl, by rw [rl, hK], by omega, ?_⟩
      have Mb := mat_bit (k := n + m) rb
      generalize hM : mat (n + m) (rowN K i) = M at *
      have k1 : ∀ Ψ : Val → Prop, Ψ (.d (TI (sq 0 n M))) → sp_part_of [.d (T (matD (n + m) M)), .d (.list (rngD 0 (n : Int)))] Ψ := fun Ψ h => ⟨n + m, 0, n, M, by rw [rng_0], by omega, by omega, h⟩
      have k2 : ∀ Ψ : Val → Prop, Ψ (.d (TI (sq n m M))) → sp_part_of [.d (T (matD (n + m) M)), .d (.list (rngD (n : Int) ((n : Int) + (m : Int))))] Ψ := fun Ψ h => ⟨n + m, n, m, M, by rw [rng_a], by omega, by omega, h⟩
      simp [-dSeq]
      rw [dSeq]
      simp [-dSeq, and_assoc]
      refine ⟨by unfold RgOk; omega, k1 _ ?_⟩
      simp [-dSeq, and_assoc]
      refine val_at (sq_bits Mb 0 n) (sq_len 0 n M) ?_
      try simp [-dSeq, and_assoc]
      rw [dSeq]
      simp [-dSeq, and_assoc]
      refine ⟨by unfold RgOk; omega, k2 _ ?_⟩
      simp [-dSeq, and_assoc]
      refine val_at (sq_bits Mb n m) (sq_len n m M) ?_
      try simp [-dSeq, and_assoc]
      rw [dSeq]
      simp [-dSeq, and_assoc]
      refine ⟨n, m, f, g, p, q, M, rfl, by omega, hf, hp, ?_⟩
      have ln : (tab i (besG n m f g p q)).length < 16777216 := by rw [tab_length]; omega
      have gi : besG n m f g p q i = (g (plc (sq 0 n M)) + q (plc (sq n m M)) + crs n m f p M) % 2 := by
        subst hK hM
        rfl
      simp [ln]
      rw [tab_push gi.symm]
      exact hN _ ⟨_, _, _, _, rfl⟩
end Ev
set_option Elab.async false
set_option linter.all false
set_option maxRecDepth 100000
set_option maxHeartbeats 4000000
/-! V30: the law's own beside. -/
namespace Ev
open PySem PySem.Spec PyProof.Rows L2

theorem rows_shR {v : Val} {R : List PyData} {env : Env} {Ψ : Val → Env → Prop} (hv : toL v = some R) (h : Ψ (.d (.list R)) env) : shR (.v v) env Ψ := by
  unfold toL at hv
  split at hv <;> first | (cases hv; exact h) | cases hv
theorem pl_at {n : Nat} {t : Nat → Int} {xs : List Int} (hb : Bits xs) (hl : xs.length = n) : atI ((tab (2 ^ n) t).map PyData.int) (placeF 0 xs) = some (I (t (plc xs))) := by
  subst hl
  rw [(plc_ok hb).2.2]
  exact mat_at2 (plc_ok hb).1
theorem plc_lt {n : Nat} {xs : List Int} (hb : Bits xs) (hl : xs.length = n) : plc xs < 2 ^ n := by
  subst hl; exact (plc_ok hb).1
theorem rp_fact {xs : List Int} {Ψ : Val → Prop} (h : Ψ (.d (.int (placeF 0 xs)))) : sp_row_place [.d (TI xs)] Ψ := ⟨xs, rfl, h⟩
theorem rp_fact' {xs : List Int} {Ψ : Val → Prop} (h : Ψ (.d (.int (placeF 0 xs)))) : sp_row_place [.d (.list (xs.map .int))] Ψ := ⟨xs, rfl, h⟩
def sp_law_beside : FSpec := fun args Φ => ∃ (n m : Nat) (f g p q : Nat → Int), args = [.d (.int n), .d (prD n (n * n) f g), .d (.int m), .d (prD m (m * m) p q)] ∧ n + m ≤ 3 ∧ BitF (2 ^ n) f ∧ BitF (2 ^ m) p ∧ BitF (2 ^ (n * n)) g ∧ BitF (2 ^ (m * m)) q ∧ Φ (.d (prD (n + m) ((n + m) * (n + m)) (besF n m f p) (besG n m f g p q)))
def D_law_beside_5 : DS := dNext
def D_law_beside_4 : DS := dSeq (dRet (dTup (dCons (dUn oTuple (dVar 9)) (dCons (dUn oTuple (dVar 10)) dNil)))) D_law_beside_5
def D_law_beside_3 : DS := dSeq (dFor (dSeqI (dCall 1 sp_law_rows (dCons (dBin oMul (dVar 4) (dVar 4)) dNil))) (tName 12) (dSeq (dSet 13 (dLc [16] (dRng1 (dCons (dVar 4) dNil)) (tName 16) dYes (dSl (dVar 12) (dSomeP (dBin oMul (dVar 16) (dVar 4))) (dSomeP (dBin oAdd (dBin oMul (dVar 16) (dVar 4)) (dVar 4)))))) (dSeq (dPar2 14 15 (dLst dNil) (dLst dNil)) (dSeq (dFor (dRng1 (dCons (dVar 0) dNil)) (tName 16) (dSeq (dExpr (dExt 14 (dSl (dBin oIxS (dVar 13) (dVar 16)) dNoP (dSomeP (dVar 0))))) dNext)) (dSeq (dFor (dRng2 (dCons (dVar 0) (dCons (dVar 4) dNil))) (tName 16) (dSeq (dExpr (dExt 15 (dSl (dBin oIxS (dVar 13) (dVar 16)) (dSomeP (dVar 0)) dNoP))) dNext)) (dSeq (dSet 17 (dBin oXor (dBin oIxS (dVar 6) (dCall 1 sp_row_place (dCons (dVar 14) dNil))) (dBin oIxS (dVar 8) (dCall 1 sp_row_place (dCons (dVar 15) dNil))))) (dSeq (dFor (dRng1 (dCons (dVar 0) dNil)) (tName 16) (dSeq (dSet 18 (dLc [19] (dRng1 (dCons (dVar 2) dNil)) (tName 19) dYes (dBin oXor (dBin oIxS (dBin oIxS (dVar 13) (dVar 16)) (dBin oAdd (dVar 0) (dVar 19))) (dBin oIxS (dBin oIxS (dVar 13) (dBin oAdd (dVar 0) (dVar 19))) (dVar 16))))) (dSeq (dSet 17 (dBin oXor (dVar 17) (dBin oAnd (dBin oIxS (dVar 5) (dBin oShl (dC (.int 1)) (dBin oSub (dBin oSub (dVar 0) (dC (.int 1))) (dVar 16)))) (dBin oIxS (dVar 7) (dCall 1 sp_row_place (dCons (dVar 18) dNil)))))) dNext))) (dSeq (dExpr (dApp 10 (dVar 17))) dNext)))))))) D_law_beside_4
def D_law_beside_2 : DS := dSeq (dFor (dSeqI (dCall 1 sp_law_rows (dCons (dVar 4) dNil))) (tName 11) (dSeq (dExpr (dApp 9 (dBin oXor (dBin oIxS (dVar 5) (dCall 1 sp_row_place (dCons (dSl (dVar 11) dNoP (dSomeP (dVar 0))) dNil))) (dBin oIxS (dVar 7) (dCall 1 sp_row_place (dCons (dSl (dVar 11) (dSomeP (dVar 0)) dNoP) dNil)))))) dNext)) D_law_beside_3
def D_law_beside_1 : DS := dSeq (dPar2 9 10 (dLst dNil) (dLst dNil)) D_law_beside_2
def D_law_beside_0 : DS := dSeq (dAsg (tTup 3 (tCons (tName 4) (tCons (tTup 2 (tCons (tName 5) (tCons (tName 6) tNil))) (tCons (tTup 2 (tCons (tName 7) (tCons (tName 8) tNil))) tNil)))) (dTup (dCons (dBin oAdd (dVar 0) (dVar 2)) (dCons (dVar 1) (dCons (dVar 3) dNil))))) D_law_beside_1
def D_law_beside : DS := D_law_beside_0
/-- what stays the same: slots 0 to 8 -/
def lbE (n m : Nat) (f g p q : Nat → Int) (r : Env) : Env := some (.d (.int n)) :: some (.d (T [TI (tab (2 ^ n) f), TI (tab (2 ^ (n * n)) g)])) :: some (.d (.int m)) :: some (.d (T [TI (tab (2 ^ m) p), TI (tab (2 ^ (m * m)) q)])) :: some (.d (.int ((n : Int) + m))) :: some (.d (TI (tab (2 ^ n) f))) :: some (.d (TI (tab (2 ^ (n * n)) g))) :: some (.d (TI (tab (2 ^ m) p))) :: some (.d (TI (tab (2 ^ (m * m)) q))) :: r
/-- the slots while one matrix is done -/
def lbR (n m : Nat) (f g p q : Nat → Int) (F Gi : List PyData) (z11 : Option Val) (row : Val) (M : Nat → Nat → Int) (here there : List Int) (z16 z17 z18 : Option Val) : Env :=
  lbE n m f g p q [some (.own F), some (.own Gi), z11, some row, some (.own ((List.range (n + m)).map fun j => TI (tab (n + m) (M j)))), some (.own (here.map .int)), some (.own (there.map .int)), z16, z17, z18, none]
def sqT (t a n : Nat) (M : Nat → Nat → Int) : List Int := (List.range t).flatMap fun i => tab n fun j => M (a + i) (a + j)
theorem sqT_succ (t a n : Nat) (M : Nat → Nat → Int) : sqT (t + 1) a n M = sqT t a n M ++ tab n fun j => M (a + t) (a + j) := by
  unfold sqT
  rw [List.range_succ, List.flatMap_append]; simp
theorem sqT_len (t a n : Nat) (M : Nat → Nat → Int) : (sqT t a n M).length = t * n := by
  induction t with
  | zero => simp [sqT]
  | succ t ih => rw [sqT_succ, List.length_append, ih, tab_length, Nat.add_mul]; omega
theorem tab_take {n m : Nat} {F : Nat → Int} : (tab (n + m) F).take n = tab n F := by
  rw [tab_add, List.take_left' (tab_length ..)]
theorem tab_drop {n m : Nat} {F : Nat → Int} : (tab (n + m) F).drop n = tab m fun j => F (n + j) := by
  rw [tab_add, List.drop_left' (tab_length ..)]
theorem v_law_beside (args : List Val) (Φ : Val → Prop) (h : sp_law_beside args Φ) : D_law_beside (kRet Φ) (envS ["n", "one", "m", "other", "k", "f", "g", "p", "q", "first", "second", "row", "laid", "rows", "here", "there", "i", "bit", "mixed", "j"] args) := by
  obtain ⟨n, m, f, g, p, q, rfl, hn, hf, hp, hg, hq, hΦ⟩ := h
  have nn : (n + m) * (n + m) ≤ 3 * 3 := Nat.mul_le_mul hn hn
  have two : 2 ^ (n + m) ≤ 2 ^ 3 := two_le hn
  have two2 : 2 ^ ((n + m) * (n + m)) ≤ 2 ^ 9 := two_le nn
  have cc : ((n : Int) + m) * ((n : Int) + m) = (((n + m) * (n + m) : Nat) : Int) := by push_cast; rfl
  have c1 : ∀ xs : List Int, xs.length = n + m → cutD (xs.map PyData.int) none (some (n : Int)) = (xs.map PyData.int).take n := fun xs h => cut_to (by simp; omega)
  have c2 : ∀ xs : List Int, xs.length = n + m → cutD (xs.map PyData.int) (some (n : Int)) none = (xs.map PyData.int).drop n := fun xs h => cut_from (by simp; omega)
  rw [D_law_beside, D_law_beside_0, dSeq]
  simp [-dSeq, envS, prD, and_assoc]
  rw [D_law_beside_1, dSeq]
  simp [-dSeq, envS, prD, and_assoc]
  rw [D_law_beside_2, dSeq]
  simp [-dSeq, envS, prD, and_assoc]
  refine ⟨n + m, by simp, by omega, fun v hv => ?_⟩
  refine rows_shR hv ⟨_, rfl, _, rfl, ?_⟩
  rw [rowsN_tab, List.map_map]
  refine forW_range _ (2 ^ (n + m)) (fun i e => ∃ z11, e = lbE n m f g p q [some (.own ((tab i (besF n m f p)).map .int)), some (.own []), z11, none, none, none, none, none, none, none, none]) ?_ ?_ _ ⟨none, rfl⟩
  · rintro e ⟨z11, rfl⟩
    show D_law_beside_3 _ _
    rw [D_law_beside_3, dSeq]
    simp [-dSeq, lbE, and_assoc]
    refine ⟨cm_small (by omega), ?_⟩
    rw [cc]
    generalize hK : (n + m) * (n + m) = K at *
    refine ⟨K, rfl, by omega, fun v hv => ?_⟩
    refine rows_shR hv ⟨_, rfl, _, rfl, ?_⟩
    rw [rowsN_tab, List.map_map]
    refine forW_range _ (2 ^ K) (fun i e => ∃ (z11 z12 z13 z14 z15 : Option Val) (z16 : Option PyData) (z17 z18 : Option Val), e = lbE n m f g p q [some (.own ((tab (2 ^ (n + m)) (besF n m f p)).map .int)), some (.own ((tab i (besG n m f g p q)).map .int)), z11, z12, z13, z14, z15, z16.map Val.d, z17, z18, none]) ?_ ?_ _ ⟨_, none, none, none, none, none, none, none, rfl⟩
    · rintro e ⟨z11, z12, z13, z14, z15, z16, z17, z18, rfl⟩
      show D_law_beside_4 _ _
      rw [D_law_beside_4, dSeq]
      simp [-dSeq, lbE, and_assoc]
      exact hΦ
    · rintro i hi e ⟨z11, z12, z13, z14, z15, z16, z17, z18, rfl⟩ N hN
      have rl := rowN_length K i
      have rb := rowN_bits K i
      have Mb := mat_bit (k := n + m) rb
      have mc : ∀ j, j < n + m → cutD ((rowN K i).map PyData.int) (some ((j : Int) * ((n : Int) + m))) (some ((j : Int) * ((n : Int) + m) + ((n : Int) + m))) = (tab (n + m) (mat (n + m) (rowN K i) j)).map .int := fun j hj => by
        have := mat_cut (k := n + m) (xs := rowN K i) (i := j) (by rw [rl, hK]) hj
        push_cast at this
        exact this
      have gi : besG n m f g p q i = (g (plc (sq 0 n (mat (n + m) (rowN K i)))) + q (plc (sq n m (mat (n + m) (rowN K i)))) + crs n m f p (mat (n + m) (rowN K i))) % 2 := by
        subst hK
        rfl
      unfold crs at gi
      generalize hM : mat (n + m) (rowN K i) = M at *
      obtain ⟨zz, ez⟩ : ∃ zz, zz = z16 := ⟨_, rfl⟩
      rcases z16 with _ | z16
      all_goals
        simp [-dSeq, lbE]
        rw [dSeq]
        simp [-dSeq, and_assoc]
        refine ⟨by omega, by omega, ?_⟩
        rw [show ((n : Int) + (m : Int)).toNat = n + m by omega]
        refine compW_tab (fun i => PyData.int i) (fun j => TI (tab (n + m) (M j))) (by omega) (fun j hj S hS => ?_) ?_
        · have e : (j : Int) * ((n : Int) + m) = ((j * (n + m) : Nat) : Int) := by push_cast; rfl
          have jb : j * (n + m) ≤ 3 * 3 := Nat.mul_le_mul (by omega) hn
          simp [and_assoc, mc j hj]
          exact ⟨cm_small (by omega), hS⟩
        simp [-dSeq, and_assoc]
        rw [dSeq]
        simp [-dSeq, and_assoc]
        rw [dSeq]
        simp [-dSeq, and_assoc]
        refine ⟨by omega, ?_⟩
        refine forW_range _ n (fun t e => ∃ z16 : Option PyData, e = lbR n m f g p q ((tab (2 ^ (n + m)) (besF n m f p)).map .int) ((tab i (besG n m f g p q)).map .int) z11 (.d (TI (rowN K i))) M (sqT t 0 n M) [] (z16.map Val.d) z17 z18) ?_ ?_ _ ⟨zz, by rw [ez]; rfl⟩
        · rintro e ⟨z16', rfl⟩
          simp only [lbR, lbE]
          simp [-dSeq, and_assoc]
          rw [dSeq]
          simp [-dSeq, and_assoc]
          refine ⟨by omega, by omega, by omega, ?_⟩
          rw [show ((n : Int) + (m : Int)).toNat - n = m by omega]
          refine forW_range _ m (fun t e => ∃ z16 : Option PyData, e = lbR n m f g p q ((tab (2 ^ (n + m)) (besF n m f p)).map .int) ((tab i (besG n m f g p q)).map .int) z11 (.d (TI (rowN K i))) M (sq 0 n M) (sqT t n m M) (z16.map Val.d) z17 z18) ?_ ?_ _ ⟨z16', rfl⟩
          · rintro e ⟨z16', rfl⟩
            simp only [lbR, lbE]
            rw [show sqT m n m M = sq n m M from rfl]
            rw [dSeq]
            simp [-dSeq, and_assoc]
            refine rp_fact' ?_
            simp [-dSeq, and_assoc]
            have b1 := sq_bits Mb 0 n
            have b2 := sq_bits Mb n m
            have l1 := sq_len 0 n M
            have l2 := sq_len n m M
            refine ⟨_, pl_at b1 l1, ?_⟩
            refine rp_fact' ?_
            simp [-dSeq, and_assoc]
            refine ⟨_, pl_at b2 l2, _, rfl, ?_⟩
            rw [xor_bit (hg _ (plc_lt b1 l1)) (hq _ (plc_lt b2 l2))]
            rw [dSeq]
            simp [-dSeq, and_assoc]
            refine ⟨by omega, ?_⟩
            refine forW_range _ n (fun t e => ∃ (z16 : Option PyData) (z18 : Option Val), e = lbE n m f g p q [some (.own ((tab (2 ^ (n + m)) (besF n m f p)).map .int)), some (.own ((tab i (besG n m f g p q)).map .int)), z11, some (.d (TI (rowN K i))), some (.own ((List.range (n + m)).map fun j => TI (tab (n + m) (M j)))), some (.d (.list ((sq 0 n M).map .int))), some (.d (.list ((sq n m M).map .int))), z16.map Val.d, some (.d (I ((g (plc (sq 0 n M)) + q (plc (sq n m M)) + sumN t fun i => f (2 ^ (n - 1 - i)) * p (plc (mixR n m M i))) % 2))), z18, none]) ?_ ?_ _ ⟨z16', z18, ?_⟩
            · rintro e ⟨z16'', z18', rfl⟩
              simp only [lbE]
              simp [tab_length]
              refine ⟨by omega, ?_⟩
              rw [tab_push gi.symm]
              exact hN _ ⟨_, _, _, _, _, _, _, _, rfl⟩
            · rintro t ht e ⟨z16'', z18', rfl⟩ N' hN'
              simp only [lbE]
              simp [-dSeq, and_assoc]
              rw [dSeq]
              simp [-dSeq, and_assoc]
              refine ⟨by omega, ?_⟩
              refine compW_tab (fun j => PyData.int j) (fun j => I ((M t (n + j) + M (n + j) t) % 2)) (by omega) (fun j hj S hS => ?_) ?_
              · simp [and_assoc]
                refine ⟨_, mat_at (k := n + m) (M := M) (show t < n + m by omega), _, rfl, _, mat_at2P (show n + j < n + m by omega), _, mat_atP (k := n + m) (M := M) (show n + j < n + m by omega), _, rfl, _, mat_at2 (show t < n + m by omega), ?_⟩
                refine ⟨_, rfl, _, rfl, ?_⟩
                rw [xor_bit (Mb _ _) (Mb _ _)]
                exact hS
              · rw [ints_tab]
                simp [-dSeq, and_assoc]
                rw [dSeq]
                simp [-dSeq, and_assoc]
                have lt2 : 2 ^ (n - 1 - t) < 2 ^ n := Nat.pow_lt_pow_right (by decide) (by omega)
                have bm := mixR_bits n m M t
                have lm := mixR_len n m M t
                refine ⟨⟨by omega, by omega, by decide⟩, ?_⟩
                rw [← two_cast]
                refine ⟨_, mat_at2 lt2, ?_⟩
                rw [show (tab m fun j => (M t (n + j) + M (n + j) t) % 2) = mixR n m M t from rfl]
                refine rp_fact' ?_
                simp [-dSeq, and_assoc]
                refine ⟨_, pl_at bm lm, _, rfl, ?_⟩
                rw [and_bit (hf _ lt2) (hp _ (plc_lt bm lm)), xor_bit (by omega) (by
                  rcases hf _ lt2 with h | h <;> rcases hp _ (plc_lt bm lm) with h' | h' <;> rw [h, h'] <;> simp)]
                refine hN' _ ⟨some (I t), some (.d (.list ((mixR n m M t).map .int))), ?_⟩
                have e : ((g (plc (sq 0 n M)) + q (plc (sq n m M)) + sumN t fun i => f (2 ^ (n - 1 - i)) * p (plc (mixR n m M i))) % 2 + f (2 ^ (n - 1 - t)) * p (plc (mixR n m M t))) % 2 = (g (plc (sq 0 n M)) + q (plc (sq n m M)) + sumN (t + 1) fun i => f (2 ^ (n - 1 - i)) * p (plc (mixR n m M i))) % 2 := by
                  rw [show (sumN (t + 1) fun i => f (2 ^ (n - 1 - i)) * p (plc (mixR n m M i))) = (sumN t fun i => f (2 ^ (n - 1 - i)) * p (plc (mixR n m M i))) + f (2 ^ (n - 1 - t)) * p (plc (mixR n m M t)) from rfl]
                  generalize f (2 ^ (n - 1 - t)) * p (plc (mixR n m M t)) = y
                  omega
                rw [e]
                rfl
            · simp [lbE, sumN]
          · rintro t ht e ⟨z16', rfl⟩ N' hN'
            have tn : t * m ≤ 3 * 3 := Nat.mul_le_mul (by omega) (by omega)
            have ct := c2 (tab (n + m) (M (n + t))) (tab_length ..)
            rw [← List.map_drop, tab_drop] at ct
            simp only [lbR, lbE]
            simp [-dSeq, and_assoc]
            rw [dSeq]
            simp [-dSeq, and_assoc]
            refine ⟨_, mat_atP (k := n + m) (M := M) (show n + t < n + m by omega), ?_⟩
            simp [-dSeq, ct, and_assoc, tab_length, sqT_len]
            refine ⟨by omega, ?_⟩
            rw [← List.map_append, ← sqT_succ]
            exact hN' _ ⟨some _, rfl⟩
        · rintro t ht e ⟨z16', rfl⟩ N' hN'
          have tn : t * n ≤ 3 * 3 := Nat.mul_le_mul (by omega) (by omega)
          have ct := c1 (tab (n + m) (M t)) (tab_length ..)
          rw [← List.map_take, tab_take] at ct
          simp only [lbR, lbE]
          simp [-dSeq, and_assoc]
          rw [dSeq]
          simp [-dSeq, and_assoc]
          refine ⟨_, mat_at (k := n + m) (M := M) (show t < n + m by omega), ?_⟩
          simp [-dSeq, ct, and_assoc, tab_length, sqT_len]
          refine ⟨by omega, ?_⟩
          have e : tab n (M t) = tab n fun j => M (0 + t) (0 + j) := by simp only [Nat.zero_add]
          rw [← List.map_append, e, ← sqT_succ]
          exact hN' _ ⟨some _, rfl⟩
  · rintro i hi e ⟨z11, rfl⟩ N hN
    have rl := rowN_length (n + m) i
    have rb := rowN_bits (n + m) i
    have bt := take_bits rb n
    have bd := drop_bits rb n
    have lt : ((rowN (n + m) i).take n).length = n := by rw [List.length_take]; omega
    have ld : ((rowN (n + m) i).drop n).length = m := by rw [List.length_drop]; omega
    simp [lbE, and_assoc, c1 _ rl, c2 _ rl, ← List.map_take, ← List.map_drop]
    refine rp_fact ?_
    simp [and_assoc]
    refine ⟨_, pl_at bt lt, ?_⟩
    rw [← List.map_drop]
    refine rp_fact ?_
    simp [and_assoc]
    refine ⟨_, pl_at bd ld, _, rfl, by rw [tab_length]; omega, ?_⟩
    have gi : (f (plc ((rowN (n + m) i).take n)) + p (plc ((rowN (n + m) i).drop n))) % 2 = besF n m f p i := rfl
    rw [xor_bit (hf _ (plc_lt bt lt)) (hp _ (plc_lt bd ld)), tab_push gi]
    exact hN _ ⟨_, rfl⟩
end Ev
set_option Elab.async false
set_option linter.all false
set_option maxRecDepth 100000
/-! V30b: plain facts of systems side by side. -/
namespace Ev
open PySem PySem.Spec PyProof.Rows L2

theorem flat_flat {α β γ : Type} (f : α → List β) (g : β → List γ) : ∀ l : List α, (l.flatMap f).flatMap g = l.flatMap fun x => (f x).flatMap g
  | [] => rfl
  | x :: l => by rw [List.flatMap_cons, List.flatMap_append, flat_flat f g l, List.flatMap_cons]
theorem rowsN_app (n : Nat) : ∀ m, rowsN (n + m) = (rowsN n).flatMap fun u => (rowsN m).map fun v => u ++ v
  | 0 => by
    have : ∀ l : List (List Int), l.flatMap (fun u => [u ++ []]) = l := fun l => by
      induction l with
      | nil => rfl
      | cons x l ih => rw [List.flatMap_cons, ih]; simp
    exact (this _).symm
  | m + 1 => by
    have ih := rowsN_app n m
    show (rowsN (n + m)).flatMap (fun r => [r ++ [(0 : Int)], r ++ [1]]) = _
    rw [ih, flat_flat]
    congr 1
    funext u
    show _ = ((rowsN m).flatMap (fun r => [r ++ [(0 : Int)], r ++ [1]])).map fun v => u ++ v
    generalize rowsN m = l
    induction l with
    | nil => rfl
    | cons x l ih => simp only [List.map_cons, List.flatMap_cons, List.map_append, ih]; simp
theorem getD_lo {u v : List Int} {i : Nat} (h : i < u.length) : (u ++ v).getD i 0 = u.getD i 0 := by
  simp [List.getD, List.getElem?_append_left h]
theorem getD_hi {u v : List Int} {i : Nat} : (u ++ v).getD (i + u.length) 0 = v.getD i 0 := by
  simp [List.getD, List.getElem?_append_right]
theorem eqV_lo {n : Nat} {e : EqS} {u : List Int} (v : List Int) (h : EqOk n e) (hu : u.length = n) : eqV e (u ++ v) = eqV e u := by
  subst hu
  unfold eqV
  congr 1
  congr 1
  · congr 2
    exact List.map_congr_left fun i hi => getD_lo (h.s i hi)
  · congr 1
    refine List.map_congr_left fun q hq => ?_
    have := h.p q hq
    rw [getD_lo (by omega), getD_lo (by omega)]
theorem eqV_hi {n : Nat} {e : EqS} {u v : List Int} (hu : u.length = n) : eqV (movE n e) (u ++ v) = eqV e v := by
  subst hu
  unfold eqV movE
  simp only [List.map_map]
  congr 1
  congr 1
  · congr 2
    exact List.map_congr_left fun i hi => getD_hi
  · congr 1
    exact List.map_congr_left fun q hq => by
      show (u ++ v).getD (q.1 + u.length) 0 * (u ++ v).getD (q.2 + u.length) 0 = _
      rw [getD_hi, getD_hi]
theorem filter_flat {α β : Type} (f : α → List β) (p : β → Bool) : ∀ l : List α, (l.flatMap f).filter p = l.flatMap fun x => (f x).filter p
  | [] => rfl
  | x :: l => by rw [List.flatMap_cons, List.filter_append, filter_flat f p l, List.flatMap_cons]
theorem flat_pick {α β : Type} (p : α → Bool) (f : α → List β) : ∀ l : List α, (l.flatMap fun x => if p x = true then f x else []) = (l.filter p).flatMap f
  | [] => rfl
  | x :: l => by
    rw [List.flatMap_cons, flat_pick p f l, List.filter_cons]
    split <;> simp
theorem flat_congr {α β : Type} {f g : α → List β} : ∀ {l : List α}, (∀ x ∈ l, f x = g x) → l.flatMap f = l.flatMap g
  | [], _ => rfl
  | x :: l, h => by rw [List.flatMap_cons, List.flatMap_cons, h x (List.mem_cons_self ..), flat_congr fun y hy => h y (List.mem_cons_of_mem _ hy)]
theorem ansR_bes {n m : Nat} {es fs : List EqS} (h1 : SysOk n es) : ansR (n + m) (besS n es fs) = (ansR n es).flatMap fun u => (ansR m fs).map fun v => u ++ v := by
  unfold ansR
  rw [rowsN_app, filter_flat, ← flat_pick]
  refine flat_congr fun u hu => ?_
  have ul := (rowsN_row hu).1
  have e : ∀ v : List Int, ((besS n es fs).all fun e => decide (eqV e (u ++ v) = 0)) = ((es.all fun e => decide (eqV e u = 0)) && fs.all fun e => decide (eqV e v = 0)) := fun v => by
    unfold besS
    rw [List.all_append, List.all_map]
    congr 1
    · rw [Bool.eq_iff_iff]
      simp only [List.all_eq_true, decide_eq_true_eq]
      exact ⟨fun h e he => by rw [← eqV_lo v (h1 e he) ul]; exact h e he, fun h e he => by rw [eqV_lo v (h1 e he) ul]; exact h e he⟩
    · congr 1
      funext e
      simp only [Function.comp, eqV_hi ul]
  rw [List.filter_map]
  split
  · rename_i hp
    congr 1
    refine List.filter_congr fun v _ => ?_
    simp only [Function.comp, e, hp, Bool.true_and]
  · rename_i hp
    rw [List.map_eq_nil_iff, List.filter_eq_nil_iff]
    intro v _
    simp only [Function.comp, e]
    simp [hp]
theorem ansR_join (n : Nat) (es gs : List EqS) : ansR n (es ++ gs) = (ansR n es).filter fun u => decide (u ∈ ansR n gs) := by
  unfold ansR
  rw [List.filter_filter]
  refine List.filter_congr fun u hu => ?_
  rw [Bool.eq_iff_iff]
  simp [hu]
  exact ⟨fun h => ⟨h.2, h.1⟩, fun h => ⟨h.2, h.1⟩⟩
/-- the joined proof is the proof of the joined row: few letters -/
def besOk (n m a b : Nat) : Bool := decide (tab (2 ^ (n + m)) (besF n m (par n a) (par m b)) = stab (rowN n a ++ rowN m b)) &&
  decide (tab (2 ^ ((n + m) * (n + m))) (besG n m (par n a) (par (n * n) (plc (outR (rowN n a) (rowN n a)))) (par m b) (par (m * m) (plc (outR (rowN m b) (rowN m b))))) = stab (outR (rowN n a ++ rowN m b) (rowN n a ++ rowN m b)))
theorem bes_all : ([(0, 0), (0, 1), (1, 0), (0, 2), (1, 1), (2, 0)].all fun q : Nat × Nat => (List.range (2 ^ q.1)).all fun a => (List.range (2 ^ q.2)).all fun b => besOk q.1 q.2 a b) = true := by
  decide +kernel
theorem bes_small {n m a b : Nat} (h : n + m ≤ 2) (ha : a < 2 ^ n) (hb : b < 2 ^ m) : tab (2 ^ (n + m)) (besF n m (par n a) (par m b)) = stab (rowN n a ++ rowN m b) ∧
      tab (2 ^ ((n + m) * (n + m))) (besG n m (par n a) (par (n * n) (plc (outR (rowN n a) (rowN n a)))) (par m b) (par (m * m) (plc (outR (rowN m b) (rowN m b))))) = stab (outR (rowN n a ++ rowN m b) (rowN n a ++ rowN m b)) := by
  have k := List.all_eq_true.mp bes_all (n, m) (by
    have : (n = 0 ∧ m = 0) ∨ (n = 0 ∧ m = 1) ∨ (n = 1 ∧ m = 0) ∨ (n = 0 ∧ m = 2) ∨ (n = 1 ∧ m = 1) ∨ (n = 2 ∧ m = 0) := by omega
    rcases this with ⟨rfl, rfl⟩ | ⟨rfl, rfl⟩ | ⟨rfl, rfl⟩ | ⟨rfl, rfl⟩ | ⟨rfl, rfl⟩ | ⟨rfl, rfl⟩ <;> simp)
  have k := List.all_eq_true.mp (List.all_eq_true.mp k a (List.mem_range.mpr ha)) b (List.mem_range.mpr hb)
  unfold besOk at k
  rw [Bool.and_eq_true, decide_eq_true_eq, decide_eq_true_eq] at k
  exact k
theorem bes_proof {n m : Nat} {u v : List Int} (hu : u.length = n) (hv : v.length = m) (bu : Bits u) (bv : Bits v) (h : n + m ≤ 2) :
    prD (n + m) ((n + m) * (n + m)) (besF n m (par n (plc u)) (par m (plc v))) (besG n m (par n (plc u)) (par (n * n) (plc (outR u u))) (par m (plc v)) (par (m * m) (plc (outR v v)))) = proofD (u ++ v) := by
  subst hu hv
  have := bes_small h (plc_ok bu).1 (plc_ok bv).1
  rw [← (plc_ok bu).2.1, ← (plc_ok bv).2.1] at this
  unfold prD proofD
  rw [this.1, this.2]
end Ev
set_option Elab.async false
set_option linter.all false
set_option maxRecDepth 100000
set_option maxHeartbeats 4000000
/-! V31: the law k82: what it shows of its systems; its last steps. -/
namespace Ev
open PySem PySem.Spec PyProof.Rows L2

/-! ### repr of small data -/
structure Sh (w : Nat) (d : PyData) : Prop where
  a : d.showable = true
  b : d.hasDict = false
  c : d.intsShort 13 = true
  e : d.weight ≤ w
theorem Sh.mono {w v : Nat} {d : PyData} (h : Sh w d) (l : w ≤ v) : Sh v d := ⟨h.a, h.b, h.c, Nat.le_trans h.e l⟩
theorem sh_i {b : Int} (h : 0 ≤ b ∧ b < 4) : Sh 3 (I b) := by
  have : b = 0 ∨ b = 1 ∨ b = 2 ∨ b = 3 := by omega
  rcases this with rfl | rfl | rfl | rfl <;> exact ⟨by decide +kernel, by decide +kernel, by decide +kernel, by decide +kernel⟩
theorem sh_all {w : Nat} : ∀ {xs : List PyData}, (∀ x ∈ xs, Sh w x) → PyData.showableAll xs = true ∧ PyData.hasDictAll xs = false ∧ PyData.intsShortAll 13 xs = true ∧ PyData.weightAll xs ≤ (w + 1) * xs.length
  | [], _ => ⟨rfl, rfl, rfl, Nat.le_refl _⟩
  | x :: xs, h => by
    obtain ⟨h1, h2, h3, h4⟩ := sh_all (xs := xs) fun y hy => h y (List.mem_cons_of_mem _ hy)
    obtain ⟨j1, j2, j3, j4⟩ := h x (List.mem_cons_self ..)
    refine ⟨?_, ?_, ?_, ?_⟩
    · simp [PyData.showableAll, j1, h1]
    · simp [PyData.hasDictAll, j2, h2]
    · simp [PyData.intsShortAll, j3, h3]
    · simp only [PyData.weightAll, List.length_cons]
      rw [Nat.mul_add]; omega
theorem sh_t {w : Nat} {xs : List PyData} (h : ∀ x ∈ xs, Sh w x) : Sh ((w + 1) * xs.length + 2) (T xs) := by
  obtain ⟨h1, h2, h3, h4⟩ := sh_all h
  exact ⟨by simpa [PyData.showable] using h1, by simpa [PyData.hasDict] using h2, by simpa [PyData.intsShort] using h3, by simp only [PyData.weight]; omega⟩
theorem sh_l {w : Nat} {xs : List PyData} (h : ∀ x ∈ xs, Sh w x) : Sh ((w + 1) * xs.length + 2) (.list xs) := by
  obtain ⟨h1, h2, h3, h4⟩ := sh_all h
  exact ⟨by simpa [PyData.showable] using h1, by simpa [PyData.hasDict] using h2, by simpa [PyData.intsShort] using h3, by simp only [PyData.weight]; omega⟩
theorem repr_ok {m w : Nat} {v : Val} {d : PyData} (hv : toD v = some d) (hs : (toS v).isSome = true) (ly : Lay m d) (hm : m ≤ 60) (h : Sh w d) (hw : w ≤ 1000000) {Φ : Val → Prop} (hΦ : Φ (.d (.str d.shown))) : oRepr v Φ := by
  have lay : PyData.layable0 d = true := by
    unfold PyData.layable0
    rw [ly.ok, decide_eq_true (Nat.le_trans ly.dp (by omega)), decide_eq_true (by have := h.e; omega)]
    rfl
  have len := PyProof.Rows.shown_le13 lay h.c
  have := h.e
  exact ⟨d, hv, hs, h.a, h.b, Nat.le_trans ly.dp hm, by omega, hΦ⟩
theorem sh_eqD {n : Nat} {e : EqS} (h : EqOk n e) (hn : n ≤ 2) : Sh 143 (eqD e) := by
  have l1 := h.ls
  have l2 := h.lp
  have nn : n * n ≤ 2 * 2 := Nat.mul_le_mul hn hn
  have a1 : Sh 46 (I e.1) := (sh_i (by rcases h.c with h | h <;> rw [h] <;> decide)).mono (by decide)
  have a2 : Sh 46 (T (e.2.1.map fun (i : Nat) => I i)) := (sh_t (w := 3) fun x hx => by
    obtain ⟨i, hi, rfl⟩ := List.mem_map.mp hx
    have := h.s i hi
    exact sh_i (by omega)).mono (by rw [List.length_map]; omega)
  have a3 : Sh 46 (T (e.2.2.map fun q => T [I q.1, I q.2])) := (sh_t (w := 10) fun x hx => by
    obtain ⟨q, hq, rfl⟩ := List.mem_map.mp hx
    have := h.p q hq
    exact (sh_t (w := 3) fun x hx => by
      simp at hx
      rcases hx with rfl | rfl
      · exact sh_i (by omega)
      · exact sh_i (by omega)).mono (by simp)).mono (by rw [List.length_map]; omega)
  exact (sh_t (w := 46) fun x hx => by
    simp at hx
    rcases hx with rfl | rfl | rfl
    · exact a1
    · exact a2
    · exact a3).mono (by simp)
theorem sh_sysD {n : Nat} {es : List EqS} (h : SysOk n es) (hn : n ≤ 2) (hl : es.length ≤ 2) : Sh 584 (sysD n es) := by
  have a1 : Sh 290 (T (es.map eqD)) := (sh_t (w := 143) fun x hx => by
    obtain ⟨e, he, rfl⟩ := List.mem_map.mp hx
    exact sh_eqD (h e he) hn).mono (by rw [List.length_map]; omega)
  exact (sh_t (w := 290) fun x hx => by
    simp at hx
    rcases hx with rfl | rfl
    · exact (sh_i (by omega)).mono (by decide)
    · exact a1).mono (by simp)

/-! ### the law -/
def L82_21 : DS := dNext
def L82_20 : DS := dSeq (dRet (dAndV (dBin oEq (dCall 2 sp_passed_counts (dCons (dVar 7) (dCons (dVar 16) dNil))) (dCall 2 sp_law_counts (dCons (dVar 7) (dCons (dVar 16) dNil)))) (dBin oEq (dUn oRepr (dLst (dCons (dVar 4) (dCons (dVar 5) dNil)))) (dVar 6)))) L82_21
def L82_19 : DS := dSeq (dIfS (dOrT (dTst (dBin oNe (dCall 2 sp_beside_proof (dCons (dVar 14) (dCons (dVar 15) dNil))) (dVar 16))) (dTst (dBin oNe (dCallK 2 [1, 0] 2 sp_beside_proof (dCons (dVar 15) (dCons (dVar 14) dNil))) (dVar 16)))) (dSeq (dRet (dC (.bool false))) dNext) dNext) L82_20
def L82_18 : DS := dSeq (dSet 16 (dCall 4 sp_law_beside (dCons (dVar 2) (dCons (dVar 14) (dCons (dVar 3) (dCons (dVar 15) dNil)))))) L82_19
def L82_17 : DS := dSeq (dSet 15 (dCall 2 sp_law_spoilt (dCons (dCall 1 sp_law_proof (dCons (dVar 12) dNil)) (dCons (dCall 3 sp_law_places (dCons (dVar 1) (dCons (dBin oIxS (dVar 13) (dC (.int 1))) (dCons (dCall 2 sp_law_draw (dCons (dVar 1) (dCons (dC (.int 3)) dNil))) dNil)))) dNil)))) L82_18
def L82_16 : DS := dSeq (dSet 14 (dCall 2 sp_law_spoilt (dCons (dCall 1 sp_law_proof (dCons (dVar 9) dNil)) (dCons (dCall 3 sp_law_places (dCons (dVar 1) (dCons (dBin oIxS (dVar 13) (dC (.int 0))) (dCons (dCall 2 sp_law_draw (dCons (dVar 1) (dCons (dC (.int 3)) dNil))) dNil)))) dNil)))) L82_17
def L82_15 : DS := dSeq (dSet 13 (dLc [19] (dSeqI (dTup (dCons (dVar 2) (dCons (dVar 3) dNil)))) (tName 19) dYes (dBin oAdd (dBin oShl (dC (.int 1)) (dVar 19)) (dBin oShl (dC (.int 1)) (dBin oMul (dVar 19) (dVar 19)))))) L82_16
def L82_14 : DS := dSeq (dIfS (dTst (dBin oNe (dBin oIs (dCall 2 sp_proof_fault (dCons (dVar 7) (dCons (dCall 2 sp_beside_proof (dCons (dCall 2 sp_proof_of (dCons (dVar 2) (dCons (dVar 9) dNil))) (dCons (dCall 2 sp_proof_of (dCons (dVar 3) (dCons (dVar 12) dNil))) dNil))) dNil))) (dC .none)) (dBin (oInG false) (dBin oAdd (dVar 9) (dVar 12)) (dVar 8)))) (dSeq (dRet (dC (.bool false))) dNext) dNext) L82_15
def L82_13 : DS := dSeq (dIfS (dOrT (dTst (dBin oNe (dCall 2 sp_beside_proof (dCons (dCall 2 sp_proof_of (dCons (dVar 2) (dCons (dVar 9) dNil))) (dCons (dCall 2 sp_proof_of (dCons (dVar 3) (dCons (dVar 12) dNil))) dNil))) (dCall 1 sp_law_proof (dCons (dBin oAdd (dVar 9) (dVar 12)) dNil)))) (dTst (dBin oNe (dCall 1 sp_proof_row (dCons (dCall 1 sp_law_proof (dCons (dBin oAdd (dVar 9) (dVar 12)) dNil)) dNil)) (dBin oAdd (dVar 9) (dVar 12))))) (dSeq (dRet (dC (.bool false))) dNext) dNext) L82_14
def L82_12 : DS := dSeq (dPar2 9 12 (dUn oTuple (dLc [18] (dRng1 (dCons (dVar 2) dNil)) (tName 18) dYes (dCall 2 sp_law_draw (dCons (dVar 1) (dCons (dC (.int 2)) dNil))))) (dUn oTuple (dLc [18] (dRng1 (dCons (dVar 3) dNil)) (tName 18) dYes (dCall 2 sp_law_draw (dCons (dVar 1) (dCons (dC (.int 2)) dNil)))))) L82_13
def L82_11 : DS := dSeq (dIfS (dTst (dBin oNe (dCall 1 sp_all_answers (dCons (dVar 11) dNil)) (dUn oTuple (dLc [9] (dSeqI (dCall 1 sp_law_answers (dCons (dVar 4) dNil))) (tName 9) (dTst (dBin (oInG false) (dVar 9) (dCall 1 sp_law_answers (dCons (dVar 10) dNil)))) (dVar 9))))) (dSeq (dRet (dC (.bool false))) dNext) dNext) L82_12
def L82_10 : DS := dSeq (dIfS (dTst (dBin oNe (dCall 2 sp_joined_equations (dCons (dVar 4) (dCons (dVar 10) dNil))) (dVar 11))) (dSeq (dRet (dC (.bool false))) dNext) dNext) L82_11
def L82_9 : DS := dSeq (dSet 11 (dTup (dCons (dVar 2) (dCons (dBin oAdd (dBin oIxS (dVar 4) (dC (.int 1))) (dBin oIxS (dVar 10) (dC (.int 1)))) dNil)))) L82_10
def L82_8 : DS := dSeq (dSet 10 (dCall 3 sp_law_system (dCons (dVar 1) (dCons (dVar 2) (dCons (dCall 2 sp_law_draw (dCons (dVar 1) (dCons (dC (.int 3)) dNil))) dNil))))) L82_9
def L82_7 : DS := dSeq (dIfS (dOrT (dTst (dBin oNe (dCall 1 sp_all_answers (dCons (dVar 7) dNil)) (dUn oTuple (dVar 8)))) (dTst (dBin oNe (dCall 1 sp_law_answers (dCons (dVar 7) dNil)) (dVar 8)))) (dSeq (dRet (dC (.bool false))) dNext) dNext) L82_8
def L82_6 : DS := dSeq (dFor (dSeqI (dCall 1 sp_law_answers (dCons (dVar 4) dNil))) (tName 9) (dSeq (dExpr (dExt 8 (dLc [12] (dSeqI (dCall 1 sp_law_answers (dCons (dVar 5) dNil))) (tName 12) dYes (dBin oAdd (dVar 9) (dVar 12))))) dNext)) L82_7
def L82_5 : DS := dSeq (dSet 8 (dLst dNil)) L82_6
def L82_4 : DS := dSeq (dIfS (dOrT (dTst (dBin oNe (dCall 2 sp_beside_systems (dCons (dVar 4) (dCons (dVar 5) dNil))) (dVar 7))) (dTst (dBin oNe (dCallK 2 [1, 0] 2 sp_beside_systems (dCons (dVar 5) (dCons (dVar 4) dNil))) (dVar 7)))) (dSeq (dRet (dC (.bool false))) dNext) dNext) L82_5
def L82_3 : DS := dSeq (dSet 7 (dTup (dCons (dBin oAdd (dVar 2) (dVar 3)) (dCons (dBin oAdd (dBin oIxS (dVar 4) (dC (.int 1))) (dUn oTuple (dLc [17] (dSeqI (dBin oIxS (dVar 5) (dC (.int 1)))) (tName 17) dYes (dCall 2 sp_law_moved (dCons (dVar 17) (dCons (dVar 2) dNil)))))) dNil)))) L82_4
def L82_2 : DS := dSeq (dSet 6 (dUn oRepr (dLst (dCons (dVar 4) (dCons (dVar 5) dNil))))) L82_3
def L82_1 : DS := dSeq (dPar2 4 5 (dCall 3 sp_law_system (dCons (dVar 1) (dCons (dVar 2) (dCons (dCall 2 sp_law_draw (dCons (dVar 1) (dCons (dC (.int 3)) dNil))) dNil)))) (dCall 3 sp_law_system (dCons (dVar 1) (dCons (dVar 3) (dCons (dCall 2 sp_law_draw (dCons (dVar 1) (dCons (dC (.int 3)) dNil))) dNil))))) L82_2
def L82_0 : DS := dSeq (dAsg (tTup 2 (tCons (tName 2) (tCons (tName 3) tNil))) (dCall 2 sp_law_pick (dCons (dVar 1) (dCons (dLst (dCons (dTup (dCons (dC (.int 1)) (dCons (dC (.int 1)) dNil))) (dCons (dTup (dCons (dC (.int 1)) (dCons (dC (.int 1)) dNil))) (dCons (dTup (dCons (dC (.int 1)) (dCons (dC (.int 1)) dNil))) (dCons (dTup (dCons (dC (.int 0)) (dCons (dC (.int 1)) dNil))) (dCons (dTup (dCons (dC (.int 2)) (dCons (dC (.int 0)) dNil))) (dCons (dTup (dCons (dC (.int 0)) (dCons (dC (.int 2)) dNil))) (dCons (dTup (dCons (dC (.int 1)) (dCons (dC (.int 0)) dNil))) (dCons (dTup (dCons (dC (.int 0)) (dCons (dC (.int 0)) dNil))) dNil))))))))) dNil)))) L82_1
abbrev KT82 : KE := { nx := fun _ => False, rt := fun v => v = .d (.bool true), bk := fun _ => False, ct := fun _ => False }
structure H82 (n m : Nat) (es fs : List EqS) : Prop where
  h : n + m ≤ 2
  he : SysOk n es
  hf : SysOk m fs
  el : es.length ≤ 2
  fl : fs.length ≤ 2
abbrev kept82 (n m : Nat) (es fs : List EqS) : PyData := .str (PyData.list [sysD n es, sysD m fs]).shown
theorem repr82 {n m : Nat} {es fs : List EqS} (H : H82 n m es fs) {Φ : Val → Prop} (hΦ : Φ (.d (kept82 n m es fs))) : oRepr (.own [sysD n es, sysD m fs]) Φ := by
  have h := H.h
  refine repr_ok (m := 6) (w := 1172) rfl rfl (lay_l fun x hx => ?_) (by decide) ((sh_l (w := 584) fun x hx => ?_).mono (by simp)) (by decide) hΦ
  · simp at hx
    rcases hx with rfl | rfl <;> exact lay_sysD _ _
  · simp at hx
    rcases hx with rfl | rfl
    · exact sh_sysD H.he (by omega) H.el
    · exact sh_sysD H.hf (by omega) H.fl
def E82 (n m : Nat) (es fs : List EqS) (s8 s9 s10 s11 s12 s13 s14 s15 s16 : Option Val) : Env := [none, some .pot, some (.d (I n)), some (.d (I m)), some (.d (sysD n es)), some (.d (sysD m fs)), some (.d (kept82 n m es fs)), some (.d (sysD (n + m) (besS n es fs))), s8, s9, s10, s11, s12, s13, s14, s15, s16, none, none, none]
section
variable {n m : Nat} {es fs : List EqS}
theorem besS_len (H : H82 n m es fs) : (besS n es fs).length ≤ 4 := by
  have := H.el
  have := H.fl
  unfold besS
  rw [List.length_append, List.length_map]; omega
theorem lay_counts (n : Nat) (es : List EqS) (f g : Nat → Int) : Lay 1 (countsD n es f g) := lay_t fun x hx => by
  simp at hx
  rcases hx with rfl | rfl | rfl | rfl <;> exact lay_i _
theorem t82_20 (H : H82 n m es fs) {F G : Nat → Int} (hF : BitF (2 ^ (n + m)) F) (hG : BitF (2 ^ ((n + m) * (n + m))) G) (s8 s9 s10 s11 s12 s13 s14 s15 : Option Val) :
    L82_20 KT82 (E82 n m es fs s8 s9 s10 s11 s12 s13 s14 s15 (some (.d (prD (n + m) ((n + m) * (n + m)) F G)))) := by
  have h := H.h
  have bl := besS_len H
  have ok := besS_ok H.he H.hf
  rw [L82_20, dSeq]
  simp only [E82]
  simp [-dSeq, and_assoc]
  refine ⟨n + m, besS n es fs, F, G, rfl, ok, by omega, by omega, hF, hG, ?_⟩
  simp [-dSeq, and_assoc]
  refine ⟨n + m, besS n es fs, F, G, rfl, ok, by omega, by omega, hF, hG, ?_⟩
  simp only []
  rw [eq_same (lay_counts _ _ _ _) (by decide)]
  simp [-dSeq, and_assoc]
  refine repr82 H ?_
  rw [eq_str]
theorem t82_18 (H : H82 n m es fs) {f g p q : Nat → Int} (hf : BitF (2 ^ n) f) (hg : BitF (2 ^ (n * n)) g) (hp : BitF (2 ^ m) p) (hq : BitF (2 ^ (m * m)) q) (s8 s9 s10 s11 s12 s13 : Option Val) :
    L82_18 KT82 (E82 n m es fs s8 s9 s10 s11 s12 s13 (some (.d (prD n (n * n) f g))) (some (.d (prD m (m * m) p q))) none) := by
  have h := H.h
  have go := t82_20 H (besF_bit n m f p _) (besG_bit n m f g p q _) s8 s9 s10 s11 s12 s13 (some (.d (prD n (n * n) f g))) (some (.d (prD m (m * m) p q)))
  have lp : Lay 2 (prD (n + m) ((n + m) * (n + m)) (besF n m f p) (besG n m f g p q)) := lay_t fun x hx => by
    simp at hx
    rcases hx with rfl | rfl <;> exact lay_TI _
  have k1 : ∀ Ψ : Val → Prop, Ψ (.d (prD (n + m) ((n + m) * (n + m)) (besF n m f p) (besG n m f g p q))) → sp_beside_proof [.d (prD n (n * n) f g), .d (prD m (m * m) p q)] Ψ := fun Ψ k => ⟨n, m, f, g, p, q, rfl, by omega, hf, hp, k⟩
  have k2 : ∀ Ψ : Val → Prop, Ψ (.d (prD (n + m) ((n + m) * (n + m)) (besF n m f p) (besG n m f g p q))) → sp_law_beside [.d (I n), .d (prD n (n * n) f g), .d (I m), .d (prD m (m * m) p q)] Ψ := fun Ψ k => ⟨n, m, f, g, p, q, rfl, by omega, hf, hp, hg, hq, k⟩
  simp only [E82] at go ⊢
  rw [L82_18, dSeq]
  simp [-dSeq, and_assoc]
  refine k2 _ ?_
  try simp [-dSeq, and_assoc]
  rw [L82_19, dSeq]
  simp [-dSeq, and_assoc]
  refine k1 _ ?_
  rw [ne_same lp (by decide)]
  simp [-dSeq, and_assoc]
  refine ⟨rfl, k1 _ ?_⟩
  rw [ne_same lp (by decide)]
  simp [-dSeq, and_assoc]
  exact go
end
end Ev
set_option Elab.async false
set_option linter.all false
set_option maxRecDepth 100000
set_option maxHeartbeats 4000000
/-! V32: the law k82, its middle. -/
namespace Ev
open PySem PySem.Spec PyProof.Rows L2

theorem mem_rowsN {k : Nat} {xs : List Int} (h : Bits xs) (hl : xs.length = k) : xs ∈ rowsN k := by
  obtain ⟨p, hp, e⟩ := bits_rowN h
  rw [hl] at hp e
  rw [rowsN_tab, e]
  exact List.mem_map.mpr ⟨p, List.mem_range.mpr hp, rfl⟩
theorem any_TI (ws : List (List Int)) (w : List Int) : (ws.map TI).any (fun z => PyData.eqv z (TI w)) = decide (w ∈ ws) := by
  induction ws with
  | nil => simp
  | cons x ws ih =>
    rw [List.map_cons, List.any_cons, ih]
    simp only [PyData.eqv, eqvAll_ints]
    by_cases h : x = w <;> by_cases h' : w ∈ ws <;> simp [h, h', eq_comm]
    exact fun e => h e.symm
theorem in_TI {v : Val} {ws : List (List Int)} {w : List Int} {Φ : Val → Prop} (hv : toL v = some (ws.map TI)) (h : Φ (.d (.bool (decide (w ∈ ws))))) : oInG false (.d (TI w)) v Φ := by
  refine .inl ⟨TI w, ws.map TI, rfl, hv, (lay_TI w).shaped (by decide), (lay_l fun x hx => ?_ : Lay 2 _).shaped (by decide), ?_⟩
  · obtain ⟨y, _, rfl⟩ := List.mem_map.mp hx
    exact lay_TI y
  · rw [any_TI]
    simpa using h
theorem ne_own {m : Nat} {v w : Val} {xs : List PyData} {Φ : Val → Prop} (hv : toD v = some (.list xs)) (hw : toD w = some (.list xs)) (h : Lay m (.list xs)) (hm : m ≤ 64) (k : Φ (.d (.bool false))) : oNe v w Φ :=
  .inl ⟨_, _, hv, hw, h.shaped hm, h.shaped hm, by rw [SeqAt.eqv_refl _ h.ok]; exact k⟩
section
variable {n m : Nat} {es fs : List EqS}
theorem t82_15 (H : H82 n m es fs) {u v : List Int} (hu : u.length = n) (hv : v.length = m) (bu : Bits u) (bv : Bits v) (s8 s10 s11 : Option Val) :
    L82_15 KT82 (E82 n m es fs s8 (some (.d (TI u))) s10 s11 (some (.d (TI v))) none none none none) := by
  have h := H.h
  have t1 : 2 ^ n ≤ 2 ^ 2 := two_le (by omega)
  have t2 : 2 ^ m ≤ 2 ^ 2 := two_le (by omega)
  have t3 : 2 ^ (n * n) ≤ 2 ^ 4 := two_le (Nat.mul_le_mul (show n ≤ 2 by omega) (show n ≤ 2 by omega))
  have t4 : 2 ^ (m * m) ≤ 2 ^ 4 := two_le (Nat.mul_le_mul (show m ≤ 2 by omega) (show m ≤ 2 by omega))
  have p1 := Nat.two_pow_pos n
  have p2 := Nat.two_pow_pos m
  have p3 := Nat.two_pow_pos (n * n)
  have p4 := Nat.two_pow_pos (m * m)
  have dr : ∀ Ψ : Val → Prop, (∀ r : Nat, r < 3 → Ψ (.d (.int r))) → sp_law_draw [.pot, .d (.int 3)] Ψ := fun Ψ k => ⟨3, rfl, by decide, by decide, k⟩
  have pl : ∀ (z k : Nat) (Ψ : Val → Prop), k < 3 → 2 ≤ z → z ≤ 1000 → (∀ ps : List Int, (∀ p ∈ ps, 0 ≤ p ∧ p < (z : Int)) → Ψ (.d (TI ps))) → sp_law_places [.pot, .d (.int (z : Nat)), .d (.int (k : Nat))] Ψ := fun z k Ψ h1 h2 h3 h4 => ⟨z, k, rfl, h3, by omega, fun ps h5 _ => h4 ps h5⟩
  have spu : ∀ (ps : List Int) (Ψ : Val → Prop), (∀ p ∈ ps, 0 ≤ p ∧ p < ((2 ^ n + 2 ^ (n * n) : Nat) : Int)) → (∀ f g, BitF (2 ^ n) f → BitF (2 ^ (n * n)) g → Ψ (.d (prD n (n * n) f g))) → sp_law_spoilt [.d (proofD u), .d (TI ps)] Ψ := fun ps Ψ h1 h2 =>
    ⟨n, par n (plc u), par (n * n) (plc (outR u u)), ps, by rw [proofD_eq hu], by omega, by rw [← hu]; exact stab_bit u, by have := stab_bit (outR u u); rwa [outR_length, hu] at this, h1, h2⟩
  have spv : ∀ (ps : List Int) (Ψ : Val → Prop), (∀ p ∈ ps, 0 ≤ p ∧ p < ((2 ^ m + 2 ^ (m * m) : Nat) : Int)) → (∀ f g, BitF (2 ^ m) f → BitF (2 ^ (m * m)) g → Ψ (.d (prD m (m * m) f g))) → sp_law_spoilt [.d (proofD v), .d (TI ps)] Ψ := fun ps Ψ h1 h2 =>
    ⟨m, par m (plc v), par (m * m) (plc (outR v v)), ps, by rw [proofD_eq hv], by omega, by rw [← hv]; exact stab_bit v, by have := stab_bit (outR v v); rwa [outR_length, hv] at this, h1, h2⟩
  have go := fun (f g p q : Nat → Int) hf hg hp hq (s13 : Option Val) => t82_18 (f := f) (g := g) (p := p) (q := q) H hf hg hp hq s8 (some (.d (TI u))) s10 s11 (some (.d (TI v))) s13
  simp only [E82] at go ⊢
  rw [L82_15, dSeq]
  try simp [-dSeq, and_assoc]
  refine compW_all (fun k : Nat => I k) (fun k : Nat => I ((2 ^ k + 2 ^ (k * k) : Nat) : Int)) [n, m] (by simp) (fun k hk S hS => ?_) ?_
  · have k2 : k ≤ 2 := by simp at hk; omega
    have kk : k * k ≤ 2 * 2 := Nat.mul_le_mul k2 k2
    have e : (2 : Int) ^ k + 2 ^ ((k : Int) * k).toNat = ((2 ^ k + 2 ^ (k * k) : Nat) : Int) := by
      rw [show ((k : Int) * k).toNat = k * k by rw [show (k : Int) * k = ((k * k : Nat) : Int) by push_cast; rfl, Int.toNat_natCast]]
      push_cast; rfl
    have kk' : (k : Int) * k ≤ 4 := by rw [show (k : Int) * k = ((k * k : Nat) : Int) by push_cast; rfl]; omega
    have kk0 : 0 ≤ (k : Int) * k := by rw [show (k : Int) * k = ((k * k : Nat) : Int) by push_cast; rfl]; omega
    simp [and_assoc]
    rw [e]
    exact ⟨⟨by omega, by omega, by decide⟩, cm_small (by omega), ⟨by omega, by omega, by decide⟩, hS⟩
  · simp [-dSeq, and_assoc]
    have eA : (2 : Int) ^ n + 2 ^ (n * n) = ((2 ^ n + 2 ^ (n * n) : Nat) : Int) := by push_cast; rfl
    have eB : (2 : Int) ^ m + 2 ^ (m * m) = ((2 ^ m + 2 ^ (m * m) : Nat) : Int) := by push_cast; rfl
    rw [eA, eB]
    have lA : 2 ≤ 2 ^ n + 2 ^ (n * n) := by omega
    have lB : 2 ≤ 2 ^ m + 2 ^ (m * m) := by omega
    have gA : 2 ^ n + 2 ^ (n * n) ≤ 1000 := by omega
    have gB : 2 ^ m + 2 ^ (m * m) ≤ 1000 := by omega
    generalize 2 ^ n + 2 ^ (n * n) = A at *
    generalize 2 ^ m + 2 ^ (m * m) = B at *
    rw [L82_16, dSeq]
    try simp [-dSeq, and_assoc]
    refine ⟨u, rfl, bu, by omega, ?_⟩
    try simp [-dSeq, and_assoc]
    refine dr _ fun r hr => ?_
    try simp [-dSeq, and_assoc]
    refine pl A r _ hr lA gA fun ps hps => ?_
    try simp [-dSeq, and_assoc]
    refine spu ps _ hps fun f g hf hg => ?_
    try simp [-dSeq, and_assoc]
    rw [L82_17, dSeq]
    try simp [-dSeq, and_assoc]
    refine ⟨v, rfl, bv, by omega, ?_⟩
    try simp [-dSeq, and_assoc]
    refine dr _ fun r' hr' => ?_
    try simp [-dSeq, and_assoc]
    refine pl B r' _ hr' lB gB fun ps' hps' => ?_
    try simp [-dSeq, and_assoc]
    refine spv ps' _ hps' fun p q hp hq => ?_
    try simp [-dSeq, and_assoc]
    exact go f g p q hf hg hp hq _
theorem u_app {u v : List Int} : PyData.tuple (u.map PyData.int ++ v.map PyData.int) = TI (u ++ v) := by rw [← List.map_append]
theorem t82_13 (H : H82 n m es fs) {u v : List Int} (hu : u.length = n) (hv : v.length = m) (bu : Bits u) (bv : Bits v) (s10 s11 : Option Val) :
    L82_13 KT82 (E82 n m es fs (some (.own ((ansR (n + m) (besS n es fs)).map TI))) (some (.d (TI u))) s10 s11 (some (.d (TI v))) none none none none) := by
  have h := H.h
  have bl := besS_len H
  have ok := besS_ok H.he H.hf
  have go := t82_15 H hu hv bu bv (some (.own ((ansR (n + m) (besS n es fs)).map TI))) s10 s11
  have bw : Bits (u ++ v) := bu.app bv
  have lw : (u ++ v).length = n + m := by rw [List.length_append, hu, hv]
  have mw := mem_rowsN bw lw
  have k1 : ∀ Ψ : Val → Prop, Ψ (.d (proofD u)) → sp_proof_of [.d (I n), .d (TI u)] Ψ := fun Ψ k => ⟨n, u, rfl, bu, by omega, k⟩
  have k2 : ∀ Ψ : Val → Prop, Ψ (.d (proofD v)) → sp_proof_of [.d (I m), .d (TI v)] Ψ := fun Ψ k => ⟨m, v, rfl, bv, by omega, k⟩
  have k3 : ∀ Ψ : Val → Prop, Ψ (.d (proofD (u ++ v))) → sp_beside_proof [.d (proofD u), .d (proofD v)] Ψ := fun Ψ k =>
    ⟨n, m, par n (plc u), par (n * n) (plc (outR u u)), par m (plc v), par (m * m) (plc (outR v v)), by rw [proofD_eq hu, proofD_eq hv], by omega, by rw [← hu]; exact stab_bit u, by rw [← hv]; exact stab_bit v, by rw [bes_proof hu hv bu bv h]; exact k⟩
  have k4 : ∀ Ψ : Val → Prop, Ψ (.d (proofD (u ++ v))) → sp_law_proof [.d (TI (u ++ v))] Ψ := fun Ψ k => ⟨u ++ v, rfl, bw, by omega, k⟩
  have k5 : ∀ Ψ : Val → Prop, Ψ (.d (TI (u ++ v))) → sp_proof_row [.d (proofD (u ++ v))] Ψ := fun Ψ k => ⟨u ++ v, rfl, bw, by omega, k⟩
  simp only [E82] at go ⊢
  rw [L82_13, dSeq]
  try simp [-dSeq, and_assoc]
  refine k1 _ ?_
  try simp [-dSeq, and_assoc]
  refine k2 _ ?_
  try simp [-dSeq, and_assoc]
  refine k3 _ ?_
  try simp [-dSeq, and_assoc]
  rw [u_app]
  refine ⟨by omega, k4 _ ?_⟩
  try simp only []
  rw [ne_same (lay_proofD _) (by decide)]
  refine .inl ⟨rfl, by omega, k4 _ ?_⟩
  try simp [-dSeq, and_assoc]
  refine k5 _ ?_
  try simp [-dSeq, and_assoc]
  rw [u_app]
  refine ⟨by omega, ?_⟩
  try simp only []
  rw [ne_same (lay_TI _) (by decide)]
  try simp [-dSeq, and_assoc]
  rw [L82_14, dSeq]
  try simp [-dSeq, and_assoc]
  refine k1 _ ?_
  try simp [-dSeq, and_assoc]
  refine k2 _ ?_
  try simp [-dSeq, and_assoc]
  refine k3 _ ?_
  try simp [-dSeq, and_assoc]
  rw [u_app]
  have fin : ∀ b : Bool, b = decide (u ++ v ∈ ansR (n + m) (besS n es fs)) → ∀ Ψ : Val → Prop, Ψ (.d (.bool false)) → oInG false (.d (TI (u ++ v))) (.own ((ansR (n + m) (besS n es fs)).map TI)) fun z => oNe (.d (.bool b)) z Ψ := fun b hb Ψ k => by
    refine in_TI rfl ?_
    rw [← hb, ne_same (lay_b b) (by decide)]
    exact k
  refine ⟨n + m, besS n es fs, u ++ v, rfl, ok, by omega, lw, by omega, bw, fun h0 => ?_, fun k h0 => ?_⟩
  · exact ⟨by omega, fin true (by simp only [ansR_mem.mpr ⟨mw, h0⟩, decide_true]) _ (.inl ⟨rfl, go⟩)⟩
  · exact ⟨by omega, fin false (by
      have : ¬ u ++ v ∈ ansR (n + m) (besS n es fs) := fun z => h0 (ansR_mem.mp z).2
      simp [this]) _ (.inl ⟨rfl, go⟩)⟩
theorem t82_12 (H : H82 n m es fs) (s9 s10 s11 s12 : Option Val) :
    L82_12 KT82 (E82 n m es fs (some (.own ((ansR (n + m) (besS n es fs)).map TI))) s9 s10 s11 s12 none none none none) := by
  have h := H.h
  have go := fun (u v : List Int) hu hv bu bv => t82_13 (u := u) (v := v) H hu hv bu bv s10 s11
  simp only [E82] at go ⊢
  rw [L82_12, dSeq]
  try simp [-dSeq, and_assoc]
  refine ⟨by omega, ?_⟩
  refine compW_any (fun i : Nat => PyData.int i) (fun d => ∃ r : Nat, r < 2 ∧ d = .int r) (List.range n) [] (by simp; omega) (fun i hi M hM => ?_) (fun us ul hu => ?_)
  · simp [-dSeq]
    exact ⟨2, rfl, by decide, by decide, fun r hr => by simp; exact hM _ ⟨r, hr, rfl⟩⟩
  obtain ⟨u, rfl, ub⟩ := bits_of hu
  have ul : u.length = n := by simpa using ul
  try simp [-dSeq, and_assoc]
  refine ⟨by omega, ?_⟩
  refine compW_any (fun i : Nat => PyData.int i) (fun d => ∃ r : Nat, r < 2 ∧ d = .int r) (List.range m) [] (by simp; omega) (fun i hi M hM => ?_) (fun vs vl hv => ?_)
  · simp [-dSeq]
    exact ⟨2, rfl, by decide, by decide, fun r hr => by simp; exact hM _ ⟨r, hr, rfl⟩⟩
  obtain ⟨v, rfl, vb⟩ := bits_of hv
  have vl : v.length = m := by simpa using vl
  try simp [-dSeq, and_assoc]
  exact go u v ul vl ub vb
theorem lay_rows82 (ws : List (List Int)) : Lay 2 (T (ws.map TI)) := lay_t fun x hx => by
  obtain ⟨y, _, rfl⟩ := List.mem_map.mp hx
  exact lay_TI y
theorem lay_rowsL (ws : List (List Int)) : Lay 2 (.list (ws.map TI)) := lay_l fun x hx => by
  obtain ⟨y, _, rfl⟩ := List.mem_map.mp hx
  exact lay_TI y
theorem t82_8 (H : H82 n m es fs) (z9 : Option PyData) :
    L82_8 KT82 (E82 n m es fs (some (.own ((ansR (n + m) (besS n es fs)).map TI))) (z9.map Val.d) none none none none none none none) := by
  have h := H.h
  have go := fun s9 s10 s11 => t82_12 H s9 s10 s11 none
  have kA : ∀ (gs : List EqS) (Ψ : Val → Prop), SysOk n gs → gs.length ≤ 10 → Ψ (.d (T ((ansR n gs).map TI))) → sp_all_answers [.d (sysD n gs)] Ψ := fun gs Ψ h1 h2 k => ⟨n, gs, rfl, h1, by omega, by omega, k⟩
  have kL : ∀ (gs : List EqS) (Ψ : Val → Prop), SysOk n gs → gs.length ≤ 10 → Ψ (.own ((ansR n gs).map TI)) → sp_law_answers [.d (sysD n gs)] Ψ := fun gs Ψ h1 h2 k => ⟨n, gs, rfl, h1, by omega, by omega, k⟩
  have kJ : ∀ (gs : List EqS) (Ψ : Val → Prop), gs.length ≤ 2 → Ψ (.d (sysD n (es ++ gs))) → sp_joined_equations [.d (sysD n es), .d (sysD n gs)] Ψ := fun gs Ψ h1 k => ⟨n, es, gs, rfl, by have := H.el; omega, k⟩
  have dr : ∀ Ψ : Val → Prop, (∀ r : Nat, r < 3 → Ψ (.d (.int r))) → sp_law_draw [.pot, .d (.int 3)] Ψ := fun Ψ k => ⟨3, rfl, by decide, by decide, k⟩
  have kS : ∀ (r : Nat) (Ψ : Val → Prop), r < 3 → (∀ gs, SysOk n gs → gs.length = r → Ψ (.d (sysD n gs))) → sp_law_system [.pot, .d (I n), .d (.int r)] Ψ := fun r Ψ h1 k => ⟨n, r, rfl, by omega, by omega, k⟩
  have ej : ∀ gs : List EqS, PyData.tuple [I n, PyData.tuple (es.map eqD ++ gs.map eqD)] = sysD n (es ++ gs) := fun gs => by simp [sysD]
  simp only [E82] at go ⊢
  rw [L82_8, dSeq]
  try simp [-dSeq, and_assoc]
  refine dr _ fun r hr => ?_
  try simp [-dSeq, and_assoc]
  refine kS r _ hr fun gs go' gl => ?_
  try simp [-dSeq, and_assoc]
  have el := H.el
  have jo : SysOk n (es ++ gs) := fun e he => (List.mem_append.mp he).elim (H.he e) (go' e)
  have jl : (es ++ gs).length ≤ 10 := by rw [List.length_append]; omega
  rw [L82_9, dSeq]
  try simp [-dSeq, and_assoc]
  refine ⟨_, rfl, _, at1, _, rfl, _, at1, ?_⟩
  try simp [-dSeq, and_assoc]
  rw [ej gs]
  refine ⟨by omega, ?_⟩
  rw [L82_10, dSeq]
  try simp [-dSeq, and_assoc]
  refine kJ gs _ (by omega) ?_
  rw [ne_same (lay_sysD _ _) (by decide)]
  try simp [-dSeq, and_assoc]
  rw [L82_11, dSeq]
  try simp [-dSeq, and_assoc]
  refine kA _ _ jo jl ?_
  try simp [-dSeq, and_assoc]
  refine kL _ _ H.he (by omega) ?_
  try simp [-dSeq, and_assoc]
  rcases z9 with _ | z9
  all_goals
    try simp [-dSeq, and_assoc]
    refine compW_map TI (fun u => decide (u ∈ ansR n gs)) TI (ansR n es) [] (by have := ansR_len n es; have t1 : 2 ^ n ≤ 2 ^ 2 := two_le (by omega); simp; omega) (fun u hu N S hN hS => ?_) ?_
    · simp [-dSeq, and_assoc]
      refine kL _ _ go' (by omega) ?_
      refine in_TI rfl ?_
      by_cases hm : u ∈ ansR n gs
      · simp [hm] at hN ⊢
        exact hN
      · simp [hm] at hS ⊢
        exact hS
    · try simp [-dSeq, and_assoc]
      rw [← ansR_join, ne_same (lay_rows _) (by decide)]
      exact .inl ⟨rfl, go _ _ _⟩
theorem t82_5 (H : H82 n m es fs) :
    L82_5 KT82 (E82 n m es fs none none none none none none none none none) := by
  have h := H.h
  have go := fun z9 => t82_8 H z9
  have bl := besS_len H
  have ok := besS_ok H.he H.hf
  have ea := ansR_bes (m := m) (fs := fs) H.he
  have kA : ∀ Ψ : Val → Prop, Ψ (.d (T ((ansR (n + m) (besS n es fs)).map TI))) → sp_all_answers [.d (sysD (n + m) (besS n es fs))] Ψ := fun Ψ k => ⟨n + m, _, rfl, ok, by omega, by omega, k⟩
  have kL : ∀ (k : Nat) (gs : List EqS) (Ψ : Val → Prop), SysOk k gs → gs.length ≤ 10 → k ≤ 2 → Ψ (.own ((ansR k gs).map TI)) → sp_law_answers [.d (sysD k gs)] Ψ := fun k gs Ψ h1 h2 h3 q => ⟨k, gs, rfl, h1, by omega, by omega, q⟩
  have l1 : (ansR n es).length ≤ 4 := by have := ansR_len n es; have t1 : 2 ^ n ≤ 2 ^ 2 := two_le (by omega); omega
  have l2 : (ansR m fs).length ≤ 4 := by have := ansR_len m fs; have t1 : 2 ^ m ≤ 2 ^ 2 := two_le (by omega); omega
  have el := H.el
  have fl := H.fl
  simp only [E82] at go ⊢
  rw [L82_5, dSeq]
  simp [-dSeq, and_assoc]
  rw [L82_6, dSeq]
  simp [-dSeq, and_assoc]
  refine kL n es _ H.he (by omega) (by omega) ?_
  try simp [-dSeq, and_assoc]
  refine forW_map TI (fun r e => ∃ (us : List (List Int)) (z9 : Option PyData), e = [none, some .pot, some (.d (I n)), some (.d (I m)), some (.d (sysD n es)), some (.d (sysD m fs)), some (.d (kept82 n m es fs)), some (.d (sysD (n + m) (besS n es fs))), some (.own ((us.flatMap fun u => (ansR m fs).map fun v => u ++ v).map TI)), z9.map Val.d, none, none, none, none, none, none, none, none, none, none] ∧ us ++ r = ansR n es) ?_ ?_ (ansR n es) _ ⟨[], none, rfl, rfl⟩
  · rintro e ⟨us, z9, rfl, eu⟩
    have eu : us = ansR n es := by simpa using eu
    rw [eu, ← ea]
    show L82_7 _ _
    rw [L82_7, dSeq]
    simp [-dSeq, and_assoc]
    refine kA _ ?_
    try simp [-dSeq, and_assoc]
    rw [ne_same (lay_rows _) (by decide)]
    refine .inl ⟨rfl, ?_⟩
    refine kL (n + m) _ _ ok (by omega) h ?_
    refine ne_own rfl rfl (lay_rowsL _) (by decide) (.inl ⟨rfl, ?_⟩)
    exact go z9
  · rintro u r e ⟨us, z9, rfl, eu⟩ N hN
    have ul : us.length ≤ 4 := by have := congrArg List.length eu; simp at this; omega
    have fl4 : ∀ l : List (List Int), (l.flatMap fun u => (ansR m fs).map fun v => u ++ v).length = l.length * (ansR m fs).length := fun l => by
      induction l with
      | nil => simp
      | cons x l ih => rw [List.flatMap_cons, List.length_append, List.length_map, ih, List.length_cons, Nat.add_mul]; omega
    have ll : us.length * (ansR m fs).length ≤ 4 * 4 := Nat.mul_le_mul ul l2
    have ur : u.length = n := (rowsN_row (ansR_mem.mp (show u ∈ ansR n es by rw [← eu]; simp)).1).1
    try simp [-dSeq, and_assoc]
    rw [dSeq]
    simp [-dSeq, and_assoc]
    refine kL m fs _ H.hf (by omega) (by omega) ?_
    try simp [-dSeq, and_assoc]
    refine compW_all TI (fun v => TI (u ++ v)) (ansR m fs) (by omega) (fun v hv M hM => ?_) ?_
    · have vl := (rowsN_row (ansR_mem.mp hv).1).1
      simp [-dSeq, and_assoc]
      refine ⟨by omega, ?_⟩
      rw [u_app]
      exact hM
    · refine ⟨_, rfl, by rw [List.length_map, List.length_map, fl4]; omega, hN _ ⟨us ++ [u], some (TI u), ?_, by rw [← eu]; simp⟩⟩
      simp [List.map_flatMap, Function.comp_def]
theorem t82_2 (H : H82 n m es fs) :
    L82_2 KT82 [none, some .pot, some (.d (I n)), some (.d (I m)), some (.d (sysD n es)), some (.d (sysD m fs)), none, none, none, none, none, none, none, none, none, none, none, none, none, none] := by
  have h := H.h
  have go := t82_5 H
  have el := H.el
  have fl := H.fl
  have k1 : ∀ Ψ : Val → Prop, Ψ (.d (sysD (n + m) (besS n es fs))) → sp_beside_systems [.d (sysD n es), .d (sysD m fs)] Ψ := fun Ψ k => ⟨n, m, es, fs, rfl, H.hf, by omega, by omega, k⟩
  have k2 : ∀ (e : EqS) (Ψ : Val → Prop), e ∈ fs → Ψ (.d (eqD (movE n e))) → sp_law_moved [.d (eqD e), .d (I n)] Ψ := fun e Ψ he k => ⟨n, m, e, rfl, H.hf e he, by omega, k⟩
  have eb : PyData.tuple [PyData.int ((n : Int) + m), PyData.tuple (es.map eqD ++ fs.map fun e => eqD (movE n e))] = sysD (n + m) (besS n es fs) := by simp [sysD, besS, Function.comp_def]
  simp only [E82] at go
  rw [L82_2, dSeq]
  simp [-dSeq, and_assoc]
  refine repr82 H ?_
  try simp [-dSeq, and_assoc]
  rw [L82_3, dSeq]
  simp [-dSeq, and_assoc]
  refine ⟨_, rfl, _, at1, _, rfl, _, at1, ?_⟩
  refine ⟨_, rfl, ?_⟩
  refine compW_all eqD (fun e => eqD (movE n e)) fs (by omega) (fun e he M hM => ?_) ?_
  · simp [-dSeq]
    refine k2 e _ he ?_
    try simp
    exact hM
  · simp [-dSeq, and_assoc]
    rw [eb]
    refine ⟨by omega, ?_⟩
    rw [L82_4, dSeq]
    simp [-dSeq, and_assoc]
    refine k1 _ ?_
    rw [ne_same (lay_sysD _ _) (by decide)]
    simp [-dSeq, and_assoc]
    refine ⟨rfl, k1 _ ?_⟩
    rw [ne_same (lay_sysD _ _) (by decide)]
    simp [-dSeq, and_assoc]
    exact go
theorem t82_0 : L82_0 KT82 [none, some .pot, none, none, none, none, none, none, none, none, none, none, none, none, none, none, none, none, none, none] := by
  have go := fun (n m : Nat) (es fs : List EqS) H => t82_2 (n := n) (m := m) (es := es) (fs := fs) H
  have dr : ∀ Ψ : Val → Prop, (∀ r : Nat, r < 3 → Ψ (.d (.int r))) → sp_law_draw [.pot, .d (.int 3)] Ψ := fun Ψ k => ⟨3, rfl, by decide, by decide, k⟩
  have kS : ∀ (n r : Nat) (Ψ : Val → Prop), n ≤ 4 → r < 3 → (∀ gs, SysOk n gs → gs.length = r → Ψ (.d (sysD n gs))) → sp_law_system [.pot, .d (.int (n : Nat)), .d (.int (r : Nat))] Ψ := fun n r Ψ h0 h1 k => ⟨n, r, rfl, h0, by omega, k⟩
  have kP : ∀ Ψ : Val → Prop, (∀ n m : Nat, n + m ≤ 2 → Ψ (.d (T [I n, I m]))) → sp_law_pick [.pot, .d (.list [T [I 1, I 1], T [I 1, I 1], T [I 1, I 1], T [I 0, I 1], T [I 2, I 0], T [I 0, I 2], T [I 1, I 0], T [I 0, I 0]])] Ψ := fun Ψ k => by
    refine ⟨_, _, rfl, rfl, by simp, by simp, fun y hy => ?_⟩
    simp at hy
    rcases hy with rfl | rfl | rfl | rfl | rfl | rfl
    · exact k 1 1 (by decide)
    · exact k 0 1 (by decide)
    · exact k 2 0 (by decide)
    · exact k 0 2 (by decide)
    · exact k 1 0 (by decide)
    · exact k 0 0 (by decide)
  rw [L82_0, dSeq]
  simp [-dSeq, and_assoc]
  refine kP _ fun n m h => ?_
  try simp [-dSeq, and_assoc]
  rw [L82_1, dSeq]
  simp [-dSeq, and_assoc]
  refine dr _ fun r hr => ?_
  try simp [-dSeq, and_assoc]
  refine kS n r _ (by omega) hr fun es he el => ?_
  try simp [-dSeq, and_assoc]
  refine dr _ fun r' hr' => ?_
  try simp [-dSeq, and_assoc]
  refine kS m r' _ (by omega) hr' fun fs hf fl => ?_
  try simp [-dSeq, and_assoc]
  exact go n m es fs ⟨h, he, hf, by omega, by omega⟩
end
theorem v_law_k82 : L82_0 (kRet fun v => v = .d (.bool true)) (envPot ["script", "pot", "n", "m", "one", "other", "kept", "both", "due", "u", "more", "joined", "v", "sizes", "first", "second", "whole", "own", "i", "k"]) := by
  have e : (kRet fun v => v = .d (.bool true)) = KT82 := by simp [kRet]
  rw [e]
  exact t82_0
end Ev
set_option Elab.async false
set_option linter.all false
set_option maxRecDepth 100000
set_option maxHeartbeats 0
namespace Ev
open PySem PySem.Spec PyProof.Rows L2
def tst (i : Nat) : Stmt := PySem.Challenge.pw_fewbitsread_k82_whole_beside_along.main.body.getD i (.Pass ⟨0, 0, 0, 0⟩)
def glbs : List (Str × Int) := [("MAX_EQUATIONS", 12), ("MAX_LETTERS", 12), ("MAX_LISTED", 500), ("MAX_PROVED", 3)]
def txs0 : List (Str × Str × Nat) := [(("row_place" : Str), ("row_place" : Str), 1), (("row_at" : Str), ("row_at" : Str), 2), (("rows_added" : Str), ("rows_added" : Str), 3), (("lot_row" : Str), ("lot_row" : Str), 4), (("all_rows" : Str), ("all_rows" : Str), 5), (("matrix_of" : Str), ("matrix_of" : Str), 7), (("laid_product" : Str), ("laid_product" : Str), 8), (("is_bit" : Str), ("is_bit" : Str), 18), (("table_error" : Str), ("table_error" : Str), 19), (("table_letters" : Str), ("table_letters" : Str), 20), (("value_at" : Str), ("value_at" : Str), 21), (("part_of" : Str), ("part_of" : Str), 23), (("crossed" : Str), ("crossed" : Str), 24), (("beside_proof" : Str), ("beside_proof" : Str), 25), (("signs_of" : Str), ("signs_of" : Str), 27), (("stepped" : Str), ("stepped" : Str), 28), (("led_through" : Str), ("led_through" : Str), 29), (("spectrum" : Str), ("spectrum" : Str), 30), (("crossed_sums" : Str), ("crossed_sums" : Str), 32), (("shift_sums" : Str), ("shift_sums" : Str), 33)]
def txs1 : List (Str × Str × Nat) := [(("equation_value" : Str), ("equation_value" : Str), 35), (("values_row" : Str), ("values_row" : Str), 36), (("equation_told" : Str), ("equation_told" : Str), 37), (("equations_sum" : Str), ("equations_sum" : Str), 38), (("passed_by" : Str), ("passed_by" : Str), 40), (("both_shifts" : Str), ("both_shifts" : Str), 41), (("equations_passed" : Str), ("equations_passed" : Str), 42), (("choices_by" : Str), ("choices_by" : Str), 44), (("products_passed" : Str), ("products_passed" : Str), 45), (("power_of_two" : Str), ("power_of_two" : Str), 47), (("cubes_sum" : Str), ("cubes_sum" : Str), 49), (("passed_of_spectrum" : Str), ("passed_of_spectrum" : Str), 51), (("sums_passed" : Str), ("sums_passed" : Str), 52), (("passed_counts" : Str), ("passed_counts" : Str), 54), (("sum_table" : Str), ("sum_table" : Str), 56), (("unit_rows" : Str), ("unit_rows" : Str), 57), (("sum_row" : Str), ("sum_row" : Str), 58), (("proof_error" : Str), ("proof_error" : Str), 60), (("proof_of" : Str), ("proof_of" : Str), 61), (("proof_row" : Str), ("proof_row" : Str), 62)]
def txs2 : List (Str × Str × Nat) := [(("answers_list" : Str), ("answers_list" : Str), 64), (("all_answers" : Str), ("all_answers" : Str), 65), (("first_unlike" : Str), ("first_unlike" : Str), 67), (("proof_fault" : Str), ("proof_fault" : Str), 68), (("told_system" : Str), ("told_system" : Str), 70), (("beside_systems" : Str), ("beside_systems" : Str), 71), (("joined_equations" : Str), ("joined_equations" : Str), 72), (("_law_pot" : Str), ("_law_pot" : Str), 74), (("_law_draw" : Str), ("_law_draw" : Str), 75), (("_law_pick" : Str), ("_law_pick" : Str), 76), (("_law_mixed" : Str), ("_law_mixed" : Str), 77), (("_law_rows" : Str), ("_law_rows" : Str), 78), (("_law_place" : Str), ("_law_place" : Str), 79), (("_law_product" : Str), ("_law_product" : Str), 80), (("_law_outer" : Str), ("_law_outer" : Str), 81), (("_law_value" : Str), ("_law_value" : Str), 82), (("_law_system" : Str), ("_law_system" : Str), 83), (("_law_answers" : Str), ("_law_answers" : Str), 84), (("_law_sum" : Str), ("_law_sum" : Str), 85), (("_law_sum_table" : Str), ("_law_sum_table" : Str), 86)]
def txs3 : List (Str × Str × Nat) := [(("_law_proof" : Str), ("_law_proof" : Str), 87), (("_law_spoilt" : Str), ("_law_spoilt" : Str), 88), (("_law_shift" : Str), ("_law_shift" : Str), 89), (("_law_sums_passed" : Str), ("_law_sums_passed" : Str), 90), (("_law_products_passed" : Str), ("_law_products_passed" : Str), 91), (("_law_row_passed" : Str), ("_law_row_passed" : Str), 92), (("_law_equations_passed" : Str), ("_law_equations_passed" : Str), 93), (("_law_counts" : Str), ("_law_counts" : Str), 94), (("_law_places" : Str), ("_law_places" : Str), 95), (("_law_beside" : Str), ("_law_beside" : Str), 96), (("_law_moved" : Str), ("_law_moved" : Str), 97)]
def txs : List (Str × Str × Nat) := txs0 ++ txs1 ++ txs2 ++ txs3
def Texts (K : PySem.W.Frag) (mg : Str → Option Value) : Prop := ∀ d ∈ txs, ∃ (a : Addr) (fd : FuncData), TextAt K mg d.1 d.2.1 (tst d.2.2) a fd
section
variable {P : Program} {w : World} {K : PySem.W.Frag} {mg : Str → Option Value} {base : Heap}
def F_row_place : FnS := ⟨"row_place", ["row"], sp_row_place, []⟩
theorem c_row_place : (coB 60 ⟨["row", "found", "bit"], defScope (tst 1), [], glbs, false, ["row", "found", "bit"]⟩ (defBody (tst 1))).map (·.d) = some D_row_place := by kernel_rfl
theorem ok_row_place (m : Mods K mg glbs) (tx : Texts K mg) : OkAt P w K mg base 1 F_row_place := by
  obtain ⟨a, fd, T⟩ := tx _ (List.mem_of_getElem? (i := 0) rfl)
  exact add_def (k := 0) (f := F_row_place) (N := ["row", "found", "bit"]) (own := ["row", "found", "bit"]) m AllOk.nil T ⟨rfl, rfl, rfl, by decide +kernel, rfl, by decide +kernel, by decide +kernel⟩ (fun _ _ _ _ _ _ us hl => match us, hl with | [_], _ => rfl) (cb_get c_row_place) (fun args Φ _ h => v_row_place args Φ h) (fun q hq => by cases hq)
def F_row_at : FnS := ⟨"row_at", ["n", "place"], sp_row_at, []⟩
theorem c_row_at : (coB 60 ⟨["n", "place", "found", "step"], defScope (tst 2), [], glbs, false, ["n", "place", "found", "step"]⟩ (defBody (tst 2))).map (·.d) = some D_row_at := by kernel_rfl
theorem ok_row_at (m : Mods K mg glbs) (tx : Texts K mg) : OkAt P w K mg base 1 F_row_at := by
  obtain ⟨a, fd, T⟩ := tx _ (List.mem_of_getElem? (i := 1) rfl)
  exact add_def (k := 0) (f := F_row_at) (N := ["n", "place", "found", "step"]) (own := ["n", "place", "found", "step"]) m AllOk.nil T ⟨rfl, rfl, rfl, by decide +kernel, rfl, by decide +kernel, by decide +kernel⟩ (fun _ _ _ _ _ _ us hl => match us, hl with | [_, _], _ => rfl) (cb_get c_row_at) (fun args Φ _ h => v_row_at args Φ h) (fun q hq => by cases hq)
def F_rows_added : FnS := ⟨"rows_added", ["one", "other"], sp_rows_added, []⟩
theorem c_rows_added : (coB 60 ⟨["one", "other", "a", "b"], defScope (tst 3), [], glbs, false, ["one", "other", "a", "b"]⟩ (defBody (tst 3))).map (·.d) = some D_rows_added := by kernel_rfl
theorem ok_rows_added (m : Mods K mg glbs) (tx : Texts K mg) : OkAt P w K mg base 1 F_rows_added := by
  obtain ⟨a, fd, T⟩ := tx _ (List.mem_of_getElem? (i := 2) rfl)
  exact add_def (k := 0) (f := F_rows_added) (N := ["one", "other", "a", "b"]) (own := ["one", "other", "a", "b"]) m AllOk.nil T ⟨rfl, rfl, rfl, by decide +kernel, rfl, by decide +kernel, by decide +kernel⟩ (fun _ _ _ _ _ _ us hl => match us, hl with | [_, _], _ => rfl) (cb_get c_rows_added) (fun args Φ _ h => v_rows_added args Φ h) (fun q hq => by cases hq)
def F_lot_row : FnS := ⟨"lot_row", ["n", "lot"], sp_lot_row, []⟩
theorem c_lot_row : (coB 60 ⟨["n", "lot", "known", "place"], defScope (tst 4), [], glbs, false, ["n", "lot", "known", "place"]⟩ (defBody (tst 4))).map (·.d) = some D_lot_row := by kernel_rfl
theorem ok_lot_row (m : Mods K mg glbs) (tx : Texts K mg) : OkAt P w K mg base 1 F_lot_row := by
  obtain ⟨a, fd, T⟩ := tx _ (List.mem_of_getElem? (i := 3) rfl)
  exact add_def (k := 0) (f := F_lot_row) (N := ["n", "lot", "known", "place"]) (own := ["n", "lot", "known", "place"]) m AllOk.nil T ⟨rfl, rfl, rfl, by decide +kernel, rfl, by decide +kernel, by decide +kernel⟩ (fun _ _ _ _ _ _ us hl => match us, hl with | [_, _], _ => rfl) (cb_get c_lot_row) (fun args Φ _ h => v_lot_row args Φ h) (fun q hq => by cases hq)
def F_all_rows : FnS := ⟨"all_rows", ["n"], sp_all_rows, []⟩
theorem c_all_rows : (coB 60 ⟨["n", "found", "step", "longer", "row"], defScope (tst 5), [], glbs, false, ["n", "found", "step", "longer", "row"]⟩ (defBody (tst 5))).map (·.d) = some D_all_rows := by kernel_rfl
theorem ok_all_rows (m : Mods K mg glbs) (tx : Texts K mg) : OkAt P w K mg base 1 F_all_rows := by
  obtain ⟨a, fd, T⟩ := tx _ (List.mem_of_getElem? (i := 4) rfl)
  exact add_def (k := 0) (f := F_all_rows) (N := ["n", "found", "step", "longer", "row"]) (own := ["n", "found", "step", "longer", "row"]) m AllOk.nil T ⟨rfl, rfl, rfl, by decide +kernel, rfl, by decide +kernel, by decide +kernel⟩ (fun _ _ _ _ _ _ us hl => match us, hl with | [_], _ => rfl) (cb_get c_all_rows) (fun args Φ _ h => v_all_rows args Φ h) (fun q hq => by cases hq)
def F_matrix_of : FnS := ⟨"matrix_of", ["n", "laid"], sp_matrix_of, []⟩
theorem c_matrix_of : (coB 60 ⟨["n", "laid", "i"], defScope (tst 7), [], glbs, false, ["n", "laid", "i"]⟩ (defBody (tst 7))).map (·.d) = some D_matrix_of := by kernel_rfl
theorem ok_matrix_of (m : Mods K mg glbs) (tx : Texts K mg) : OkAt P w K mg base 1 F_matrix_of := by
  obtain ⟨a, fd, T⟩ := tx _ (List.mem_of_getElem? (i := 5) rfl)
  exact add_def (k := 0) (f := F_matrix_of) (N := ["n", "laid", "i"]) (own := ["n", "laid", "i"]) m AllOk.nil T ⟨rfl, rfl, rfl, by decide +kernel, rfl, by decide +kernel, by decide +kernel⟩ (fun _ _ _ _ _ _ us hl => match us, hl with | [_, _], _ => rfl) (cb_get c_matrix_of) (fun args Φ _ h => v_matrix_of args Φ h) (fun q hq => by cases hq)
def F_laid_product : FnS := ⟨"laid_product", ["one", "other"], sp_laid_product, []⟩
theorem c_laid_product : (coB 60 ⟨["one", "other", "found", "a", "b"], defScope (tst 8), [], glbs, false, ["one", "other", "found", "a", "b"]⟩ (defBody (tst 8))).map (·.d) = some D_laid_product := by kernel_rfl
theorem ok_laid_product (m : Mods K mg glbs) (tx : Texts K mg) : OkAt P w K mg base 1 F_laid_product := by
  obtain ⟨a, fd, T⟩ := tx _ (List.mem_of_getElem? (i := 6) rfl)
  exact add_def (k := 0) (f := F_laid_product) (N := ["one", "other", "found", "a", "b"]) (own := ["one", "other", "found", "a", "b"]) m AllOk.nil T ⟨rfl, rfl, rfl, by decide +kernel, rfl, by decide +kernel, by decide +kernel⟩ (fun _ _ _ _ _ _ us hl => match us, hl with | [_, _], _ => rfl) (cb_get c_laid_product) (fun args Φ _ h => v_laid_product args Φ h) (fun q hq => by cases hq)
def F_is_bit : FnS := ⟨"is_bit", ["value"], sp_is_bit, []⟩
theorem c_is_bit : (coB 60 ⟨["value"], defScope (tst 18), [], glbs, false, ["value"]⟩ (defBody (tst 18))).map (·.d) = some D_is_bit := by kernel_rfl
theorem ok_is_bit (m : Mods K mg glbs) (tx : Texts K mg) : OkAt P w K mg base 1 F_is_bit := by
  obtain ⟨a, fd, T⟩ := tx _ (List.mem_of_getElem? (i := 7) rfl)
  exact add_def (k := 0) (f := F_is_bit) (N := ["value"]) (own := ["value"]) m AllOk.nil T ⟨rfl, rfl, rfl, by decide +kernel, rfl, by decide +kernel, by decide +kernel⟩ (fun _ _ _ _ _ _ us hl => match us, hl with | [_], _ => rfl) (cb_get c_is_bit) (fun args Φ _ h => v_is_bit args Φ h) (fun q hq => by cases hq)
def F_table_error : FnS := ⟨"table_error", ["n", "value"], sp_table_error, []⟩
theorem c_table_error : (coB 60 ⟨["n", "value", "place", "item"], defScope (tst 19), [F_is_bit], glbs, false, ["n", "value", "place", "item"]⟩ (defBody (tst 19))).map (·.d) = some D_table_error := by kernel_rfl
theorem ok_table_error (m : Mods K mg glbs) (tx : Texts K mg) : OkAt P w K mg base 2 F_table_error := by
  obtain ⟨a, fd, T⟩ := tx _ (List.mem_of_getElem? (i := 8) rfl)
  exact add_def (k := 1) (f := F_table_error) (N := ["n", "value", "place", "item"]) (own := ["n", "value", "place", "item"]) m (AllOk.cons AllOk.nil ((ok_is_bit m tx).mono (by decide))) T ⟨rfl, rfl, rfl, by decide +kernel, rfl, by decide +kernel, by decide +kernel⟩ (fun _ _ _ _ _ _ us hl => match us, hl with | [_, _], _ => rfl) (cb_get c_table_error) (fun args Φ _ h => v_table_error args Φ h) (fun q hq => by cases hq)
def F_table_letters : FnS := ⟨"table_letters", ["table"], sp_table_letters, []⟩
theorem c_table_letters : (coB 60 ⟨["table", "n"], defScope (tst 20), [], glbs, false, ["table", "n"]⟩ (defBody (tst 20))).map (·.d) = some D_table_letters := by kernel_rfl
theorem ok_table_letters (m : Mods K mg glbs) (tx : Texts K mg) : OkAt P w K mg base 1 F_table_letters := by
  obtain ⟨a, fd, T⟩ := tx _ (List.mem_of_getElem? (i := 9) rfl)
  exact add_def (k := 0) (f := F_table_letters) (N := ["table", "n"]) (own := ["table", "n"]) m AllOk.nil T ⟨rfl, rfl, rfl, by decide +kernel, rfl, by decide +kernel, by decide +kernel⟩ (fun _ _ _ _ _ _ us hl => match us, hl with | [_], _ => rfl) (cb_get c_table_letters) (fun args Φ _ h => v_table_letters args Φ h) (fun q hq => by cases hq)
def F_value_at : FnS := ⟨"value_at", ["table", "row"], sp_value_at, []⟩
theorem c_value_at : (coB 60 ⟨["table", "row"], defScope (tst 21), [F_row_place], glbs, false, ["table", "row"]⟩ (defBody (tst 21))).map (·.d) = some D_value_at := by kernel_rfl
theorem ok_value_at (m : Mods K mg glbs) (tx : Texts K mg) : OkAt P w K mg base 2 F_value_at := by
  obtain ⟨a, fd, T⟩ := tx _ (List.mem_of_getElem? (i := 10) rfl)
  exact add_def (k := 1) (f := F_value_at) (N := ["table", "row"]) (own := ["table", "row"]) m (AllOk.cons AllOk.nil ((ok_row_place m tx).mono (by decide))) T ⟨rfl, rfl, rfl, by decide +kernel, rfl, by decide +kernel, by decide +kernel⟩ (fun _ _ _ _ _ _ us hl => match us, hl with | [_, _], _ => rfl) (cb_get c_value_at) (fun args Φ _ h => v_value_at args Φ h) (fun q hq => by cases hq)
def F_part_of : FnS := ⟨"part_of", ["matrix", "places"], sp_part_of, []⟩
theorem c_part_of : (coB 60 ⟨["matrix", "places", "found", "i", "j"], defScope (tst 23), [], glbs, false, ["matrix", "places", "found", "i", "j"]⟩ (defBody (tst 23))).map (·.d) = some D_part_of := by kernel_rfl
theorem ok_part_of (m : Mods K mg glbs) (tx : Texts K mg) : OkAt P w K mg base 1 F_part_of := by
  obtain ⟨a, fd, T⟩ := tx _ (List.mem_of_getElem? (i := 11) rfl)
  exact add_def (k := 0) (f := F_part_of) (N := ["matrix", "places", "found", "i", "j"]) (own := ["matrix", "places", "found", "i", "j"]) m AllOk.nil T ⟨rfl, rfl, rfl, by decide +kernel, rfl, by decide +kernel, by decide +kernel⟩ (fun _ _ _ _ _ _ us hl => match us, hl with | [_, _], _ => rfl) (cb_get c_part_of) (fun args Φ _ h => v_part_of args Φ h) (fun q hq => by cases hq)
def F_crossed : FnS := ⟨"crossed", ["one", "other", "n", "m", "matrix"], sp_crossed, []⟩
theorem c_crossed : (coB 60 ⟨["one", "other", "n", "m", "matrix", "found", "i", "row", "j"], defScope (tst 24), [F_value_at, F_lot_row], glbs, false, ["one", "other", "n", "m", "matrix", "found", "i", "row", "j"]⟩ (defBody (tst 24))).map (·.d) = some D_crossed := by kernel_rfl
theorem ok_crossed (m : Mods K mg glbs) (tx : Texts K mg) : OkAt P w K mg base 3 F_crossed := by
  obtain ⟨a, fd, T⟩ := tx _ (List.mem_of_getElem? (i := 12) rfl)
  exact add_def (k := 2) (f := F_crossed) (N := ["one", "other", "n", "m", "matrix", "found", "i", "row", "j"]) (own := ["one", "other", "n", "m", "matrix", "found", "i", "row", "j"]) m (AllOk.cons (AllOk.cons AllOk.nil ((ok_lot_row m tx).mono (by decide))) ((ok_value_at m tx).mono (by decide))) T ⟨rfl, rfl, rfl, by decide +kernel, rfl, by decide +kernel, by decide +kernel⟩ (fun _ _ _ _ _ _ us hl => match us, hl with | [_, _, _, _, _], _ => rfl) (cb_get c_crossed) (fun args Φ _ h => v_crossed args Φ h) (fun q hq => by cases hq)
def F_beside_proof : FnS := ⟨"beside_proof", ["one", "other"], sp_beside_proof, [(["other", "one"], [1, 0])]⟩
theorem kw_beside_proof : ∀ q ∈ F_beside_proof.kws, q = ((["other", "one"] : List Str), ([1, 0] : List Nat)) := by
  intro q hq
  simpa [F_beside_proof] using hq
theorem c_beside_proof : (coB 60 ⟨["one", "other", "n", "m", "f", "g", "size", "place", "matrix", "first", "second", "row"], defScope (tst 25), [F_table_letters, F_matrix_of, F_value_at, F_all_rows, F_row_at, F_part_of, F_crossed], glbs, false, ["one", "other", "n", "m", "f", "g", "size", "place", "matrix", "first", "second", "row"]⟩ (defBody (tst 25))).map (·.d) = some D_beside_proof := by kernel_rfl
theorem ok_beside_proof (m : Mods K mg glbs) (tx : Texts K mg) : OkAt P w K mg base 4 F_beside_proof := by
  obtain ⟨a, fd, T⟩ := tx _ (List.mem_of_getElem? (i := 13) rfl)
  exact add_def (k := 3) (f := F_beside_proof) (N := ["one", "other", "n", "m", "f", "g", "size", "place", "matrix", "first", "second", "row"]) (own := ["one", "other", "n", "m", "f", "g", "size", "place", "matrix", "first", "second", "row"]) m (AllOk.cons (AllOk.cons (AllOk.cons (AllOk.cons (AllOk.cons (AllOk.cons (AllOk.cons AllOk.nil ((ok_crossed m tx).mono (by decide))) ((ok_part_of m tx).mono (by decide))) ((ok_row_at m tx).mono (by decide))) ((ok_all_rows m tx).mono (by decide))) ((ok_value_at m tx).mono (by decide))) ((ok_matrix_of m tx).mono (by decide))) ((ok_table_letters m tx).mono (by decide))) T ⟨rfl, rfl, rfl, by decide +kernel, rfl, by decide +kernel, by decide +kernel⟩ (fun _ _ _ _ _ _ us hl => match us, hl with | [_, _], _ => rfl) (cb_get c_beside_proof) (fun args Φ _ h => v_beside_proof args Φ h) (fun q hq => by
    rcases kw_beside_proof q hq with rfl
    all_goals exact fun _ _ _ _ _ _ ws hl => match ws, hl with | [_, _], _ => rfl)
def F_signs_of : FnS := ⟨"signs_of", ["table"], sp_signs_of, []⟩
theorem c_signs_of : (coB 60 ⟨["table", "bit"], defScope (tst 27), [], glbs, false, ["table", "bit"]⟩ (defBody (tst 27))).map (·.d) = some D_signs_of := by kernel_rfl
theorem ok_signs_of (m : Mods K mg glbs) (tx : Texts K mg) : OkAt P w K mg base 1 F_signs_of := by
  obtain ⟨a, fd, T⟩ := tx _ (List.mem_of_getElem? (i := 14) rfl)
  exact add_def (k := 0) (f := F_signs_of) (N := ["table", "bit"]) (own := ["table", "bit"]) m AllOk.nil T ⟨rfl, rfl, rfl, by decide +kernel, rfl, by decide +kernel, by decide +kernel⟩ (fun _ _ _ _ _ _ us hl => match us, hl with | [_], _ => rfl) (cb_get c_signs_of) (fun args Φ _ h => v_signs_of args Φ h) (fun q hq => by cases hq)
def F_stepped : FnS := ⟨"stepped", ["values", "stride"], sp_stepped, []⟩
theorem c_stepped : (coB 60 ⟨["values", "stride", "found", "begin", "place", "one", "other"], defScope (tst 28), [], glbs, false, ["values", "stride", "found", "begin", "place", "one", "other"]⟩ (defBody (tst 28))).map (·.d) = some D_stepped := by kernel_rfl
theorem ok_stepped (m : Mods K mg glbs) (tx : Texts K mg) : OkAt P w K mg base 1 F_stepped := by
  obtain ⟨a, fd, T⟩ := tx _ (List.mem_of_getElem? (i := 15) rfl)
  exact add_def (k := 0) (f := F_stepped) (N := ["values", "stride", "found", "begin", "place", "one", "other"]) (own := ["values", "stride", "found", "begin", "place", "one", "other"]) m AllOk.nil T ⟨rfl, rfl, rfl, by decide +kernel, rfl, by decide +kernel, by decide +kernel⟩ (fun _ _ _ _ _ _ us hl => match us, hl with | [_, _], _ => rfl) (cb_get c_stepped) (fun args Φ _ h => v_stepped args Φ h) (fun q hq => by cases hq)
def F_led_through : FnS := ⟨"led_through", ["values"], sp_led_through, []⟩
theorem c_led_through : (coB 60 ⟨["values", "stride"], defScope (tst 29), [F_stepped], glbs, false, ["values", "stride"]⟩ (defBody (tst 29))).map (·.d) = some D_led_through := by kernel_rfl
theorem ok_led_through (m : Mods K mg glbs) (tx : Texts K mg) : OkAt P w K mg base 2 F_led_through := by
  obtain ⟨a, fd, T⟩ := tx _ (List.mem_of_getElem? (i := 16) rfl)
  exact add_def (k := 1) (f := F_led_through) (N := ["values", "stride"]) (own := ["values", "stride"]) m (AllOk.cons AllOk.nil ((ok_stepped m tx).mono (by decide))) T ⟨rfl, rfl, rfl, by decide +kernel, rfl, by decide +kernel, by decide +kernel⟩ (fun _ _ _ _ _ _ us hl => match us, hl with | [_], _ => rfl) (cb_get c_led_through) (fun args Φ _ h => v_led_through args Φ h) (fun q hq => by cases hq)
def F_spectrum : FnS := ⟨"spectrum", ["table"], sp_spectrum, []⟩
theorem c_spectrum : (coB 60 ⟨["table"], defScope (tst 30), [F_led_through, F_signs_of], glbs, false, ["table"]⟩ (defBody (tst 30))).map (·.d) = some D_spectrum := by kernel_rfl
theorem ok_spectrum (m : Mods K mg glbs) (tx : Texts K mg) : OkAt P w K mg base 3 F_spectrum := by
  obtain ⟨a, fd, T⟩ := tx _ (List.mem_of_getElem? (i := 17) rfl)
  exact add_def (k := 2) (f := F_spectrum) (N := ["table"]) (own := ["table"]) m (AllOk.cons (AllOk.cons AllOk.nil ((ok_signs_of m tx).mono (by decide))) ((ok_led_through m tx).mono (by decide))) T ⟨rfl, rfl, rfl, by decide +kernel, rfl, by decide +kernel, by decide +kernel⟩ (fun _ _ _ _ _ _ us hl => match us, hl with | [_], _ => rfl) (cb_get c_spectrum) (fun args Φ _ h => v_spectrum args Φ h) (fun q hq => by cases hq)
def F_crossed_sums : FnS := ⟨"crossed_sums", ["one", "other"], sp_crossed_sums, []⟩
theorem c_crossed_sums : (coB 60 ⟨["one", "other", "products", "a", "b", "item"], defScope (tst 32), [F_led_through, F_spectrum], glbs, false, ["one", "other", "products", "a", "b", "item"]⟩ (defBody (tst 32))).map (·.d) = some D_crossed_sums := by kernel_rfl
theorem ok_crossed_sums (m : Mods K mg glbs) (tx : Texts K mg) : OkAt P w K mg base 4 F_crossed_sums := by
  obtain ⟨a, fd, T⟩ := tx _ (List.mem_of_getElem? (i := 18) rfl)
  exact add_def (k := 3) (f := F_crossed_sums) (N := ["one", "other", "products", "a", "b", "item"]) (own := ["one", "other", "products", "a", "b", "item"]) m (AllOk.cons (AllOk.cons AllOk.nil ((ok_spectrum m tx).mono (by decide))) ((ok_led_through m tx).mono (by decide))) T ⟨rfl, rfl, rfl, by decide +kernel, rfl, by decide +kernel, by decide +kernel⟩ (fun _ _ _ _ _ _ us hl => match us, hl with | [_, _], _ => rfl) (cb_get c_crossed_sums) (fun args Φ _ h => v_crossed_sums args Φ h) (fun q hq => by cases hq)
def F_shift_sums : FnS := ⟨"shift_sums", ["table"], sp_shift_sums, []⟩
theorem c_shift_sums : (coB 60 ⟨["table"], defScope (tst 33), [F_crossed_sums], glbs, false, ["table"]⟩ (defBody (tst 33))).map (·.d) = some D_shift_sums := by kernel_rfl
theorem ok_shift_sums (m : Mods K mg glbs) (tx : Texts K mg) : OkAt P w K mg base 5 F_shift_sums := by
  obtain ⟨a, fd, T⟩ := tx _ (List.mem_of_getElem? (i := 19) rfl)
  exact add_def (k := 4) (f := F_shift_sums) (N := ["table"]) (own := ["table"]) m (AllOk.cons AllOk.nil ((ok_crossed_sums m tx).mono (by decide))) T ⟨rfl, rfl, rfl, by decide +kernel, rfl, by decide +kernel, by decide +kernel⟩ (fun _ _ _ _ _ _ us hl => match us, hl with | [_], _ => rfl) (cb_get c_shift_sums) (fun args Φ _ h => v_shift_sums args Φ h) (fun q hq => by cases hq)
def F_equation_value : FnS := ⟨"equation_value", ["equation", "u"], sp_equation_value, []⟩
theorem c_equation_value : (coB 60 ⟨["equation", "u", "constant", "singles", "pairs", "i", "j"], defScope (tst 35), [], glbs, false, ["equation", "u", "constant", "singles", "pairs", "i", "j"]⟩ (defBody (tst 35))).map (·.d) = some D_equation_value := by kernel_rfl
theorem ok_equation_value (m : Mods K mg glbs) (tx : Texts K mg) : OkAt P w K mg base 1 F_equation_value := by
  obtain ⟨a, fd, T⟩ := tx _ (List.mem_of_getElem? (i := 20) rfl)
  exact add_def (k := 0) (f := F_equation_value) (N := ["equation", "u", "constant", "singles", "pairs", "i", "j"]) (own := ["equation", "u", "constant", "singles", "pairs", "i", "j"]) m AllOk.nil T ⟨rfl, rfl, rfl, by decide +kernel, rfl, by decide +kernel, by decide +kernel⟩ (fun _ _ _ _ _ _ us hl => match us, hl with | [_, _], _ => rfl) (cb_get c_equation_value) (fun args Φ _ h => v_equation_value args Φ h) (fun q hq => by cases hq)
def F_values_row : FnS := ⟨"values_row", ["system", "u"], sp_values_row, []⟩
theorem c_values_row : (coB 60 ⟨["system", "u", "equation"], defScope (tst 36), [F_equation_value], glbs, false, ["system", "u", "equation"]⟩ (defBody (tst 36))).map (·.d) = some D_values_row := by kernel_rfl
theorem ok_values_row (m : Mods K mg glbs) (tx : Texts K mg) : OkAt P w K mg base 2 F_values_row := by
  obtain ⟨a, fd, T⟩ := tx _ (List.mem_of_getElem? (i := 21) rfl)
  exact add_def (k := 1) (f := F_values_row) (N := ["system", "u", "equation"]) (own := ["system", "u", "equation"]) m (AllOk.cons AllOk.nil ((ok_equation_value m tx).mono (by decide))) T ⟨rfl, rfl, rfl, by decide +kernel, rfl, by decide +kernel, by decide +kernel⟩ (fun _ _ _ _ _ _ us hl => match us, hl with | [_, _], _ => rfl) (cb_get c_values_row) (fun args Φ _ h => v_values_row args Φ h) (fun q hq => by cases hq)
def F_equation_told : FnS := ⟨"equation_told", ["n", "equation"], sp_equation_told, []⟩
theorem c_equation_told : (coB 60 ⟨["n", "equation", "constant", "singles", "pairs", "i", "j"], defScope (tst 37), [F_lot_row], glbs, false, ["n", "equation", "constant", "singles", "pairs", "i", "j"]⟩ (defBody (tst 37))).map (·.d) = some D_equation_told := by kernel_rfl
theorem ok_equation_told (m : Mods K mg glbs) (tx : Texts K mg) : OkAt P w K mg base 2 F_equation_told := by
  obtain ⟨a, fd, T⟩ := tx _ (List.mem_of_getElem? (i := 22) rfl)
  exact add_def (k := 1) (f := F_equation_told) (N := ["n", "equation", "constant", "singles", "pairs", "i", "j"]) (own := ["n", "equation", "constant", "singles", "pairs", "i", "j"]) m (AllOk.cons AllOk.nil ((ok_lot_row m tx).mono (by decide))) T ⟨rfl, rfl, rfl, by decide +kernel, rfl, by decide +kernel, by decide +kernel⟩ (fun _ _ _ _ _ _ us hl => match us, hl with | [_, _], _ => rfl) (cb_get c_equation_told) (fun args Φ _ h => v_equation_told args Φ h) (fun q hq => by cases hq)
def F_equations_sum : FnS := ⟨"equations_sum", ["system", "r"], sp_equations_sum, []⟩
theorem c_equations_sum : (coB 60 ⟨["system", "r", "n", "found", "bit", "equation", "told"], defScope (tst 38), [F_equation_told, F_rows_added], glbs, false, ["system", "r", "n", "found", "bit", "equation", "told"]⟩ (defBody (tst 38))).map (·.d) = some D_equations_sum := by kernel_rfl
theorem ok_equations_sum (m : Mods K mg glbs) (tx : Texts K mg) : OkAt P w K mg base 3 F_equations_sum := by
  obtain ⟨a, fd, T⟩ := tx _ (List.mem_of_getElem? (i := 23) rfl)
  exact add_def (k := 2) (f := F_equations_sum) (N := ["system", "r", "n", "found", "bit", "equation", "told"]) (own := ["system", "r", "n", "found", "bit", "equation", "told"]) m (AllOk.cons (AllOk.cons AllOk.nil ((ok_rows_added m tx).mono (by decide))) ((ok_equation_told m tx).mono (by decide))) T ⟨rfl, rfl, rfl, by decide +kernel, rfl, by decide +kernel, by decide +kernel⟩ (fun _ _ _ _ _ _ us hl => match us, hl with | [_, _], _ => rfl) (cb_get c_equations_sum) (fun args Φ _ h => v_equations_sum args Φ h) (fun q hq => by cases hq)
def F_passed_by : FnS := ⟨"passed_by", ["system", "shifts", "r"], sp_passed_by, []⟩
theorem c_passed_by : (coB 60 ⟨["system", "shifts", "r", "c", "s", "laid", "many", "moved"], defScope (tst 40), [F_equations_sum, F_row_place], glbs, false, ["system", "shifts", "r", "c", "s", "laid", "many", "moved"]⟩ (defBody (tst 40))).map (·.d) = some D_passed_by := by kernel_rfl
theorem ok_passed_by (m : Mods K mg glbs) (tx : Texts K mg) : OkAt P w K mg base 4 F_passed_by := by
  obtain ⟨a, fd, T⟩ := tx _ (List.mem_of_getElem? (i := 24) rfl)
  exact add_def (k := 3) (f := F_passed_by) (N := ["system", "shifts", "r", "c", "s", "laid", "many", "moved"]) (own := ["system", "shifts", "r", "c", "s", "laid", "many", "moved"]) m (AllOk.cons (AllOk.cons AllOk.nil ((ok_row_place m tx).mono (by decide))) ((ok_equations_sum m tx).mono (by decide))) T ⟨rfl, rfl, rfl, by decide +kernel, rfl, by decide +kernel, by decide +kernel⟩ (fun _ _ _ _ _ _ us hl => match us, hl with | [_, _, _], _ => rfl) (cb_get c_passed_by) (fun args Φ _ h => v_passed_by args Φ h) (fun q hq => by cases hq)
def F_both_shifts : FnS := ⟨"both_shifts", ["proof"], sp_both_shifts, []⟩
theorem c_both_shifts : (coB 60 ⟨["proof"], defScope (tst 41), [F_shift_sums], glbs, false, ["proof"]⟩ (defBody (tst 41))).map (·.d) = some D_both_shifts := by kernel_rfl
theorem ok_both_shifts (m : Mods K mg glbs) (tx : Texts K mg) : OkAt P w K mg base 6 F_both_shifts := by
  obtain ⟨a, fd, T⟩ := tx _ (List.mem_of_getElem? (i := 25) rfl)
  exact add_def (k := 5) (f := F_both_shifts) (N := ["proof"]) (own := ["proof"]) m (AllOk.cons AllOk.nil ((ok_shift_sums m tx).mono (by decide))) T ⟨rfl, rfl, rfl, by decide +kernel, rfl, by decide +kernel, by decide +kernel⟩ (fun _ _ _ _ _ _ us hl => match us, hl with | [_], _ => rfl) (cb_get c_both_shifts) (fun args Φ _ h => v_both_shifts args Φ h) (fun q hq => by cases hq)
def F_equations_passed : FnS := ⟨"equations_passed", ["system", "proof"], sp_equations_passed, []⟩
theorem c_equations_passed : (coB 60 ⟨["system", "proof", "shifts", "r"], defScope (tst 42), [F_both_shifts, F_passed_by, F_all_rows], glbs, false, ["system", "proof", "shifts", "r"]⟩ (defBody (tst 42))).map (·.d) = some D_equations_passed := by kernel_rfl
theorem ok_equations_passed (m : Mods K mg glbs) (tx : Texts K mg) : OkAt P w K mg base 7 F_equations_passed := by
  obtain ⟨a, fd, T⟩ := tx _ (List.mem_of_getElem? (i := 26) rfl)
  exact add_def (k := 6) (f := F_equations_passed) (N := ["system", "proof", "shifts", "r"]) (own := ["system", "proof", "shifts", "r"]) m (AllOk.cons (AllOk.cons (AllOk.cons AllOk.nil ((ok_all_rows m tx).mono (by decide))) ((ok_passed_by m tx).mono (by decide))) ((ok_both_shifts m tx).mono (by decide))) T ⟨rfl, rfl, rfl, by decide +kernel, rfl, by decide +kernel, by decide +kernel⟩ (fun _ _ _ _ _ _ us hl => match us, hl with | [_, _], _ => rfl) (cb_get c_equations_passed) (fun args Φ _ h => v_equations_passed args Φ h) (fun q hq => by cases hq)
def F_choices_by : FnS := ⟨"choices_by", ["proof", "shifts", "a", "b"], sp_choices_by, []⟩
theorem c_choices_by : (coB 60 ⟨["proof", "shifts", "a", "b", "f", "g", "both", "moved"], defScope (tst 44), [F_row_place, F_laid_product], glbs, false, ["proof", "shifts", "a", "b", "f", "g", "both", "moved"]⟩ (defBody (tst 44))).map (·.d) = some D_choices_by := by kernel_rfl
theorem ok_choices_by (m : Mods K mg glbs) (tx : Texts K mg) : OkAt P w K mg base 2 F_choices_by := by
  obtain ⟨a, fd, T⟩ := tx _ (List.mem_of_getElem? (i := 27) rfl)
  exact add_def (k := 1) (f := F_choices_by) (N := ["proof", "shifts", "a", "b", "f", "g", "both", "moved"]) (own := ["proof", "shifts", "a", "b", "f", "g", "both", "moved"]) m (AllOk.cons (AllOk.cons AllOk.nil ((ok_laid_product m tx).mono (by decide))) ((ok_row_place m tx).mono (by decide))) T ⟨rfl, rfl, rfl, by decide +kernel, rfl, by decide +kernel, by decide +kernel⟩ (fun _ _ _ _ _ _ us hl => match us, hl with | [_, _, _, _], _ => rfl) (cb_get c_choices_by) (fun args Φ _ h => v_choices_by args Φ h) (fun q hq => by cases hq)
def F_products_passed : FnS := ⟨"products_passed", ["n", "proof"], sp_products_passed, []⟩
theorem c_products_passed : (coB 60 ⟨["n", "proof", "shifts", "found", "a", "b"], defScope (tst 45), [F_all_rows, F_shift_sums, F_choices_by], glbs, false, ["n", "proof", "shifts", "found", "a", "b"]⟩ (defBody (tst 45))).map (·.d) = some D_products_passed := by kernel_rfl
theorem ok_products_passed (m : Mods K mg glbs) (tx : Texts K mg) : OkAt P w K mg base 6 F_products_passed := by
  obtain ⟨a, fd, T⟩ := tx _ (List.mem_of_getElem? (i := 28) rfl)
  exact add_def (k := 5) (f := F_products_passed) (N := ["n", "proof", "shifts", "found", "a", "b"]) (own := ["n", "proof", "shifts", "found", "a", "b"]) m (AllOk.cons (AllOk.cons (AllOk.cons AllOk.nil ((ok_choices_by m tx).mono (by decide))) ((ok_shift_sums m tx).mono (by decide))) ((ok_all_rows m tx).mono (by decide))) T ⟨rfl, rfl, rfl, by decide +kernel, rfl, by decide +kernel, by decide +kernel⟩ (fun _ _ _ _ _ _ us hl => match us, hl with | [_, _], _ => rfl) (cb_get c_products_passed) (fun args Φ _ h => v_products_passed args Φ h) (fun q hq => by cases hq)
def F_power_of_two : FnS := ⟨"power_of_two", ["many"], sp_power_of_two, []⟩
theorem c_power_of_two : (coB 60 ⟨["many", "found", "step"], defScope (tst 47), [], glbs, false, ["many", "found", "step"]⟩ (defBody (tst 47))).map (·.d) = some D_power_of_two := by kernel_rfl
theorem ok_power_of_two (m : Mods K mg glbs) (tx : Texts K mg) : OkAt P w K mg base 1 F_power_of_two := by
  obtain ⟨a, fd, T⟩ := tx _ (List.mem_of_getElem? (i := 29) rfl)
  exact add_def (k := 0) (f := F_power_of_two) (N := ["many", "found", "step"]) (own := ["many", "found", "step"]) m AllOk.nil T ⟨rfl, rfl, rfl, by decide +kernel, rfl, by decide +kernel, by decide +kernel⟩ (fun _ _ _ _ _ _ us hl => match us, hl with | [_], _ => rfl) (cb_get c_power_of_two) (fun args Φ _ h => v_power_of_two args Φ h) (fun q hq => by cases hq)
def F_cubes_sum : FnS := ⟨"cubes_sum", ["values"], sp_cubes_sum, []⟩
theorem c_cubes_sum : (coB 60 ⟨["values", "item"], defScope (tst 49), [], glbs, false, ["values", "item"]⟩ (defBody (tst 49))).map (·.d) = some D_cubes_sum := by kernel_rfl
theorem ok_cubes_sum (m : Mods K mg glbs) (tx : Texts K mg) : OkAt P w K mg base 1 F_cubes_sum := by
  obtain ⟨a, fd, T⟩ := tx _ (List.mem_of_getElem? (i := 30) rfl)
  exact add_def (k := 0) (f := F_cubes_sum) (N := ["values", "item"]) (own := ["values", "item"]) m AllOk.nil T ⟨rfl, rfl, rfl, by decide +kernel, rfl, by decide +kernel, by decide +kernel⟩ (fun _ _ _ _ _ _ us hl => match us, hl with | [_], _ => rfl) (cb_get c_cubes_sum) (fun args Φ _ h => v_cubes_sum args Φ h) (fun q hq => by cases hq)
def F_passed_of_spectrum : FnS := ⟨"passed_of_spectrum", ["value"], sp_passed_of_spectrum, []⟩
theorem c_passed_of_spectrum : (coB 60 ⟨["value", "many"], defScope (tst 51), [F_cubes_sum], glbs, false, ["value", "many"]⟩ (defBody (tst 51))).map (·.d) = some D_passed_of_spectrum := by kernel_rfl
theorem ok_passed_of_spectrum (m : Mods K mg glbs) (tx : Texts K mg) : OkAt P w K mg base 2 F_passed_of_spectrum := by
  obtain ⟨a, fd, T⟩ := tx _ (List.mem_of_getElem? (i := 31) rfl)
  exact add_def (k := 1) (f := F_passed_of_spectrum) (N := ["value", "many"]) (own := ["value", "many"]) m (AllOk.cons AllOk.nil ((ok_cubes_sum m tx).mono (by decide))) T ⟨rfl, rfl, rfl, by decide +kernel, rfl, by decide +kernel, by decide +kernel⟩ (fun _ _ _ _ _ _ us hl => match us, hl with | [_], _ => rfl) (cb_get c_passed_of_spectrum) (fun args Φ _ h => v_passed_of_spectrum args Φ h) (fun q hq => by cases hq)
def F_sums_passed : FnS := ⟨"sums_passed", ["table"], sp_sums_passed, []⟩
theorem c_sums_passed : (coB 60 ⟨["table"], defScope (tst 52), [F_passed_of_spectrum, F_spectrum], glbs, false, ["table"]⟩ (defBody (tst 52))).map (·.d) = some D_sums_passed := by kernel_rfl
theorem ok_sums_passed (m : Mods K mg glbs) (tx : Texts K mg) : OkAt P w K mg base 4 F_sums_passed := by
  obtain ⟨a, fd, T⟩ := tx _ (List.mem_of_getElem? (i := 32) rfl)
  exact add_def (k := 3) (f := F_sums_passed) (N := ["table"]) (own := ["table"]) m (AllOk.cons (AllOk.cons AllOk.nil ((ok_spectrum m tx).mono (by decide))) ((ok_passed_of_spectrum m tx).mono (by decide))) T ⟨rfl, rfl, rfl, by decide +kernel, rfl, by decide +kernel, by decide +kernel⟩ (fun _ _ _ _ _ _ us hl => match us, hl with | [_], _ => rfl) (cb_get c_sums_passed) (fun args Φ _ h => v_sums_passed args Φ h) (fun q hq => by cases hq)
def F_passed_counts : FnS := ⟨"passed_counts", ["system", "proof"], sp_passed_counts, []⟩
theorem c_passed_counts : (coB 60 ⟨["system", "proof", "n", "m", "sums", "matrices", "products"], defScope (tst 54), [F_sums_passed, F_power_of_two, F_products_passed, F_equations_passed], glbs, false, ["system", "proof", "n", "m", "sums", "matrices", "products"]⟩ (defBody (tst 54))).map (·.d) = some D_passed_counts := by kernel_rfl
theorem ok_passed_counts (m : Mods K mg glbs) (tx : Texts K mg) : OkAt P w K mg base 8 F_passed_counts := by
  obtain ⟨a, fd, T⟩ := tx _ (List.mem_of_getElem? (i := 33) rfl)
  exact add_def (k := 7) (f := F_passed_counts) (N := ["system", "proof", "n", "m", "sums", "matrices", "products"]) (own := ["system", "proof", "n", "m", "sums", "matrices", "products"]) m (AllOk.cons (AllOk.cons (AllOk.cons (AllOk.cons AllOk.nil ((ok_equations_passed m tx).mono (by decide))) ((ok_products_passed m tx).mono (by decide))) ((ok_power_of_two m tx).mono (by decide))) ((ok_sums_passed m tx).mono (by decide))) T ⟨rfl, rfl, rfl, by decide +kernel, rfl, by decide +kernel, by decide +kernel⟩ (fun _ _ _ _ _ _ us hl => match us, hl with | [_, _], _ => rfl) (cb_get c_passed_counts) (fun args Φ _ h => v_passed_counts args Φ h) (fun q hq => by cases hq)
def F_sum_table : FnS := ⟨"sum_table", ["s"], sp_sum_table, []⟩
theorem c_sum_table : (coB 60 ⟨["s", "found", "bit", "item"], defScope (tst 56), [], glbs, false, ["s", "found", "bit", "item"]⟩ (defBody (tst 56))).map (·.d) = some D_sum_table := by kernel_rfl
theorem ok_sum_table (m : Mods K mg glbs) (tx : Texts K mg) : OkAt P w K mg base 1 F_sum_table := by
  obtain ⟨a, fd, T⟩ := tx _ (List.mem_of_getElem? (i := 34) rfl)
  exact add_def (k := 0) (f := F_sum_table) (N := ["s", "found", "bit", "item"]) (own := ["s", "found", "bit", "item"]) m AllOk.nil T ⟨rfl, rfl, rfl, by decide +kernel, rfl, by decide +kernel, by decide +kernel⟩ (fun _ _ _ _ _ _ us hl => match us, hl with | [_], _ => rfl) (cb_get c_sum_table) (fun args Φ _ h => v_sum_table args Φ h) (fun q hq => by cases hq)
def F_unit_rows : FnS := ⟨"unit_rows", ["table"], sp_unit_rows, []⟩
theorem c_unit_rows : (coB 60 ⟨["table", "n", "i"], defScope (tst 57), [F_table_letters], glbs, false, ["table", "n", "i"]⟩ (defBody (tst 57))).map (·.d) = some D_unit_rows := by kernel_rfl
theorem ok_unit_rows (m : Mods K mg glbs) (tx : Texts K mg) : OkAt P w K mg base 2 F_unit_rows := by
  obtain ⟨a, fd, T⟩ := tx _ (List.mem_of_getElem? (i := 35) rfl)
  exact add_def (k := 1) (f := F_unit_rows) (N := ["table", "n", "i"]) (own := ["table", "n", "i"]) m (AllOk.cons AllOk.nil ((ok_table_letters m tx).mono (by decide))) T ⟨rfl, rfl, rfl, by decide +kernel, rfl, by decide +kernel, by decide +kernel⟩ (fun _ _ _ _ _ _ us hl => match us, hl with | [_], _ => rfl) (cb_get c_unit_rows) (fun args Φ _ h => v_unit_rows args Φ h) (fun q hq => by cases hq)
def F_sum_row : FnS := ⟨"sum_row", ["table"], sp_sum_row, []⟩
theorem c_sum_row : (coB 60 ⟨["table", "found"], defScope (tst 58), [F_unit_rows, F_sum_table], glbs, false, ["table", "found"]⟩ (defBody (tst 58))).map (·.d) = some D_sum_row := by kernel_rfl
theorem ok_sum_row (m : Mods K mg glbs) (tx : Texts K mg) : OkAt P w K mg base 3 F_sum_row := by
  obtain ⟨a, fd, T⟩ := tx _ (List.mem_of_getElem? (i := 36) rfl)
  exact add_def (k := 2) (f := F_sum_row) (N := ["table", "found"]) (own := ["table", "found"]) m (AllOk.cons (AllOk.cons AllOk.nil ((ok_sum_table m tx).mono (by decide))) ((ok_unit_rows m tx).mono (by decide))) T ⟨rfl, rfl, rfl, by decide +kernel, rfl, by decide +kernel, by decide +kernel⟩ (fun _ _ _ _ _ _ us hl => match us, hl with | [_], _ => rfl) (cb_get c_sum_row) (fun args Φ _ h => v_sum_row args Φ h) (fun q hq => by cases hq)
def F_proof_error : FnS := ⟨"proof_error", ["n", "value"], sp_proof_error, []⟩
theorem c_proof_error : (coB 60 ⟨["n", "value", "error"], defScope (tst 60), [F_table_error], glbs, false, ["n", "value", "error"]⟩ (defBody (tst 60))).map (·.d) = some D_proof_error := by kernel_rfl
theorem ok_proof_error (m : Mods K mg glbs) (tx : Texts K mg) : OkAt P w K mg base 3 F_proof_error := by
  obtain ⟨a, fd, T⟩ := tx _ (List.mem_of_getElem? (i := 37) rfl)
  exact add_def (k := 2) (f := F_proof_error) (N := ["n", "value", "error"]) (own := ["n", "value", "error"]) m (AllOk.cons AllOk.nil ((ok_table_error m tx).mono (by decide))) T ⟨rfl, rfl, rfl, by decide +kernel, rfl, by decide +kernel, by decide +kernel⟩ (fun _ _ _ _ _ _ us hl => match us, hl with | [_, _], _ => rfl) (cb_get c_proof_error) (fun args Φ _ h => v_proof_error args Φ h) (fun q hq => by cases hq)
def F_proof_of : FnS := ⟨"proof_of", ["n", "u"], sp_proof_of, []⟩
theorem c_proof_of : (coB 60 ⟨["n", "u"], defScope (tst 61), [F_sum_table, F_laid_product], glbs, false, ["n", "u"]⟩ (defBody (tst 61))).map (·.d) = some D_proof_of := by kernel_rfl
theorem ok_proof_of (m : Mods K mg glbs) (tx : Texts K mg) : OkAt P w K mg base 2 F_proof_of := by
  obtain ⟨a, fd, T⟩ := tx _ (List.mem_of_getElem? (i := 38) rfl)
  exact add_def (k := 1) (f := F_proof_of) (N := ["n", "u"]) (own := ["n", "u"]) m (AllOk.cons (AllOk.cons AllOk.nil ((ok_laid_product m tx).mono (by decide))) ((ok_sum_table m tx).mono (by decide))) T ⟨rfl, rfl, rfl, by decide +kernel, rfl, by decide +kernel, by decide +kernel⟩ (fun _ _ _ _ _ _ us hl => match us, hl with | [_, _], _ => rfl) (cb_get c_proof_of) (fun args Φ _ h => v_proof_of args Φ h) (fun q hq => by cases hq)
def F_proof_row : FnS := ⟨"proof_row", ["proof"], sp_proof_row, []⟩
theorem c_proof_row : (coB 60 ⟨["proof", "u"], defScope (tst 62), [F_sum_row, F_proof_of, F_table_letters], glbs, false, ["proof", "u"]⟩ (defBody (tst 62))).map (·.d) = some D_proof_row := by kernel_rfl
theorem ok_proof_row (m : Mods K mg glbs) (tx : Texts K mg) : OkAt P w K mg base 4 F_proof_row := by
  obtain ⟨a, fd, T⟩ := tx _ (List.mem_of_getElem? (i := 39) rfl)
  exact add_def (k := 3) (f := F_proof_row) (N := ["proof", "u"]) (own := ["proof", "u"]) m (AllOk.cons (AllOk.cons (AllOk.cons AllOk.nil ((ok_table_letters m tx).mono (by decide))) ((ok_proof_of m tx).mono (by decide))) ((ok_sum_row m tx).mono (by decide))) T ⟨rfl, rfl, rfl, by decide +kernel, rfl, by decide +kernel, by decide +kernel⟩ (fun _ _ _ _ _ _ us hl => match us, hl with | [_], _ => rfl) (cb_get c_proof_row) (fun args Φ _ h => v_proof_row args Φ h) (fun q hq => by cases hq)
def F_answers_list : FnS := ⟨"answers_list", ["system"], sp_answers_list, []⟩
theorem c_answers_list : (coB 60 ⟨["system", "u"], defScope (tst 64), [F_all_rows, F_values_row], glbs, false, ["system", "u"]⟩ (defBody (tst 64))).map (·.d) = some D_answers_list := by kernel_rfl
theorem ok_answers_list (m : Mods K mg glbs) (tx : Texts K mg) : OkAt P w K mg base 3 F_answers_list := by
  obtain ⟨a, fd, T⟩ := tx _ (List.mem_of_getElem? (i := 40) rfl)
  exact add_def (k := 2) (f := F_answers_list) (N := ["system", "u"]) (own := ["system", "u"]) m (AllOk.cons (AllOk.cons AllOk.nil ((ok_values_row m tx).mono (by decide))) ((ok_all_rows m tx).mono (by decide))) T ⟨rfl, rfl, rfl, by decide +kernel, rfl, by decide +kernel, by decide +kernel⟩ (fun _ _ _ _ _ _ us hl => match us, hl with | [_], _ => rfl) (cb_get c_answers_list) (fun args Φ _ h => v_answers_list args Φ h) (fun q hq => by cases hq)
def F_all_answers : FnS := ⟨"all_answers", ["system"], sp_all_answers, []⟩
theorem c_all_answers : (coB 60 ⟨["system", "found"], defScope (tst 65), [F_answers_list], glbs, false, ["system", "found"]⟩ (defBody (tst 65))).map (·.d) = some D_all_answers := by kernel_rfl
theorem ok_all_answers (m : Mods K mg glbs) (tx : Texts K mg) : OkAt P w K mg base 4 F_all_answers := by
  obtain ⟨a, fd, T⟩ := tx _ (List.mem_of_getElem? (i := 41) rfl)
  exact add_def (k := 3) (f := F_all_answers) (N := ["system", "found"]) (own := ["system", "found"]) m (AllOk.cons AllOk.nil ((ok_answers_list m tx).mono (by decide))) T ⟨rfl, rfl, rfl, by decide +kernel, rfl, by decide +kernel, by decide +kernel⟩ (fun _ _ _ _ _ _ us hl => match us, hl with | [_], _ => rfl) (cb_get c_all_answers) (fun args Φ _ h => v_all_answers args Φ h) (fun q hq => by cases hq)
def F_first_unlike : FnS := ⟨"first_unlike", ["one", "other"], sp_first_unlike_k82, []⟩
theorem c_first_unlike : (coB 60 ⟨["one", "other", "place", "item"], defScope (tst 67), [], glbs, false, ["one", "other", "place", "item"]⟩ (defBody (tst 67))).map (·.d) = some D_first_unlike_k82 := by kernel_rfl
theorem ok_first_unlike (m : Mods K mg glbs) (tx : Texts K mg) : OkAt P w K mg base 1 F_first_unlike := by
  obtain ⟨a, fd, T⟩ := tx _ (List.mem_of_getElem? (i := 42) rfl)
  exact add_def (k := 0) (f := F_first_unlike) (N := ["one", "other", "place", "item"]) (own := ["one", "other", "place", "item"]) m AllOk.nil T ⟨rfl, rfl, rfl, by decide +kernel, rfl, by decide +kernel, by decide +kernel⟩ (fun _ _ _ _ _ _ us hl => match us, hl with | [_, _], _ => rfl) (cb_get c_first_unlike) (fun args Φ _ h => v_first_unlike_k82 args Φ h) (fun q hq => by cases hq)
def F_proof_fault : FnS := ⟨"proof_fault", ["system", "value"], sp_proof_fault, []⟩
theorem c_proof_fault : (coB 60 ⟨["system", "value", "n", "equations", "f", "g", "u", "word", "table", "due", "place", "k", "equation"], defScope (tst 68), [F_unit_rows, F_proof_error, F_first_unlike, F_sum_table, F_equation_value, F_laid_product], glbs, false, ["system", "value", "n", "equations", "f", "g", "u", "word", "table", "due", "place", "k", "equation"]⟩ (defBody (tst 68))).map (·.d) = some D_proof_fault := by kernel_rfl
theorem ok_proof_fault (m : Mods K mg glbs) (tx : Texts K mg) : OkAt P w K mg base 4 F_proof_fault := by
  obtain ⟨a, fd, T⟩ := tx _ (List.mem_of_getElem? (i := 43) rfl)
  exact add_def (k := 3) (f := F_proof_fault) (N := ["system", "value", "n", "equations", "f", "g", "u", "word", "table", "due", "place", "k", "equation"]) (own := ["system", "value", "n", "equations", "f", "g", "u", "word", "table", "due", "place", "k", "equation"]) m (AllOk.cons (AllOk.cons (AllOk.cons (AllOk.cons (AllOk.cons (AllOk.cons AllOk.nil ((ok_laid_product m tx).mono (by decide))) ((ok_equation_value m tx).mono (by decide))) ((ok_sum_table m tx).mono (by decide))) ((ok_first_unlike m tx).mono (by decide))) ((ok_proof_error m tx).mono (by decide))) ((ok_unit_rows m tx).mono (by decide))) T ⟨rfl, rfl, rfl, by decide +kernel, rfl, by decide +kernel, by decide +kernel⟩ (fun _ _ _ _ _ _ us hl => match us, hl with | [_, _], _ => rfl) (cb_get c_proof_fault) (fun args Φ _ h => v_proof_fault args Φ h) (fun q hq => by cases hq)
def F_told_system : FnS := ⟨"told_system", ["n", "equations"], sp_told_system, []⟩
theorem c_told_system : (coB 60 ⟨["n", "equations"], defScope (tst 70), [], glbs, false, ["n", "equations"]⟩ (defBody (tst 70))).map (·.d) = some D_told_system := by kernel_rfl
theorem ok_told_system (m : Mods K mg glbs) (tx : Texts K mg) : OkAt P w K mg base 1 F_told_system := by
  obtain ⟨a, fd, T⟩ := tx _ (List.mem_of_getElem? (i := 44) rfl)
  exact add_def (k := 0) (f := F_told_system) (N := ["n", "equations"]) (own := ["n", "equations"]) m AllOk.nil T ⟨rfl, rfl, rfl, by decide +kernel, rfl, by decide +kernel, by decide +kernel⟩ (fun _ _ _ _ _ _ us hl => match us, hl with | [_, _], _ => rfl) (cb_get c_told_system) (fun args Φ _ h => v_told_system args Φ h) (fun q hq => by cases hq)
def F_beside_systems : FnS := ⟨"beside_systems", ["one", "other"], sp_beside_systems, [(["other", "one"], [1, 0])]⟩
theorem kw_beside_systems : ∀ q ∈ F_beside_systems.kws, q = ((["other", "one"] : List Str), ([1, 0] : List Nat)) := by
  intro q hq
  simpa [F_beside_systems] using hq
theorem c_beside_systems : (coB 60 ⟨["one", "other", "n", "found", "constant", "singles", "pairs", "moved", "i", "j"], defScope (tst 71), [F_told_system], glbs, false, ["one", "other", "n", "found", "constant", "singles", "pairs", "moved", "i", "j"]⟩ (defBody (tst 71))).map (·.d) = some D_beside_systems := by kernel_rfl
theorem ok_beside_systems (m : Mods K mg glbs) (tx : Texts K mg) : OkAt P w K mg base 2 F_beside_systems := by
  obtain ⟨a, fd, T⟩ := tx _ (List.mem_of_getElem? (i := 45) rfl)
  exact add_def (k := 1) (f := F_beside_systems) (N := ["one", "other", "n", "found", "constant", "singles", "pairs", "moved", "i", "j"]) (own := ["one", "other", "n", "found", "constant", "singles", "pairs", "moved", "i", "j"]) m (AllOk.cons AllOk.nil ((ok_told_system m tx).mono (by decide))) T ⟨rfl, rfl, rfl, by decide +kernel, rfl, by decide +kernel, by decide +kernel⟩ (fun _ _ _ _ _ _ us hl => match us, hl with | [_, _], _ => rfl) (cb_get c_beside_systems) (fun args Φ _ h => v_beside_systems args Φ h) (fun q hq => by
    rcases kw_beside_systems q hq with rfl
    all_goals exact fun _ _ _ _ _ _ ws hl => match ws, hl with | [_, _], _ => rfl)
def F_joined_equations : FnS := ⟨"joined_equations", ["one", "other"], sp_joined_equations, []⟩
theorem c_joined_equations : (coB 60 ⟨["one", "other"], defScope (tst 72), [F_told_system], glbs, false, ["one", "other"]⟩ (defBody (tst 72))).map (·.d) = some D_joined_equations := by kernel_rfl
theorem ok_joined_equations (m : Mods K mg glbs) (tx : Texts K mg) : OkAt P w K mg base 2 F_joined_equations := by
  obtain ⟨a, fd, T⟩ := tx _ (List.mem_of_getElem? (i := 46) rfl)
  exact add_def (k := 1) (f := F_joined_equations) (N := ["one", "other"]) (own := ["one", "other"]) m (AllOk.cons AllOk.nil ((ok_told_system m tx).mono (by decide))) T ⟨rfl, rfl, rfl, by decide +kernel, rfl, by decide +kernel, by decide +kernel⟩ (fun _ _ _ _ _ _ us hl => match us, hl with | [_, _], _ => rfl) (cb_get c_joined_equations) (fun args Φ _ h => v_joined_equations args Φ h) (fun q hq => by cases hq)
def F_law_draw : FnS := ⟨"_law_draw", ["pot", "many"], sp_law_draw, []⟩
theorem ok_law_draw (m : Mods K mg glbs) (tx : Texts K mg) : OkAt P w K mg base 1 F_law_draw := by
  obtain ⟨a, fd, T⟩ := tx _ (List.mem_of_getElem? (i := 48) rfl)
  exact draw_ok (q0 := ⟨250, 4, 250, 9⟩) (q1 := ⟨250, 12, 250, 15⟩) (q2 := ⟨250, 16, 250, 23⟩) (q3 := ⟨250, 12, 250, 24⟩) (q4 := ⟨250, 4, 250, 24⟩) (q5 := ⟨251, 7, 251, 12⟩) (q6 := ⟨251, 16, 251, 18⟩) (q7 := ⟨251, 7, 251, 18⟩) (q8 := ⟨252, 8, 252, 12⟩) (q9 := ⟨252, 15, 252, 20⟩) (q10 := ⟨252, 15, 252, 24⟩) (q11 := ⟨252, 15, 252, 26⟩) (q12 := ⟨252, 8, 252, 26⟩) (q13 := ⟨253, 11, 253, 15⟩) (q14 := ⟨253, 19, 253, 23⟩) (q15 := ⟨253, 11, 253, 23⟩) (q16 := ⟨254, 12, 254, 17⟩) (q17 := ⟨254, 12, 254, 24⟩) (q18 := ⟨254, 25, 254, 29⟩) (q19 := ⟨254, 33, 254, 37⟩) (q20 := ⟨254, 25, 254, 37⟩) (q21 := ⟨254, 12, 254, 38⟩) (q22 := ⟨254, 12, 254, 38⟩) (q23 := ⟨253, 8, 254, 38⟩) (q24 := ⟨255, 15, 255, 18⟩) (q25 := ⟨255, 19, 255, 23⟩) (q26 := ⟨255, 15, 255, 24⟩) (q27 := ⟨255, 27, 255, 31⟩) (q28 := ⟨255, 15, 255, 31⟩) (q29 := ⟨255, 8, 255, 31⟩) (q30 := ⟨251, 4, 255, 31⟩) (q31 := ⟨256, 4, 256, 7⟩) (q32 := ⟨256, 8, 256, 14⟩) (q33 := ⟨256, 4, 256, 15⟩) (q34 := ⟨256, 18, 256, 21⟩) (q35 := ⟨256, 22, 256, 28⟩) (q36 := ⟨256, 18, 256, 29⟩) (q37 := ⟨256, 32, 256, 33⟩) (q38 := ⟨256, 18, 256, 33⟩) (q39 := ⟨256, 4, 256, 33⟩) (q40 := ⟨257, 4, 257, 7⟩) (q41 := ⟨257, 10, 257, 13⟩) (q42 := ⟨257, 14, 257, 17⟩) (q43 := ⟨257, 18, 257, 24⟩) (q44 := ⟨257, 14, 257, 25⟩) (q45 := ⟨257, 28, 257, 33⟩) (q46 := ⟨257, 14, 257, 33⟩) (q47 := ⟨257, 36, 257, 39⟩) (q48 := ⟨257, 40, 257, 46⟩) (q49 := ⟨257, 36, 257, 47⟩) (q50 := ⟨257, 50, 257, 55⟩) (q51 := ⟨257, 36, 257, 55⟩) (q52 := ⟨257, 14, 257, 55⟩) (q53 := ⟨257, 58, 257, 60⟩) (q54 := ⟨257, 14, 257, 60⟩) (q55 := ⟨257, 10, 257, 61⟩) (q56 := ⟨257, 64, 257, 74⟩) (q57 := ⟨257, 10, 257, 74⟩) (q58 := ⟨257, 4, 257, 74⟩) (q59 := ⟨258, 4, 258, 7⟩) (q60 := ⟨258, 10, 258, 13⟩) (q61 := ⟨258, 14, 258, 17⟩) (q62 := ⟨258, 20, 258, 23⟩) (q63 := ⟨258, 14, 258, 23⟩) (q64 := ⟨258, 26, 258, 29⟩) (q65 := ⟨258, 30, 258, 36⟩) (q66 := ⟨258, 26, 258, 37⟩) (q67 := ⟨258, 40, 258, 41⟩) (q68 := ⟨258, 26, 258, 41⟩) (q69 := ⟨258, 14, 258, 41⟩) (q70 := ⟨258, 10, 258, 42⟩) (q71 := ⟨258, 45, 258, 55⟩) (q72 := ⟨258, 10, 258, 55⟩) (q73 := ⟨258, 4, 258, 55⟩) (q74 := ⟨259, 4, 259, 7⟩) (q75 := ⟨259, 8, 259, 14⟩) (q76 := ⟨259, 4, 259, 15⟩) (q77 := ⟨259, 18, 259, 21⟩) (q78 := ⟨259, 22, 259, 25⟩) (q79 := ⟨259, 26, 259, 32⟩) (q80 := ⟨259, 22, 259, 33⟩) (q81 := ⟨259, 36, 259, 41⟩) (q82 := ⟨259, 22, 259, 41⟩) (q83 := ⟨259, 44, 259, 47⟩) (q84 := ⟨259, 22, 259, 47⟩) (q85 := ⟨259, 18, 259, 48⟩) (q86 := ⟨259, 51, 259, 61⟩) (q87 := ⟨259, 18, 259, 61⟩) (q88 := ⟨259, 4, 259, 61⟩) (q89 := ⟨260, 11, 260, 14⟩) (q90 := ⟨260, 15, 260, 18⟩) (q91 := ⟨260, 22, 260, 24⟩) (q92 := ⟨260, 15, 260, 24⟩) (q93 := ⟨260, 11, 260, 25⟩) (q94 := ⟨260, 28, 260, 32⟩) (q95 := ⟨260, 11, 260, 32⟩) (q96 := ⟨260, 4, 260, 32⟩) m T (by kernel_rfl) (by kernel_rfl) (fun _ _ _ _ _ _ us hl => match us, hl with | [_, _], _ => rfl) rfl rfl
def F_law_pick : FnS := ⟨"_law_pick", ["pot", "some"], sp_law_pick, []⟩
theorem c_law_pick : (coB 60 ⟨["pot", "some"], defScope (tst 76), [F_law_draw], glbs, false, ["pot", "some"]⟩ (defBody (tst 76))).map (·.d) = some D_law_pick := by kernel_rfl
theorem ok_law_pick (m : Mods K mg glbs) (tx : Texts K mg) : OkAt P w K mg base 2 F_law_pick := by
  obtain ⟨a, fd, T⟩ := tx _ (List.mem_of_getElem? (i := 49) rfl)
  exact add_def (k := 1) (f := F_law_pick) (N := ["pot", "some"]) (own := ["pot", "some"]) m (AllOk.cons AllOk.nil ((ok_law_draw m tx).mono (by decide))) T ⟨rfl, rfl, rfl, by decide +kernel, rfl, by decide +kernel, by decide +kernel⟩ (fun _ _ _ _ _ _ us hl => match us, hl with | [_, _], _ => rfl) (cb_get c_law_pick) (fun args Φ _ h => v_law_pick args Φ h) (fun q hq => by cases hq)
def F_law_mixed : FnS := ⟨"_law_mixed", ["pot", "items"], sp_law_mixed, []⟩
theorem c_law_mixed : (coB 60 ⟨["pot", "items", "left", "found"], defScope (tst 77), [F_law_draw], glbs, false, ["pot", "items", "left", "found"]⟩ (defBody (tst 77))).map (·.d) = some D_law_mixed := by kernel_rfl
theorem ok_law_mixed (m : Mods K mg glbs) (tx : Texts K mg) : OkAt P w K mg base 2 F_law_mixed := by
  obtain ⟨a, fd, T⟩ := tx _ (List.mem_of_getElem? (i := 50) rfl)
  exact add_def (k := 1) (f := F_law_mixed) (N := ["pot", "items", "left", "found"]) (own := ["pot", "items", "left", "found"]) m (AllOk.cons AllOk.nil ((ok_law_draw m tx).mono (by decide))) T ⟨rfl, rfl, rfl, by decide +kernel, rfl, by decide +kernel, by decide +kernel⟩ (fun _ _ _ _ _ _ us hl => match us, hl with | [_, _], _ => rfl) (cb_get c_law_mixed) (fun args Φ _ h => v_law_mixed args Φ h) (fun q hq => by cases hq)
def F_law_rows : FnS := ⟨"_law_rows", ["n"], sp_law_rows, []⟩
theorem c_law_rows : (coB 60 ⟨["n", "found", "turn", "longer", "own"], defScope (tst 78), [], glbs, false, ["n", "found", "turn", "longer", "own"]⟩ (defBody (tst 78))).map (·.d) = some D_law_rows := by kernel_rfl
theorem ok_law_rows (m : Mods K mg glbs) (tx : Texts K mg) : OkAt P w K mg base 1 F_law_rows := by
  obtain ⟨a, fd, T⟩ := tx _ (List.mem_of_getElem? (i := 51) rfl)
  exact add_def (k := 0) (f := F_law_rows) (N := ["n", "found", "turn", "longer", "own"]) (own := ["n", "found", "turn", "longer", "own"]) m AllOk.nil T ⟨rfl, rfl, rfl, by decide +kernel, rfl, by decide +kernel, by decide +kernel⟩ (fun _ _ _ _ _ _ us hl => match us, hl with | [_], _ => rfl) (cb_get c_law_rows) (fun args Φ _ h => v_law_rows args Φ h) (fun q hq => by cases hq)
def F_law_place : FnS := ⟨"_law_place", ["row"], sp_row_place, []⟩
theorem c_law_place : (coB 60 ⟨["row", "found", "bit"], defScope (tst 79), [], glbs, false, ["row", "found", "bit"]⟩ (defBody (tst 79))).map (·.d) = some D_row_place := by kernel_rfl
theorem ok_law_place (m : Mods K mg glbs) (tx : Texts K mg) : OkAt P w K mg base 1 F_law_place := by
  obtain ⟨a, fd, T⟩ := tx _ (List.mem_of_getElem? (i := 52) rfl)
  exact add_def (k := 0) (f := F_law_place) (N := ["row", "found", "bit"]) (own := ["row", "found", "bit"]) m AllOk.nil T ⟨rfl, rfl, rfl, by decide +kernel, rfl, by decide +kernel, by decide +kernel⟩ (fun _ _ _ _ _ _ us hl => match us, hl with | [_], _ => rfl) (cb_get c_law_place) (fun args Φ _ h => v_row_place args Φ h) (fun q hq => by cases hq)
def F_law_product : FnS := ⟨"_law_product", ["one", "other"], sp_law_product, []⟩
theorem c_law_product : (coB 60 ⟨["one", "other", "a", "b"], defScope (tst 80), [], glbs, false, ["one", "other", "a", "b"]⟩ (defBody (tst 80))).map (·.d) = some D_law_product := by kernel_rfl
theorem ok_law_product (m : Mods K mg glbs) (tx : Texts K mg) : OkAt P w K mg base 1 F_law_product := by
  obtain ⟨a, fd, T⟩ := tx _ (List.mem_of_getElem? (i := 53) rfl)
  exact add_def (k := 0) (f := F_law_product) (N := ["one", "other", "a", "b"]) (own := ["one", "other", "a", "b"]) m AllOk.nil T ⟨rfl, rfl, rfl, by decide +kernel, rfl, by decide +kernel, by decide +kernel⟩ (fun _ _ _ _ _ _ us hl => match us, hl with | [_, _], _ => rfl) (cb_get c_law_product) (fun args Φ _ h => v_law_product args Φ h) (fun q hq => by cases hq)
def F_law_outer : FnS := ⟨"_law_outer", ["a", "b"], sp_law_outer, []⟩
theorem c_law_outer : (coB 60 ⟨["a", "b", "found", "bit", "own"], defScope (tst 81), [], glbs, false, ["a", "b", "found", "bit", "own"]⟩ (defBody (tst 81))).map (·.d) = some D_law_outer := by kernel_rfl
theorem ok_law_outer (m : Mods K mg glbs) (tx : Texts K mg) : OkAt P w K mg base 1 F_law_outer := by
  obtain ⟨a, fd, T⟩ := tx _ (List.mem_of_getElem? (i := 54) rfl)
  exact add_def (k := 0) (f := F_law_outer) (N := ["a", "b", "found", "bit", "own"]) (own := ["a", "b", "found", "bit", "own"]) m AllOk.nil T ⟨rfl, rfl, rfl, by decide +kernel, rfl, by decide +kernel, by decide +kernel⟩ (fun _ _ _ _ _ _ us hl => match us, hl with | [_, _], _ => rfl) (cb_get c_law_outer) (fun args Φ _ h => v_law_outer args Φ h) (fun q hq => by cases hq)
def F_law_value : FnS := ⟨"_law_value", ["equation", "u"], sp_law_value, []⟩
theorem c_law_value : (coB 60 ⟨["equation", "u", "constant", "singles", "pairs", "i", "j"], defScope (tst 82), [], glbs, false, ["equation", "u", "constant", "singles", "pairs", "i", "j"]⟩ (defBody (tst 82))).map (·.d) = some D_law_value := by kernel_rfl
theorem ok_law_value (m : Mods K mg glbs) (tx : Texts K mg) : OkAt P w K mg base 1 F_law_value := by
  obtain ⟨a, fd, T⟩ := tx _ (List.mem_of_getElem? (i := 55) rfl)
  exact add_def (k := 0) (f := F_law_value) (N := ["equation", "u", "constant", "singles", "pairs", "i", "j"]) (own := ["equation", "u", "constant", "singles", "pairs", "i", "j"]) m AllOk.nil T ⟨rfl, rfl, rfl, by decide +kernel, rfl, by decide +kernel, by decide +kernel⟩ (fun _ _ _ _ _ _ us hl => match us, hl with | [_, _], _ => rfl) (cb_get c_law_value) (fun args Φ _ h => v_law_value args Φ h) (fun q hq => by cases hq)
def F_law_system : FnS := ⟨"_law_system", ["pot", "n", "m"], sp_law_system, []⟩
theorem c_law_system : (coB 60 ⟨["pot", "n", "m", "u", "found", "is_answered", "k", "singles", "pairs", "i", "equation", "constant", "j"], defScope (tst 83), [F_law_draw, F_law_value], glbs, false, ["pot", "n", "m", "u", "found", "is_answered", "k", "singles", "pairs", "i", "equation", "constant", "j"]⟩ (defBody (tst 83))).map (·.d) = some D_law_system := by kernel_rfl
theorem ok_law_system (m : Mods K mg glbs) (tx : Texts K mg) : OkAt P w K mg base 2 F_law_system := by
  obtain ⟨a, fd, T⟩ := tx _ (List.mem_of_getElem? (i := 56) rfl)
  exact add_def (k := 1) (f := F_law_system) (N := ["pot", "n", "m", "u", "found", "is_answered", "k", "singles", "pairs", "i", "equation", "constant", "j"]) (own := ["pot", "n", "m", "u", "found", "is_answered", "k", "singles", "pairs", "i", "equation", "constant", "j"]) m (AllOk.cons (AllOk.cons AllOk.nil ((ok_law_value m tx).mono (by decide))) ((ok_law_draw m tx).mono (by decide))) T ⟨rfl, rfl, rfl, by decide +kernel, rfl, by decide +kernel, by decide +kernel⟩ (fun _ _ _ _ _ _ us hl => match us, hl with | [_, _, _], _ => rfl) (cb_get c_law_system) (fun args Φ _ h => v_law_system args Φ h) (fun q hq => by cases hq)
def F_law_answers : FnS := ⟨"_law_answers", ["system"], sp_law_answers, []⟩
theorem c_law_answers : (coB 60 ⟨["system", "u", "own"], defScope (tst 84), [F_law_rows, F_law_value], glbs, false, ["system", "u", "own"]⟩ (defBody (tst 84))).map (·.d) = some D_law_answers := by kernel_rfl
theorem ok_law_answers (m : Mods K mg glbs) (tx : Texts K mg) : OkAt P w K mg base 2 F_law_answers := by
  obtain ⟨a, fd, T⟩ := tx _ (List.mem_of_getElem? (i := 57) rfl)
  exact add_def (k := 1) (f := F_law_answers) (N := ["system", "u", "own"]) (own := ["system", "u", "own"]) m (AllOk.cons (AllOk.cons AllOk.nil ((ok_law_value m tx).mono (by decide))) ((ok_law_rows m tx).mono (by decide))) T ⟨rfl, rfl, rfl, by decide +kernel, rfl, by decide +kernel, by decide +kernel⟩ (fun _ _ _ _ _ _ us hl => match us, hl with | [_], _ => rfl) (cb_get c_law_answers) (fun args Φ _ h => v_law_answers args Φ h) (fun q hq => by cases hq)
def F_law_sum : FnS := ⟨"_law_sum", ["system", "r"], sp_law_sum, []⟩
theorem c_law_sum : (coB 60 ⟨["system", "r", "n", "c", "s", "laid", "bit", "constant", "singles", "pairs", "i", "j"], defScope (tst 85), [], glbs, false, ["system", "r", "n", "c", "s", "laid", "bit", "constant", "singles", "pairs", "i", "j"]⟩ (defBody (tst 85))).map (·.d) = some D_law_sum := by kernel_rfl
theorem ok_law_sum (m : Mods K mg glbs) (tx : Texts K mg) : OkAt P w K mg base 1 F_law_sum := by
  obtain ⟨a, fd, T⟩ := tx _ (List.mem_of_getElem? (i := 58) rfl)
  exact add_def (k := 0) (f := F_law_sum) (N := ["system", "r", "n", "c", "s", "laid", "bit", "constant", "singles", "pairs", "i", "j"]) (own := ["system", "r", "n", "c", "s", "laid", "bit", "constant", "singles", "pairs", "i", "j"]) m AllOk.nil T ⟨rfl, rfl, rfl, by decide +kernel, rfl, by decide +kernel, by decide +kernel⟩ (fun _ _ _ _ _ _ us hl => match us, hl with | [_, _], _ => rfl) (cb_get c_law_sum) (fun args Φ _ h => v_law_sum args Φ h) (fun q hq => by cases hq)
def F_law_sum_table : FnS := ⟨"_law_sum_table", ["s"], sp_law_sum_table, []⟩
theorem c_law_sum_table : (coB 60 ⟨["s", "x"], defScope (tst 86), [F_law_product, F_law_rows], glbs, false, ["s", "x"]⟩ (defBody (tst 86))).map (·.d) = some D_law_sum_table := by kernel_rfl
theorem ok_law_sum_table (m : Mods K mg glbs) (tx : Texts K mg) : OkAt P w K mg base 2 F_law_sum_table := by
  obtain ⟨a, fd, T⟩ := tx _ (List.mem_of_getElem? (i := 59) rfl)
  exact add_def (k := 1) (f := F_law_sum_table) (N := ["s", "x"]) (own := ["s", "x"]) m (AllOk.cons (AllOk.cons AllOk.nil ((ok_law_rows m tx).mono (by decide))) ((ok_law_product m tx).mono (by decide))) T ⟨rfl, rfl, rfl, by decide +kernel, rfl, by decide +kernel, by decide +kernel⟩ (fun _ _ _ _ _ _ us hl => match us, hl with | [_], _ => rfl) (cb_get c_law_sum_table) (fun args Φ _ h => v_law_sum_table args Φ h) (fun q hq => by cases hq)
def F_law_proof : FnS := ⟨"_law_proof", ["u"], sp_law_proof, []⟩
theorem c_law_proof : (coB 60 ⟨["u"], defScope (tst 87), [F_law_sum_table, F_law_outer], glbs, false, ["u"]⟩ (defBody (tst 87))).map (·.d) = some D_law_proof := by kernel_rfl
theorem ok_law_proof (m : Mods K mg glbs) (tx : Texts K mg) : OkAt P w K mg base 3 F_law_proof := by
  obtain ⟨a, fd, T⟩ := tx _ (List.mem_of_getElem? (i := 60) rfl)
  exact add_def (k := 2) (f := F_law_proof) (N := ["u"]) (own := ["u"]) m (AllOk.cons (AllOk.cons AllOk.nil ((ok_law_outer m tx).mono (by decide))) ((ok_law_sum_table m tx).mono (by decide))) T ⟨rfl, rfl, rfl, by decide +kernel, rfl, by decide +kernel, by decide +kernel⟩ (fun _ _ _ _ _ _ us hl => match us, hl with | [_], _ => rfl) (cb_get c_law_proof) (fun args Φ _ h => v_law_proof args Φ h) (fun q hq => by cases hq)
def F_law_spoilt : FnS := ⟨"_law_spoilt", ["proof", "places"], sp_law_spoilt, []⟩
theorem c_law_spoilt : (coB 60 ⟨["proof", "places", "bits", "size", "place"], defScope (tst 88), [], glbs, false, ["proof", "places", "bits", "size", "place"]⟩ (defBody (tst 88))).map (·.d) = some D_law_spoilt := by kernel_rfl
theorem ok_law_spoilt (m : Mods K mg glbs) (tx : Texts K mg) : OkAt P w K mg base 1 F_law_spoilt := by
  obtain ⟨a, fd, T⟩ := tx _ (List.mem_of_getElem? (i := 61) rfl)
  exact add_def (k := 0) (f := F_law_spoilt) (N := ["proof", "places", "bits", "size", "place"]) (own := ["proof", "places", "bits", "size", "place"]) m AllOk.nil T ⟨rfl, rfl, rfl, by decide +kernel, rfl, by decide +kernel, by decide +kernel⟩ (fun _ _ _ _ _ _ us hl => match us, hl with | [_, _], _ => rfl) (cb_get c_law_spoilt) (fun args Φ _ h => v_law_spoilt args Φ h) (fun q hq => by cases hq)
def F_law_shift : FnS := ⟨"_law_shift", ["table", "d"], sp_law_shift, []⟩
theorem c_law_shift : (coB 60 ⟨["table", "d", "k", "bit"], defScope (tst 89), [], glbs, false, ["table", "d", "k", "bit"]⟩ (defBody (tst 89))).map (·.d) = some D_law_shift := by kernel_rfl
theorem ok_law_shift (m : Mods K mg glbs) (tx : Texts K mg) : OkAt P w K mg base 1 F_law_shift := by
  obtain ⟨a, fd, T⟩ := tx _ (List.mem_of_getElem? (i := 62) rfl)
  exact add_def (k := 0) (f := F_law_shift) (N := ["table", "d", "k", "bit"]) (own := ["table", "d", "k", "bit"]) m AllOk.nil T ⟨rfl, rfl, rfl, by decide +kernel, rfl, by decide +kernel, by decide +kernel⟩ (fun _ _ _ _ _ _ us hl => match us, hl with | [_, _], _ => rfl) (cb_get c_law_shift) (fun args Φ _ h => v_law_shift args Φ h) (fun q hq => by cases hq)
def F_law_sums_passed : FnS := ⟨"_law_sums_passed", ["table"], sp_law_sums_passed, []⟩
theorem c_law_sums_passed : (coB 60 ⟨["table", "found", "size", "x", "bit"], defScope (tst 90), [F_law_shift], glbs, false, ["table", "found", "size", "x", "bit"]⟩ (defBody (tst 90))).map (·.d) = some D_law_sums_passed := by kernel_rfl
theorem ok_law_sums_passed (m : Mods K mg glbs) (tx : Texts K mg) : OkAt P w K mg base 2 F_law_sums_passed := by
  obtain ⟨a, fd, T⟩ := tx _ (List.mem_of_getElem? (i := 63) rfl)
  exact add_def (k := 1) (f := F_law_sums_passed) (N := ["table", "found", "size", "x", "bit"]) (own := ["table", "found", "size", "x", "bit"]) m (AllOk.cons AllOk.nil ((ok_law_shift m tx).mono (by decide))) T ⟨rfl, rfl, rfl, by decide +kernel, rfl, by decide +kernel, by decide +kernel⟩ (fun _ _ _ _ _ _ us hl => match us, hl with | [_], _ => rfl) (cb_get c_law_sums_passed) (fun args Φ _ h => v_law_sums_passed args Φ h) (fun q hq => by cases hq)
def F_law_products_passed : FnS := ⟨"_law_products_passed", ["n", "proof"], sp_law_products_passed, []⟩
theorem c_law_products_passed : (coB 60 ⟨["n", "proof", "f", "g", "found", "i", "a", "j", "b", "sign"], defScope (tst 91), [F_law_rows, F_law_shift, F_law_place, F_law_outer], glbs, false, ["n", "proof", "f", "g", "found", "i", "a", "j", "b", "sign"]⟩ (defBody (tst 91))).map (·.d) = some D_law_products_passed := by kernel_rfl
theorem ok_law_products_passed (m : Mods K mg glbs) (tx : Texts K mg) : OkAt P w K mg base 2 F_law_products_passed := by
  obtain ⟨a, fd, T⟩ := tx _ (List.mem_of_getElem? (i := 64) rfl)
  exact add_def (k := 1) (f := F_law_products_passed) (N := ["n", "proof", "f", "g", "found", "i", "a", "j", "b", "sign"]) (own := ["n", "proof", "f", "g", "found", "i", "a", "j", "b", "sign"]) m (AllOk.cons (AllOk.cons (AllOk.cons (AllOk.cons AllOk.nil ((ok_law_outer m tx).mono (by decide))) ((ok_law_place m tx).mono (by decide))) ((ok_law_shift m tx).mono (by decide))) ((ok_law_rows m tx).mono (by decide))) T ⟨rfl, rfl, rfl, by decide +kernel, rfl, by decide +kernel, by decide +kernel⟩ (fun _ _ _ _ _ _ us hl => match us, hl with | [_, _], _ => rfl) (cb_get c_law_products_passed) (fun args Φ _ h => v_law_products_passed args Φ h) (fun q hq => by cases hq)
def F_law_row_passed : FnS := ⟨"_law_row_passed", ["system", "proof", "r"], sp_law_row_passed, []⟩
theorem c_law_row_passed : (coB 60 ⟨["system", "proof", "r", "f", "g", "c", "s", "laid", "both"], defScope (tst 92), [F_law_sum, F_law_shift, F_law_place], glbs, false, ["system", "proof", "r", "f", "g", "c", "s", "laid", "both"]⟩ (defBody (tst 92))).map (·.d) = some D_law_row_passed := by kernel_rfl
theorem ok_law_row_passed (m : Mods K mg glbs) (tx : Texts K mg) : OkAt P w K mg base 2 F_law_row_passed := by
  obtain ⟨a, fd, T⟩ := tx _ (List.mem_of_getElem? (i := 65) rfl)
  exact add_def (k := 1) (f := F_law_row_passed) (N := ["system", "proof", "r", "f", "g", "c", "s", "laid", "both"]) (own := ["system", "proof", "r", "f", "g", "c", "s", "laid", "both"]) m (AllOk.cons (AllOk.cons (AllOk.cons AllOk.nil ((ok_law_place m tx).mono (by decide))) ((ok_law_shift m tx).mono (by decide))) ((ok_law_sum m tx).mono (by decide))) T ⟨rfl, rfl, rfl, by decide +kernel, rfl, by decide +kernel, by decide +kernel⟩ (fun _ _ _ _ _ _ us hl => match us, hl with | [_, _, _], _ => rfl) (cb_get c_law_row_passed) (fun args Φ _ h => v_law_row_passed args Φ h) (fun q hq => by cases hq)
def F_law_equations_passed : FnS := ⟨"_law_equations_passed", ["system", "proof"], sp_law_equations_passed, []⟩
theorem c_law_equations_passed : (coB 60 ⟨["system", "proof", "r"], defScope (tst 93), [F_law_row_passed, F_law_rows], glbs, false, ["system", "proof", "r"]⟩ (defBody (tst 93))).map (·.d) = some D_law_equations_passed := by kernel_rfl
theorem ok_law_equations_passed (m : Mods K mg glbs) (tx : Texts K mg) : OkAt P w K mg base 3 F_law_equations_passed := by
  obtain ⟨a, fd, T⟩ := tx _ (List.mem_of_getElem? (i := 66) rfl)
  exact add_def (k := 2) (f := F_law_equations_passed) (N := ["system", "proof", "r"]) (own := ["system", "proof", "r"]) m (AllOk.cons (AllOk.cons AllOk.nil ((ok_law_rows m tx).mono (by decide))) ((ok_law_row_passed m tx).mono (by decide))) T ⟨rfl, rfl, rfl, by decide +kernel, rfl, by decide +kernel, by decide +kernel⟩ (fun _ _ _ _ _ _ us hl => match us, hl with | [_, _], _ => rfl) (cb_get c_law_equations_passed) (fun args Φ _ h => v_law_equations_passed args Φ h) (fun q hq => by cases hq)
def F_law_counts : FnS := ⟨"_law_counts", ["system", "proof"], sp_law_counts, []⟩
theorem c_law_counts : (coB 60 ⟨["system", "proof", "n", "m", "first", "second", "third"], defScope (tst 94), [F_law_sums_passed, F_law_products_passed, F_law_equations_passed], glbs, false, ["system", "proof", "n", "m", "first", "second", "third"]⟩ (defBody (tst 94))).map (·.d) = some D_law_counts := by kernel_rfl
theorem ok_law_counts (m : Mods K mg glbs) (tx : Texts K mg) : OkAt P w K mg base 4 F_law_counts := by
  obtain ⟨a, fd, T⟩ := tx _ (List.mem_of_getElem? (i := 67) rfl)
  exact add_def (k := 3) (f := F_law_counts) (N := ["system", "proof", "n", "m", "first", "second", "third"]) (own := ["system", "proof", "n", "m", "first", "second", "third"]) m (AllOk.cons (AllOk.cons (AllOk.cons AllOk.nil ((ok_law_equations_passed m tx).mono (by decide))) ((ok_law_products_passed m tx).mono (by decide))) ((ok_law_sums_passed m tx).mono (by decide))) T ⟨rfl, rfl, rfl, by decide +kernel, rfl, by decide +kernel, by decide +kernel⟩ (fun _ _ _ _ _ _ us hl => match us, hl with | [_, _], _ => rfl) (cb_get c_law_counts) (fun args Φ _ h => v_law_counts args Φ h) (fun q hq => by cases hq)
def F_law_places : FnS := ⟨"_law_places", ["pot", "size", "many"], sp_law_places, []⟩
theorem c_law_places : (coB 60 ⟨["pot", "size", "many"], defScope (tst 95), [F_law_mixed], glbs, false, ["pot", "size", "many"]⟩ (defBody (tst 95))).map (·.d) = some D_law_places := by kernel_rfl
theorem ok_law_places (m : Mods K mg glbs) (tx : Texts K mg) : OkAt P w K mg base 3 F_law_places := by
  obtain ⟨a, fd, T⟩ := tx _ (List.mem_of_getElem? (i := 68) rfl)
  exact add_def (k := 2) (f := F_law_places) (N := ["pot", "size", "many"]) (own := ["pot", "size", "many"]) m (AllOk.cons AllOk.nil ((ok_law_mixed m tx).mono (by decide))) T ⟨rfl, rfl, rfl, by decide +kernel, rfl, by decide +kernel, by decide +kernel⟩ (fun _ _ _ _ _ _ us hl => match us, hl with | [_, _, _], _ => rfl) (cb_get c_law_places) (fun args Φ _ h => v_law_places args Φ h) (fun q hq => by cases hq)
def F_law_beside : FnS := ⟨"_law_beside", ["n", "one", "m", "other"], sp_law_beside, []⟩
theorem c_law_beside : (coB 60 ⟨["n", "one", "m", "other", "k", "f", "g", "p", "q", "first", "second", "row", "laid", "rows", "here", "there", "i", "bit", "mixed", "j"], defScope (tst 96), [F_law_rows, F_law_place], glbs, false, ["n", "one", "m", "other", "k", "f", "g", "p", "q", "first", "second", "row", "laid", "rows", "here", "there", "i", "bit", "mixed", "j"]⟩ (defBody (tst 96))).map (·.d) = some D_law_beside := by kernel_rfl
theorem ok_law_beside (m : Mods K mg glbs) (tx : Texts K mg) : OkAt P w K mg base 2 F_law_beside := by
  obtain ⟨a, fd, T⟩ := tx _ (List.mem_of_getElem? (i := 69) rfl)
  exact add_def (k := 1) (f := F_law_beside) (N := ["n", "one", "m", "other", "k", "f", "g", "p", "q", "first", "second", "row", "laid", "rows", "here", "there", "i", "bit", "mixed", "j"]) (own := ["n", "one", "m", "other", "k", "f", "g", "p", "q", "first", "second", "row", "laid", "rows", "here", "there", "i", "bit", "mixed", "j"]) m (AllOk.cons (AllOk.cons AllOk.nil ((ok_law_place m tx).mono (by decide))) ((ok_law_rows m tx).mono (by decide))) T ⟨rfl, rfl, rfl, by decide +kernel, rfl, by decide +kernel, by decide +kernel⟩ (fun _ _ _ _ _ _ us hl => match us, hl with | [_, _, _, _], _ => rfl) (cb_get c_law_beside) (fun args Φ _ h => v_law_beside args Φ h) (fun q hq => by cases hq)
def F_law_moved : FnS := ⟨"_law_moved", ["equation", "more"], sp_law_moved, []⟩
theorem c_law_moved : (coB 60 ⟨["equation", "more", "constant", "singles", "pairs", "i", "j"], defScope (tst 97), [], glbs, false, ["equation", "more", "constant", "singles", "pairs", "i", "j"]⟩ (defBody (tst 97))).map (·.d) = some D_law_moved := by kernel_rfl
theorem ok_law_moved (m : Mods K mg glbs) (tx : Texts K mg) : OkAt P w K mg base 1 F_law_moved := by
  obtain ⟨a, fd, T⟩ := tx _ (List.mem_of_getElem? (i := 70) rfl)
  exact add_def (k := 0) (f := F_law_moved) (N := ["equation", "more", "constant", "singles", "pairs", "i", "j"]) (own := ["equation", "more", "constant", "singles", "pairs", "i", "j"]) m AllOk.nil T ⟨rfl, rfl, rfl, by decide +kernel, rfl, by decide +kernel, by decide +kernel⟩ (fun _ _ _ _ _ _ us hl => match us, hl with | [_, _], _ => rfl) (cb_get c_law_moved) (fun args Φ _ h => v_law_moved args Φ h) (fun q hq => by cases hq)
theorem c_law : (coB 60 ⟨["script", "pot", "n", "m", "one", "other", "kept", "both", "due", "u", "more", "joined", "v", "sizes", "first", "second", "whole", "own", "i", "k"], defScope (tst 98), [F_law_pick, F_law_answers, F_law_system, F_law_spoilt, F_law_beside, F_law_draw, F_joined_equations, F_all_answers, F_law_proof, F_law_places, F_beside_systems, F_beside_proof, F_proof_row, F_proof_fault, F_passed_counts, F_law_counts, F_proof_of, F_law_moved], glbs, true, ["script", "pot", "n", "m", "one", "other", "kept", "both", "due", "u", "more", "joined", "v", "sizes", "first", "second", "whole", "own", "i", "k"]⟩ (defBody (tst 98)).tail).map (·.d) = some L82_0 := by kernel_rfl
theorem law_end (m : Mods K mg glbs) (tx : Texts K mg) {f : Addr} {fd : FuncData} (T : FunD K "law" "law" (defArgs (tst 98)) (defBody (tst 98)) (defScope (tst 98)) [] [] f fd) :
    RunsAt P w K mg base f fd ["script"] (fun vs H Q _ => (∃ (a : Addr) (ns : List Int), vs = [.ref a] ∧ SqL K H a (ns.map V.int) ∧ ns.length ≤ 63) ∧ ∀ H', Q (.bl true) H') := by
  obtain ⟨a, fd2, T2⟩ := tx _ (List.mem_of_getElem? (i := 47) rfl)
  have po := pot_ok (P := P) (w := w) (base := base) (q0 := ⟨245, 4, 245, 9⟩) (q1 := ⟨245, 11, 245, 15⟩) (q2 := ⟨245, 4, 245, 15⟩) (q3 := ⟨245, 20, 245, 21⟩) (q4 := ⟨245, 24, 245, 27⟩) (q5 := ⟨245, 28, 245, 31⟩) (q6 := ⟨245, 24, 245, 32⟩) (q7 := ⟨245, 20, 245, 32⟩) (q8 := ⟨245, 35, 245, 38⟩) (q9 := ⟨245, 39, 245, 42⟩) (q10 := ⟨245, 45, 245, 46⟩) (q11 := ⟨245, 39, 245, 46⟩) (q12 := ⟨245, 35, 245, 47⟩) (q13 := ⟨245, 20, 245, 47⟩) (q14 := ⟨245, 52, 245, 55⟩) (q15 := ⟨245, 59, 245, 65⟩) (q16 := ⟨245, 67, 245, 69⟩) (q17 := ⟨245, 66, 245, 69⟩) (q18 := ⟨245, 59, 245, 70⟩) (q19 := ⟨245, 19, 245, 71⟩) (q20 := ⟨245, 73, 245, 78⟩) (q21 := ⟨245, 81, 245, 84⟩) (q22 := ⟨245, 87, 245, 90⟩) (q23 := ⟨245, 91, 245, 97⟩) (q24 := ⟨245, 87, 245, 98⟩) (q25 := ⟨245, 81, 245, 98⟩) (q26 := ⟨245, 73, 245, 98⟩) (q27 := ⟨245, 18, 245, 99⟩) (q28 := ⟨245, 4, 245, 99⟩) (q29 := ⟨246, 8, 246, 12⟩) (q30 := ⟨246, 16, 246, 21⟩) (q31 := ⟨247, 8, 247, 12⟩) (q32 := ⟨247, 15, 247, 18⟩) (q33 := ⟨247, 19, 247, 23⟩) (q34 := ⟨247, 26, 247, 31⟩) (q35 := ⟨247, 19, 247, 31⟩) (q36 := ⟨247, 34, 247, 38⟩) (q37 := ⟨247, 19, 247, 38⟩) (q38 := ⟨247, 41, 247, 42⟩) (q39 := ⟨247, 19, 247, 42⟩) (q40 := ⟨247, 15, 247, 43⟩) (q41 := ⟨247, 46, 247, 56⟩) (q42 := ⟨247, 15, 247, 56⟩) (q43 := ⟨247, 8, 247, 56⟩) (q44 := ⟨246, 4, 247, 56⟩) (q45 := ⟨248, 12, 248, 19⟩) (q46 := ⟨248, 70, 248, 76⟩) (q47 := ⟨248, 84, 248, 90⟩) (q48 := ⟨248, 22, 248, 25⟩) (q49 := ⟨248, 30, 248, 33⟩) (q50 := ⟨248, 37, 248, 42⟩) (q51 := ⟨248, 46, 248, 49⟩) (q52 := ⟨248, 53, 248, 55⟩) (q53 := ⟨248, 59, 248, 61⟩) (q54 := ⟨248, 53, 248, 61⟩) (q55 := ⟨248, 46, 248, 61⟩) (q56 := ⟨248, 21, 248, 62⟩) (q57 := ⟨248, 66, 248, 67⟩) (q58 := ⟨248, 65, 248, 67⟩) (q59 := ⟨248, 63, 248, 67⟩) (q60 := ⟨248, 21, 248, 68⟩) (q61 := ⟨248, 78, 248, 82⟩) (q62 := ⟨248, 92, 248, 93⟩) (q63 := ⟨248, 11, 248, 94⟩) (q64 := ⟨248, 4, 248, 94⟩) m T2 (by kernel_rfl) (by kernel_rfl) rfl
  exact law_runs (k := 8) (N := ["script", "pot", "n", "m", "one", "other", "kept", "both", "due", "u", "more", "joined", "v", "sizes", "first", "second", "whole", "own", "i", "k"]) (own := ["script", "pot", "n", "m", "one", "other", "kept", "both", "due", "u", "more", "joined", "v", "sizes", "first", "second", "whole", "own", "i", "k"]) (px := ⟨376, 4, 376, 7⟩) (pf := ⟨376, 10, 376, 18⟩) (pa := ⟨376, 19, 376, 25⟩) (pc := ⟨376, 10, 376, 26⟩) (ps := ⟨376, 4, 376, 26⟩) (rest := (defBody (tst 98)).tail) (kp := 1) T m (AllOk.cons (AllOk.cons (AllOk.cons (AllOk.cons (AllOk.cons (AllOk.cons (AllOk.cons (AllOk.cons (AllOk.cons (AllOk.cons (AllOk.cons (AllOk.cons (AllOk.cons (AllOk.cons (AllOk.cons (AllOk.cons (AllOk.cons (AllOk.cons AllOk.nil ((ok_law_moved m tx).mono (by decide))) ((ok_proof_of m tx).mono (by decide))) ((ok_law_counts m tx).mono (by decide))) ((ok_passed_counts m tx).mono (by decide))) ((ok_proof_fault m tx).mono (by decide))) ((ok_proof_row m tx).mono (by decide))) ((ok_beside_proof m tx).mono (by decide))) ((ok_beside_systems m tx).mono (by decide))) ((ok_law_places m tx).mono (by decide))) ((ok_law_proof m tx).mono (by decide))) ((ok_all_answers m tx).mono (by decide))) ((ok_joined_equations m tx).mono (by decide))) ((ok_law_draw m tx).mono (by decide))) ((ok_law_beside m tx).mono (by decide))) ((ok_law_spoilt m tx).mono (by decide))) ((ok_law_system m tx).mono (by decide))) ((ok_law_answers m tx).mono (by decide))) ((ok_law_pick m tx).mono (by decide))) ⟨rfl, rfl, rfl, by decide +kernel, rfl, by decide +kernel, by decide +kernel⟩ ⟨rfl, by decide, by decide⟩ (by kernel_rfl) po (by decide) T2.mg T2.fun_.kp (T2.fun_.bindsN fun _ _ _ _ _ _ us hl => match us, hl with | [_], _ => rfl) rfl rfl (by decide +kernel) (loc_ok (by decide +kernel)) (by decide +kernel) (cb_get c_law) v_law_k82
end
def dAt (d : Str × Str × Nat) : He.DefD := ⟨(d.1, none), d.2.1, d.2.1, defArgs (tst d.2.2), defBody (tst d.2.2), defScope (tst d.2.2), [], []⟩
def hfn : List He.DefD := (txs ++ [(("law" : Str), ("law" : Str), 98)]).map dAt
def hfa : List He.Fa := (txs ++ [(("law" : Str), ("law" : Str), 98)]).map (fun d : Str × Str × Nat => He.Fa.glo d.1) ++ bltNames.map He.Fa.free ++ glbs.map fun p => .int p.1 p.2
def loose0 : List Str := ["__name__", "row_place", "row_at", "rows_added", "lot_row", "all_rows", "matrix_of", "laid_product", "MAX_EQUATIONS", "MAX_LETTERS", "MAX_LISTED", "MAX_PROVED", "BitError", "Unfit", "TooMany", "is_bit", "table_error", "table_letters", "value_at", "part_of", "crossed", "beside_proof", "signs_of", "stepped", "led_through", "spectrum", "crossed_sums", "shift_sums", "equation_value", "values_row"]
def loose1 : List Str := ["equation_told", "equations_sum", "passed_by", "both_shifts", "equations_passed", "choices_by", "products_passed", "power_of_two", "cubes_sum", "passed_of_spectrum", "sums_passed", "passed_counts", "sum_table", "unit_rows", "sum_row", "proof_error", "proof_of", "proof_row", "answers_list", "all_answers", "first_unlike", "proof_fault", "told_system", "beside_systems", "joined_equations", "_law_pot", "_law_draw", "_law_pick", "_law_mixed", "_law_rows"]
def loose2 : List Str := ["_law_place", "_law_product", "_law_outer", "_law_value", "_law_system", "_law_answers", "_law_sum", "_law_sum_table", "_law_proof", "_law_spoilt", "_law_shift", "_law_sums_passed", "_law_products_passed", "_law_row_passed", "_law_equations_passed", "_law_counts", "_law_places", "_law_beside", "_law_moved"]
def loose : List Str := loose0 ++ loose1 ++ loose2
abbrev RR : PySem.W.OpenRow := PySem.W.OpenLaw.row PySem.Challenge.rw_fewbitsread_k82_whole_beside_along
abbrev hk : PySem.W.Hook := He.hookD 4 hfa hfn
def ob (s : PySem.W.SharedT) : He.AlD := He.obsDG 4 hfa hfn (HandSHeadRun.getT s)
theorem ob_eq (s : PySem.W.SharedT) : ob s = hk.obs s.abs := He.obsDG_eq (HandSHeadRun.getT_eq s)
theorem hrun (w : World) : HandSHeadRun.RunEq RR (PySem.W.view RR.prog [98]) hk ob 6000 loose w := by
  intro os
  kernel_rfl
theorem texts_of {K : PySem.W.Frag} {h : Heap} {mg : Str → Option Value} (X : K.In h) (G : h.Ns mainGlobals mg) (c : He.SaysD hfa hfn K) : Texts K mg := by
  intro d hd
  obtain ⟨i, hi⟩ := List.getElem?_of_mem hd
  have hl : i < txs.length := (List.getElem?_eq_some_iff.mp hi).1
  have e1 : hfn[i]? = some (dAt d) := by
    unfold hfn
    rw [List.getElem?_map, List.getElem?_append_left hl, hi]; rfl
  have e2 : hfa[i]? = some (.glo d.1) := by
    unfold hfa
    rw [List.getElem?_append_left (by simp; omega), List.getElem?_append_left (by simp; omega), List.getElem?_map, List.getElem?_append_left hl, hi]; rfl
  obtain ⟨fd, F⟩ := c.def_ i e1
  exact ⟨_, fd, F, He.glo_ok X G (c.fact i e2)⟩
theorem mods_of {K : PySem.W.Frag} {h : Heap} {mg : Str → Option Value} (X : K.In h) (G : h.Ns mainGlobals mg) (c : He.SaysD hfa hfn K) : Mods K mg glbs := by
  refine ⟨fun x hx => ?_, fun p hp => ?_⟩
  · obtain ⟨i, hi⟩ := List.getElem?_of_mem (show He.Fa.free x ∈ hfa by unfold hfa; simp [hx])
    exact He.free_ok X G (c.fact i hi)
  · obtain ⟨i, hi⟩ := List.getElem?_of_mem (show He.Fa.int p.1 p.2 ∈ hfa by unfold hfa; exact List.mem_append_right _ (List.mem_map.mpr ⟨p, hp, rfl⟩))
    exact He.int_ok X G (c.fact i hi)
theorem law_fact {K : PySem.W.Frag} {h : Heap} {mg : Str → Option Value} {f : Addr} (X : K.In h) (G : h.Ns mainGlobals mg) (hf : mg ("law" : Str) = some (.ref f)) (c : He.SaysD hfa hfn K) :
    ∃ fd, FunD K "law" "law" (defArgs (tst 98)) (defBody (tst 98)) (defScope (tst 98)) [] [] f fd := by
  obtain ⟨fd, F⟩ := c.def_ 71 (d := dAt ("law", "law", 98)) (by rfl)
  have e := hf.symm.trans (He.glo_ok X G (c.fact 71 (f := .glo "law") (by rfl)))
  cases e
  exact ⟨fd, F⟩
end Ev
open PySem PySem.W PySem.Calls PyProof.Rows
theorem PySem.Challenge.cw_fewbitsread_k82_whole_beside_along_holds : PySem.Challenge.rw_fewbitsread_k82_whole_beside_along.Holds := by
  w_on; o_law
  refine HandSHeadRun.head_any (r := OpenLaw.row PySem.Challenge.rw_fewbitsread_k82_whole_beside_along) (q := view (OpenLaw.row PySem.Challenge.rw_fewbitsread_k82_whole_beside_along).prog [98]) (H := Ev.hk) (ob := Ev.ob) (M := 6000) (loose := Ev.loose) (d := HandSHeadRun.topDef (OpenLaw.row PySem.Challenge.rw_fewbitsread_k82_whole_beside_along).prog 98) (kwd := []) Ev.ob_eq
    (by kernel_rfl) (fun s => by kernel_rfl) Ev.hrun (by kernel_rfl) (by kernel_rfl) (by kernel_rfl) (by rfl) (by first | assumption | decide +kernel) (by decide +kernel) ⟨rfl, rfl, rfl, rfl, rfl, by decide +kernel⟩ ?hw ?hc
  case hw => w_witness2
  case hc =>
    refine Ev.walk_law (l := PySem.Challenge.rw_fewbitsread_k82_whole_beside_along) (n := 63) (x := "script") rfl (by decide) (by kernel_rfl) ?F
    intro w mg fa h Y G hmg0
    obtain ⟨K, KX, c⟩ := Y
    have hmg : mg ("law" : PySem.Str) = some (.ref fa) := by
      have e : (HandSHeadRun.topDef (OpenLaw.row PySem.Challenge.rw_fewbitsread_k82_whole_beside_along).prog 98).name = ("law" : PySem.Str) := by kernel_rfl
      rw [← e]
      exact hmg0
    obtain ⟨fd, F⟩ := Ev.law_fact KX G hmg c
    have b := L2.FunD.bindsA (ps := ["script"]) F fun _ _ _ _ _ _ us hl => match us, hl with | [_], _ => rfl
    refine ⟨K, fd, _, KX, fun s v => b s [v] rfl, ?_, fun base _ _ => Ev.law_end (Ev.mods_of KX G c) (Ev.texts_of KX G c) F⟩
    exact fun H a ns hl _ hS => ⟨⟨a, ns, rfl, hS, hl⟩, fun _ => rfl⟩
